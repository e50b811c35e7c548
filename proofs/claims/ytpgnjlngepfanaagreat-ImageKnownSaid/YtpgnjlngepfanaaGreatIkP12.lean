/- Part 12 of the proof: contracts of functions of the program and what they need. No condition beyond those that each theorem names. -/
import Derived.Test.YtpgnjlngepfanaaGreatIkP11
set_option maxRecDepth 100000
namespace Go.Proofs.YtpgnjlngepfanaaGreat
theorem says13 : EvK.k_saysT Tryz.prog (fun f => Nat.beq f 18) 100000 13 = true := by kernel_rfl
theorem imageKnown : Ev.Says Tryz.prog 13 :=
 Ev.closed_says laidOut mixed (T := fun f => Nat.beq f 18) (fun f h => (by rw [Nat.eq_of_beq_eq_true h]; exact known)) (n := 100000) (by rw [← EvK.k_saysT_eq]; exact says13)
end Go.Proofs.YtpgnjlngepfanaaGreat
