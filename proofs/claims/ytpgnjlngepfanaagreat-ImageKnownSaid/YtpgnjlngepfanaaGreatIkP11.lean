/- Part 11 of the proof: contracts of functions of the program and what they need. No condition beyond those that each theorem names. -/
import Derived.Test.YtpgnjlngepfanaaGreatIkP10
import Derived.Test.YtpgnjlngepfanaaGreatProg
import Derived.KernelRfl
set_option maxRecDepth 100000
namespace Go.Proofs.YtpgnjlngepfanaaGreat
open Go.Eng
theorem laidOut : laidOutB Tryz.prog = true := by kernel_rfl
theorem mixed : Tryz.prog.follows .mixedOrders = true := by kernel_rfl
theorem says18 : EvK.k_saysT Tryz.prog (fun _ => false) 100000 18 = true := by kernel_rfl
theorem known : Ev.Says Tryz.prog 18 :=
 Ev.closed_says laidOut mixed (T := fun _ => false) (fun _ h => (by cases h)) (n := 100000) (by rw [← EvK.k_saysT_eq]; exact says18)
end Go.Proofs.YtpgnjlngepfanaaGreat
