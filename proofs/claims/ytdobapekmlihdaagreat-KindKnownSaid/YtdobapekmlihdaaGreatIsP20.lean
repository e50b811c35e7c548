/- Part 20 of the proof: contracts of functions of the program and what they need. No condition beyond those that each theorem names. -/
import Derived.Test.YtdobapekmlihdaaGreatIsP19
set_option maxRecDepth 100000
namespace Go.Proofs.YtdobapekmlihdaaGreat
open Go.Ev Go.Eng
theorem KB_fin : EvK.k_endT Tryz.prog (fun f => Nat.beq f 11) 100000 3 10 ⟨101, KB_e4, [], none⟩ ⟨KB_h4, 10669, 0, 0⟩ = true := by kernel_rfl
end Go.Proofs.YtdobapekmlihdaaGreat
