/- Part 20 of the proof: contracts of functions of the program and what they need. No condition beyond those that each theorem names. -/
import Derived.Test.YtdobapekmlihdabGreatIsP19
set_option maxRecDepth 100000
namespace Go.Proofs.YtdobapekmlihdabGreat
open Go.Ev Go.Eng
theorem KD_fin : EvK.k_endT Tryz.prog (fun f => Nat.beq f 13) 100000 3 13 ⟨193, KD_e4, [], none⟩ ⟨KD_h4, 9425, 0, 0⟩ = true := by kernel_rfl
end Go.Proofs.YtdobapekmlihdabGreat
