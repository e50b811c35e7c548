/- Part 15 of the proof: contracts of functions of the program and what they need. No condition beyond those that each theorem names. -/
import Derived.Test.YtdobapekmlihdabGreatIsP14
set_option maxRecDepth 100000
namespace Go.Proofs.YtdobapekmlihdabGreat
open Go.Ev Go.Eng
theorem KC_fin : EvK.k_endT Tryz.prog (fun _ => false) 100000 13 9 ⟨190, KC_e5, [], none⟩ ⟨KC_h5, 12167, 0, 0⟩ = true := by kernel_rfl
end Go.Proofs.YtdobapekmlihdabGreat
