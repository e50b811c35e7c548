/- Part 15 of the proof: contracts of functions of the program and what they need. No condition beyond those that each theorem names. -/
import Derived.Test.YtdobapekmlihdaaGreatIsP14
set_option maxRecDepth 100000
namespace Go.Proofs.YtdobapekmlihdaaGreat
open Go.Ev Go.Eng
theorem KA_fin : EvK.k_endT Tryz.prog (fun _ => false) 100000 11 10 ⟨117, KA_e5, [], none⟩ ⟨KA_h5, 11770, 0, 0⟩ = true := by kernel_rfl
end Go.Proofs.YtdobapekmlihdaaGreat
