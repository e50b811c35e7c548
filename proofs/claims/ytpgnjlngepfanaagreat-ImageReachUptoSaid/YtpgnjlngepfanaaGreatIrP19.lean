/- Part 19 of the proof: contracts of functions of the program and what they need. No condition beyond those that each theorem names. -/
import Derived.Test.YtpgnjlngepfanaaGreatIrP18
set_option maxRecDepth 100000
namespace Go.Proofs.YtpgnjlngepfanaaGreat
open Go.Ev Go.Eng
theorem IA_fin : Ev.endT Tryz.prog (fun _ => false) 100000 18 14 ⟨187, IA_e4, [], none⟩ ⟨IA_h4, 3271, 0, 0⟩ = true := by kernel_rfl
end Go.Proofs.YtpgnjlngepfanaaGreat
