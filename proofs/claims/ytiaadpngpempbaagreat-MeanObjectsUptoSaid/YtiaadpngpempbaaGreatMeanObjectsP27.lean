/- Part 27 of the proof: contracts of functions of the program and what they need. No condition beyond those that each theorem names. -/
import Derived.Test.YtiaadpngpempbaaGreatMeanObjectsP22
import Derived.Test.YtiaadpngpempbaaGreatMeanObjectsP26
set_option maxHeartbeats 1000000
set_option maxRecDepth 100000
namespace Go.Proofs.YtiaadpngpempbaaGreat
open Go.Ev Go.Eng
theorem IA_r7719:RecS Tryz.prog IA_a7719:=rec_run laidOutK mixedK (l:=[IA_a2005,IA_a11722]) (rsC IA_r2005 (rsC IA_r11722 rs0)) (n:=1000) (by kernel_rfl)
end Go.Proofs.YtiaadpngpempbaaGreat
