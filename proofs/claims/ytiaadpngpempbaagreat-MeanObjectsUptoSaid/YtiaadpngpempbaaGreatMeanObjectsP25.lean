/- Part 25 of the proof: contracts of functions of the program and what they need. No condition beyond those that each theorem names. -/
import Derived.Test.YtiaadpngpempbaaGreatMeanObjectsP16
import Derived.Test.YtiaadpngpempbaaGreatMeanObjectsP24
set_option maxHeartbeats 1000000
set_option maxRecDepth 100000
namespace Go.Proofs.YtiaadpngpempbaaGreat
open Go.Ev Go.Eng
theorem IA_r504:RecS Tryz.prog IA_a504:=rec_run laidOutK mixedK (l:=[IA_a999,IA_a1497]) (rsC IA_r999 (rsC IA_r1497 rs0)) (n:=1000) (by kernel_rfl)
end Go.Proofs.YtiaadpngpempbaaGreat
