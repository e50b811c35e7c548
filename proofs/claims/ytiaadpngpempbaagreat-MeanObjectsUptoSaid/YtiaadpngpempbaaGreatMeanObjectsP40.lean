/- Part 40 of the proof: contracts of functions of the program and what they need. No condition beyond those that each theorem names. -/
import Derived.Test.YtiaadpngpempbaaGreatMeanObjectsP18
import Derived.Test.YtiaadpngpempbaaGreatMeanObjectsP39
set_option maxHeartbeats 1000000
set_option maxRecDepth 100000
namespace Go.Proofs.YtiaadpngpempbaaGreat
open Go.Ev Go.Eng
theorem IA_r24231:RecS Tryz.prog IA_a24231:=rec_run laidOutK mixedK (l:=[IA_a3112,IA_a25243]) (rsC IA_r3112 (rsC IA_r25243 rs0)) (n:=1000) (by kernel_rfl)
end Go.Proofs.YtiaadpngpempbaaGreat
