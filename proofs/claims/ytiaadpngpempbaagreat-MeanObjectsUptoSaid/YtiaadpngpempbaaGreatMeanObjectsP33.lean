/- Part 33 of the proof: contracts of functions of the program and what they need. No condition beyond those that each theorem names. -/
import Derived.Test.YtiaadpngpempbaaGreatMeanObjectsP32
set_option maxHeartbeats 1000000
set_option maxRecDepth 100000
namespace Go.Proofs.YtiaadpngpempbaaGreat
open Go.Ev Go.Eng
theorem IA_r13924:RecS Tryz.prog IA_a13924:=rec_run laidOutK mixedK (l:=[IA_a14418]) (rsC IA_r14418 rs0) (n:=1000) (by kernel_rfl)
end Go.Proofs.YtiaadpngpempbaaGreat
