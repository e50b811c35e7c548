/- Part 40 of the proof: contracts of functions of the program and what they need. No condition beyond those that each theorem names. -/
import Derived.Test.YtogjaoodkaahoaaGreatVowJudgesP39
set_option maxHeartbeats 1000000
set_option maxRecDepth 100000
namespace Go.Proofs.YtogjaoodkaahoaaGreat
open Go.Ev Go.Eng
theorem IB_r9513:RecS Tryz.prog IB_a9513:=rec_run laidOutK mixedK (l:=[IB_a10391]) (rsC IB_r10391 rs0) (n:=1000) (by kernel_rfl)
end Go.Proofs.YtogjaoodkaahoaaGreat
