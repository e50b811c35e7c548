/- Part 38 of the proof: contracts of functions of the program and what they need. No condition beyond those that each theorem names. -/
import Derived.Test.YtogjaoodkaahoaaGreatVowJudgesP19
import Derived.Test.YtogjaoodkaahoaaGreatVowJudgesP37
set_option maxHeartbeats 1000000
set_option maxRecDepth 100000
namespace Go.Proofs.YtogjaoodkaahoaaGreat
open Go.Ev Go.Eng
theorem IB_r5845:RecS Tryz.prog IB_a5845:=rec_run laidOutK mixedK (l:=[IB_a15,IB_a7599]) (rsC IB_r15 (rsC IB_r7599 rs0)) (n:=1000) (by kernel_rfl)
end Go.Proofs.YtogjaoodkaahoaaGreat
