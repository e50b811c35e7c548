/- Part 36 of the proof: contracts of functions of the program and what they need. No condition beyond those that each theorem names. -/
import Derived.Test.YtogjaoodkaahoaaGreatVowJudgesP22
import Derived.Test.YtogjaoodkaahoaaGreatVowJudgesP23
import Derived.Test.YtogjaoodkaahoaaGreatVowJudgesP24
import Derived.Test.YtogjaoodkaahoaaGreatVowJudgesP25
import Derived.Test.YtogjaoodkaahoaaGreatVowJudgesP26
import Derived.Test.YtogjaoodkaahoaaGreatVowJudgesP27
import Derived.Test.YtogjaoodkaahoaaGreatVowJudgesP28
import Derived.Test.YtogjaoodkaahoaaGreatVowJudgesP29
import Derived.Test.YtogjaoodkaahoaaGreatVowJudgesP30
import Derived.Test.YtogjaoodkaahoaaGreatVowJudgesP31
import Derived.Test.YtogjaoodkaahoaaGreatVowJudgesP32
import Derived.Test.YtogjaoodkaahoaaGreatVowJudgesP33
import Derived.Test.YtogjaoodkaahoaaGreatVowJudgesP34
import Derived.Test.YtogjaoodkaahoaaGreatVowJudgesP35
set_option maxHeartbeats 1000000
set_option maxRecDepth 100000
namespace Go.Proofs.YtogjaoodkaahoaaGreat
open Go.Ev Go.Eng
theorem IB_r1869:RecS Tryz.prog IB_a1869:=rec_run laidOutK mixedK (l:=[IB_a1870,IB_a2584,IB_a2750,IB_a2927,IB_a3259,IB_a3426,IB_a3599,IB_a3776,IB_a4152,IB_a4481,IB_a4815,IB_a5157,IB_a5343,IB_a5565]) (rsC IB_r1870 (rsC IB_r2584 (rsC IB_r2750 (rsC IB_r2927 (rsC IB_r3259 (rsC IB_r3426 (rsC IB_r3599 (rsC IB_r3776 (rsC IB_r4152 (rsC IB_r4481 (rsC IB_r4815 (rsC IB_r5157 (rsC IB_r5343 (rsC IB_r5565 rs0)))))))))))))) (n:=1000) (by kernel_rfl)
end Go.Proofs.YtogjaoodkaahoaaGreat
