/- The last record of the closed run. No condition. -/
import Derived.Test.YtogjaoodkaahoaaGreatVowJudgesP21
import Derived.Test.YtogjaoodkaahoaaGreatVowJudgesP36
import Derived.Test.YtogjaoodkaahoaaGreatVowJudgesP38
import Derived.Test.YtogjaoodkaahoaaGreatVowJudgesP42
import Derived.Test.YtogjaoodkaahoaaGreatVowJudgesP43
import Derived.Test.YtogjaoodkaahoaaGreatVowJudgesP46
set_option maxRecDepth 100000
namespace Go.Proofs.YtogjaoodkaahoaaGreat
open Go.Ev Go.Eng
theorem IB_r0:RecS Tryz.prog IB_a0:=rec_run laidOutK mixedK (l:=[IB_a14,IB_a1869,IB_a5845,IB_a8347,IB_a11324,IB_a12151]) (rsC IB_r14 (rsC IB_r1869 (rsC IB_r5845 (rsC IB_r8347 (rsC IB_r11324 (rsC IB_r12151 rs0)))))) (n:=1000) (by kernel_rfl)
theorem known:Ev.Says Tryz.prog 14:=rec_says IB_r0 rfl rfl rfl rfl
end Go.Proofs.YtogjaoodkaahoaaGreat
