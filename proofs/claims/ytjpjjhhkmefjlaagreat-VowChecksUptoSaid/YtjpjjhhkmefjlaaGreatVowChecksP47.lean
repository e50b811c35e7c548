/- Part 47 of the proof: contracts of functions of the program and what they need. No condition beyond those that each theorem names. -/
import Derived.Test.YtjpjjhhkmefjlaaGreatVowChecksP21
import Derived.Test.YtjpjjhhkmefjlaaGreatVowChecksP36
import Derived.Test.YtjpjjhhkmefjlaaGreatVowChecksP38
import Derived.Test.YtjpjjhhkmefjlaaGreatVowChecksP42
import Derived.Test.YtjpjjhhkmefjlaaGreatVowChecksP43
import Derived.Test.YtjpjjhhkmefjlaaGreatVowChecksP46
set_option maxHeartbeats 1000000
set_option maxRecDepth 100000
namespace Go.Proofs.YtjpjjhhkmefjlaaGreat
open Go.Ev Go.Eng
theorem IB_r0:RecS Tryz.prog IB_a0:=rec_run laidOutK mixedK (l:=[IB_a14,IB_a1869,IB_a5845,IB_a8347,IB_a11324,IB_a12151]) (rsC IB_r14 (rsC IB_r1869 (rsC IB_r5845 (rsC IB_r8347 (rsC IB_r11324 (rsC IB_r12151 rs0)))))) (n:=1000) (by kernel_rfl)
theorem known:Ev.Says Tryz.prog 21:=rec_says IB_r0 rfl rfl rfl rfl
end Go.Proofs.YtjpjjhhkmefjlaaGreat
