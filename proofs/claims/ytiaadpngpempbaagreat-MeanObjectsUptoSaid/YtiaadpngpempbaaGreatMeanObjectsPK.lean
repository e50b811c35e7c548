/- The last record of the closed run. No condition. -/
import Derived.Test.YtiaadpngpempbaaGreatMeanObjectsP25
import Derived.Test.YtiaadpngpempbaaGreatMeanObjectsP29
import Derived.Test.YtiaadpngpempbaaGreatMeanObjectsP31
import Derived.Test.YtiaadpngpempbaaGreatMeanObjectsP33
import Derived.Test.YtiaadpngpempbaaGreatMeanObjectsP34
import Derived.Test.YtiaadpngpempbaaGreatMeanObjectsP37
import Derived.Test.YtiaadpngpempbaaGreatMeanObjectsP40
import Derived.Test.YtiaadpngpempbaaGreatMeanObjectsP42
import Derived.Test.YtiaadpngpempbaaGreatMeanObjectsP44
set_option maxRecDepth 100000
namespace Go.Proofs.YtiaadpngpempbaaGreat
open Go.Ev Go.Eng
theorem IA_r0:RecS Tryz.prog IA_a0:=rec_run laidOutK mixedK (l:=[IA_a504,IA_a6232,IA_a12437,IA_a13924,IA_a15424,IA_a19268,IA_a24231,IA_a29810,IA_a34670]) (rsC IA_r504 (rsC IA_r6232 (rsC IA_r12437 (rsC IA_r13924 (rsC IA_r15424 (rsC IA_r19268 (rsC IA_r24231 (rsC IA_r29810 (rsC IA_r34670 rs0))))))))) (n:=1000) (by kernel_rfl)
theorem known:Ev.Says Tryz.prog 9:=rec_says IA_r0 rfl rfl rfl rfl
end Go.Proofs.YtiaadpngpempbaaGreat
