/- Part 22 of the proof: contracts of functions of the program and what they need. No condition beyond those that each theorem names. -/
import Derived.Test.YtiaadpngpempbaaGreatMeanObjectsP17
import Derived.Test.YtiaadpngpempbaaGreatMeanObjectsP18
import Derived.Test.YtiaadpngpempbaaGreatMeanObjectsP19
import Derived.Test.YtiaadpngpempbaaGreatMeanObjectsP20
import Derived.Test.YtiaadpngpempbaaGreatMeanObjectsP21
set_option maxHeartbeats 1000000
set_option maxRecDepth 100000
namespace Go.Proofs.YtiaadpngpempbaaGreat
open Go.Ev Go.Eng
theorem IA_r2005:RecS Tryz.prog IA_a2005:=rec_run laidOutK mixedK (l:=[IA_a2508,IA_a3112,IA_a3616,IA_a4224,IA_a4728]) (rsC IA_r2508 (rsC IA_r3112 (rsC IA_r3616 (rsC IA_r4224 (rsC IA_r4728 rs0))))) (n:=1000) (by kernel_rfl)
end Go.Proofs.YtiaadpngpempbaaGreat
