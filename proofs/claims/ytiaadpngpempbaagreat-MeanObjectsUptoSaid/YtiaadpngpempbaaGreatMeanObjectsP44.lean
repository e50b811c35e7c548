/- Part 44 of the proof: contracts of functions of the program and what they need. No condition beyond those that each theorem names. -/
import Derived.Test.YtiaadpngpempbaaGreatMeanObjectsP43
set_option maxHeartbeats 1000000
set_option maxRecDepth 100000
namespace Go.Proofs.YtiaadpngpempbaaGreat
open Go.Ev Go.Eng
theorem IA_r34670:RecS Tryz.prog IA_a34670:=rec_run laidOutK mixedK (l:=[IA_a35164]) (rsC IA_r35164 rs0) (n:=1000) (by kernel_rfl)
end Go.Proofs.YtiaadpngpempbaaGreat
