/- Part 25 of the proof: contracts of functions of the program and what they need. No condition beyond those that each theorem names. -/
import Derived.Test.YtogjaoodkaahoaaGreatKindMaysP19
import Derived.Test.YtogjaoodkaahoaaGreatKindMaysP20
import Derived.Test.YtogjaoodkaahoaaGreatKindMaysP21
set_option maxHeartbeats 1000000
set_option maxRecDepth 100000
namespace Go.Proofs.YtogjaoodkaahoaaGreat
open Go.Ev Go.Eng
theorem IA_r5078:RecS Tryz.prog IA_a5078:=rec_run laidOutK mixedK (l:=[IA_a1127,IA_a1524,IA_a1784]) (rsC IA_r1127 (rsC IA_r1524 (rsC IA_r1784 rs0))) (n:=1000) (by kernel_rfl)
end Go.Proofs.YtogjaoodkaahoaaGreat
