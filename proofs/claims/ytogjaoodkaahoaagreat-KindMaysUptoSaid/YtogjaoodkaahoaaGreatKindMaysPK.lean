/- The last record of the closed run. No condition. -/
import Derived.Test.YtogjaoodkaahoaaGreatKindMaysP22
import Derived.Test.YtogjaoodkaahoaaGreatKindMaysP23
import Derived.Test.YtogjaoodkaahoaaGreatKindMaysP24
import Derived.Test.YtogjaoodkaahoaaGreatKindMaysP25
import Derived.Test.YtogjaoodkaahoaaGreatKindMaysP26
import Derived.Test.YtogjaoodkaahoaaGreatKindMaysP27
import Derived.Test.YtogjaoodkaahoaaGreatKindMaysP29
set_option maxRecDepth 100000
namespace Go.Proofs.YtogjaoodkaahoaaGreat
open Go.Ev Go.Eng
theorem IA_r0:RecS Tryz.prog IA_a0:=rec_run laidOutK mixedK (l:=[IA_a254,IA_a2164,IA_a3183,IA_a5078,IA_a7064,IA_a8934,IA_a10878]) (rsC IA_r254 (rsC IA_r2164 (rsC IA_r3183 (rsC IA_r5078 (rsC IA_r7064 (rsC IA_r8934 (rsC IA_r10878 rs0))))))) (n:=1000) (by kernel_rfl)
theorem known:Ev.Says Tryz.prog 18:=rec_says IA_r0 rfl rfl rfl rfl
end Go.Proofs.YtogjaoodkaahoaaGreat
