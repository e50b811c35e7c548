/- Part 15 of the proof: contracts of functions of the program and what they need. No condition beyond those that each theorem names. -/
import Derived.Test.YtpgnjlngepfanaaGreatIrP14
import Derived.Test.YtpgnjlngepfanaaGreatProg
import Derived.KernelRfl
set_option maxRecDepth 100000
namespace Go.Proofs.YtpgnjlngepfanaaGreat
open Go.Ev Go.Eng
abbrev J {α : Type} (x : α) : Tr α := .node .nil (some x) .nil
abbrev L {α : Type} (l : Tr α) : Tr α := .node l none .nil
abbrev R {α : Type} (r : Tr α) : Tr α := .node .nil none r
abbrev N {α : Type} (l r : Tr α) : Tr α := .node l none r
def IA_e1 : Tr CV := (.node (N (L (J (.val (.int .i64 (.ofNat 0))))) (J (.val (.int .i64 (.ofNat 4))))) (some (.val (.bool false))) (.node (J (.sl 495 0 1 none 1)) (some (.val (.int .i64 (.ofNat 0)))) (J (.sl 857 0 2 none 1))))
def IA_h1 : Tr CO := (L (N (L (L (R (R (R (R (J (.row 3 [(.val (.int .i64 (.ofNat 0)))] true)))))))) (L (R (R (L (R (L (R (J (.row 3 [(.val (.int .i64 (.ofNat 1))), (.val (.int .i64 (.ofNat 0)))] true)))))))))))
theorem IA_seg1 : Ev.segT Tryz.prog (fun _ => false) 100000 18 0 9 [0, 2, 4, 5, 6, 7] [495, 857] (fr0 Tryz.prog 18) S0 = some (⟨187, IA_e1, [], none⟩, ⟨IA_h1, 859, 0, 0⟩) := by kernel_rfl
end Go.Proofs.YtpgnjlngepfanaaGreat
