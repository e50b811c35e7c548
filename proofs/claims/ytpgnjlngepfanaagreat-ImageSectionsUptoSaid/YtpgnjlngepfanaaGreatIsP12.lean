/- Part 12 of the proof: contracts of functions of the program and what they need. No condition beyond those that each theorem names. -/
import Derived.Test.YtpgnjlngepfanaaGreatIsP11
import Derived.Test.YtpgnjlngepfanaaGreatProg
import Derived.KernelRfl
set_option maxRecDepth 100000
set_option linter.unusedVariables false
namespace Go.Proofs.YtpgnjlngepfanaaGreat
open Go.Eng
open Go.Eng.Im
theorem laidOutK : laidOutB Tryz.prog = true := by kernel_rfl
theorem mixedK : Tryz.prog.follows .mixedOrders = true := by kernel_rfl
theorem says18 : EvK.k_saysT Tryz.prog (fun _ => false) 100000 18 = true := by kernel_rfl
theorem known : Ev.Says Tryz.prog 18 :=
 Ev.closed_says laidOutK mixedK (T := fun _ => false) (fun _ h => (by cases h)) (n := 100000) (by rw [← EvK.k_saysT_eq]; exact says18)
theorem says_pure {P : Program} {f : FuncId} (h : Ev.Says P f) : PCall P f [] (.b true) := fun H => ⟨h.1, fun B I w vs hw hh hv => by
 cases hv
 refine (h.2 w).mono fun e w' ⟨he, hb⟩ => ?_
 have hk : Ext B I w I w' := ⟨fun _ _ x => x, fun b o hI => hb.cell (hw.lt hI), hb.mono hw.base⟩
 exact ⟨I, H, ⟨Nat.le_trans hw.base hb.size, fun b o hI => by rw [hk.cell b o hI]; exact hw.there b o hI⟩, hk, hh.keep hk.keeps (fun e he b hf => hb.block b (Ent.foot_lt (hh.ok e he) hf).2) (fun _ _ _ _ _ x => x), .inl ⟨_, _, he, .val _, rfl, rfl⟩⟩⟩
theorem imageSections (l : List U8) (hl : l.length ≤ 1048576) : PCall Tryz.prog 5 [u8s l] (.b true) := q5 (says_pure known) l hl
end Go.Proofs.YtpgnjlngepfanaaGreat
