/- Part 8 of the proof: contracts of functions of the program and what they need. No condition beyond those that each theorem names. -/
import Derived.Test.YtiljpbljebfhnaaGreatKP7
import Derived.Shelf.Sort.Plain
import Derived.Shelf.Slices.In.SortNone
import Derived.Sort.OwnSortedInts
set_option linter.unusedVariables false
set_option linter.unusedSimpArgs false
set_option maxRecDepth 10000
namespace Go.Proofs.YtiljpbljebfhnaaGreat
open Go.Eng
open Go.Eng.Fc
def goodSpot (arg : Int) (path : List Int) : Prop := 0 ≤ arg ∧ arg < 1000 ∧ path.length ≤ 2 ∧ ∀ s ∈ path, 0 ≤ s ∧ s < 1000
theorem getD_good {path : List Int} (h : ∀ s ∈ path, 0 ≤ s ∧ s < 1000) (i : Nat) : 0 ≤ path.getD i 0 ∧ path.getD i 0 < 1000 := by
  rw [List.getD_eq_getElem?_getD]
  by_cases hi : i < path.length
  · rw [List.getElem?_eq_getElem hi]; exact h _ (List.getElem_mem hi)
  · rw [List.getElem?_eq_none (by omega)]; decide
theorem wf_small {n : Int} (h : 0 ≤ n ∧ n < 1000) : (Go.Lit.int .i64 n).wf = true := by
  have e1 : IntKind.i64.min = -9223372036854775808 := by decide
  have e2 : IntKind.i64.max = 9223372036854775807 := by decide
  simp only [Go.Lit.wf, e1, e2, Bool.and_eq_true, decide_eq_true_eq]
  omega
theorem goodKey_of {arg : Int} {path : List Int} (h : goodSpot arg path) : goodKey Tryz.prog 158 (keyS arg path) :=
  goodKey_spot (i := 3) (ar := 156) (m := Tryz.prog.types.size - 2) (by kernel_rfl) (by kernel_rfl) (by kernel_rfl) (by kernel_rfl) (by kernel_rfl) (by kernel_rfl) (by kernel_rfl) (by kernel_rfl) (wf_small ⟨h.1, h.2.1⟩) (wf_small ⟨by omega, by have := h.2.2.1; omega⟩) (wf_small (getD_good h.2.2.2 0)) (wf_small (getD_good h.2.2.2 1))
theorem good_next {arg : Int} {path : List Int} {s : Int} (h : goodSpot arg path) (hl : path.length < 2) (hs : 0 ≤ s ∧ s < 1000) : goodSpot arg (path ++ [s]) := by
  refine ⟨h.1, h.2.1, by simp; omega, fun x hx => ?_⟩
  rcases List.mem_append.1 hx with hx | hx
  · exact h.2.2.2 x hx
  · simp at hx; subst hx; exact hs
end Go.Proofs.YtiljpbljebfhnaaGreat

set_option linter.unusedVariables false
set_option linter.unusedSimpArgs false
set_option maxRecDepth 10000
namespace Go.Proofs.YtiljpbljebfhnaaGreat
open Go.Eng
open Go.Eng.Fc
/-- what the asking phase leans on -/
structure KnOk (W : FW) (kn : Value → Kn) : Prop where
  slot : ∀ arg path, goodSpot arg path → ∀ s ∈ (kn (keyS arg path)).slots, 0 ≤ s ∧ s < W.owner.length
  deep : ∀ arg path, goodSpot arg path → path.length = 2 → (kn (keyS arg path)).slots = []
  must : ∀ v, (kn v).must < 18446744073709551616
  no : ∀ v, (kn v).no < 18446744073709551616
  low : ∀ v, -2000000000 ≤ (kn v).low ∧ (kn v).low ≤ 2000000000
  nots : ∀ v, (kn v).nots.length ≤ 1000
theorem kn_next {W : FW} {kn : Value → Kn} (K : KnOk W kn) (hW : W.owner.length ≤ 40) {arg : Int} {path : List Int} (h : goodSpot arg path) {s : Int} (hs : s ∈ (kn (keyS arg path)).slots) : path.length < 2 ∧ goodSpot arg (path ++ [s]) := by
  have h1 := K.slot arg path h s hs
  have hl : path.length < 2 := by
    have := h.2.2.1
    rcases Nat.lt_or_ge path.length 2 with h2 | h2
    · exact h2
    · rw [K.deep arg path h (by omega)] at hs; cases hs
  exact ⟨hl, good_next h hl ⟨h1.1, by omega⟩⟩
theorem p225 (W : FW) (mb : Nat) (kn : Value → Kn) (arg : Int) (path : List Int) (slot : Int) (hl : path.length < 2) (h : goodSpot arg (path ++ [slot])) :
    PCallIn Tryz.prog [sceneH mb kn] 225 [.i slot, .ptr [sceneP W mb], .ptr (spotCells arg path)] (.b (!(kn (keyS arg (path ++ [slot]))).needed)) := by
  intro H hm
  refine ACall.mk' (n := 14) Tryz.func225 rfl (by kernel_rfl) rfl rfl (fun B I w0 => ?_)
  refine CW.seq ?_
  refine CW.region ?_
  refine OL.popC rfl rfl rfl (POp.assign rfl rfl rfl) ?_
  refine OL.nil ?_
  refine Done.seq ?_
  refine CW.seq ?_
  refine CW.dp mixed ?_
  refine DP.anyC 0 4 14 rfl (by decide +kernel) rfl rfl (by decide +kernel) ?_
  refine AD.popC rfl rfl rfl ((by first | exact POp.ld1 rfl rfl rfl rfl | (apply POp.ld1H rfl rfl rfl; (case hm => repeat (first | exact .head _ | refine .tail _ ?_)); (case hy => rfl)))) ?_
  refine AD.popC rfl rfl rfl ((by first | exact POp.ldA rfl rfl rfl rfl | (apply POp.ldAH rfl rfl rfl; (case hm => repeat (first | exact .head _ | refine .tail _ ?_)); (case hy => rfl); (case hn => rfl)))) ?_
  refine AD.popC rfl rfl rfl (POp.move rfl rfl rfl) ?_
  refine AD.popC rfl rfl rfl (POp.call (.mk' rfl rfl rfl rfl rfl) (p171 arg path slot hl)) ?_
  refine AD.nil ?_
  refine DP.tailC 4 (by decide +kernel) rfl ?_
  refine OL.popC rfl rfl rfl (POp.callIn (.mk' rfl rfl rfl rfl rfl) (AVleL.refl _) (p170 W mb kn arg (path ++ [slot]) (goodKey_of h)) (fun e he => by repeat (first | exact hm e he | apply List.mem_cons_of_mem))) ?_
  refine OL.popC rfl rfl rfl ((by first | exact POp.nilCheck rfl rfl rfl | exact POp.nilCheckP rfl rfl rfl | exact POp.nilCheckF rfl rfl rfl)) ?_
  refine OL.popC rfl rfl rfl ((by first | exact POp.fa rfl rfl rfl rfl | exact POp.faP rfl rfl rfl rfl)) ?_
  refine OL.popC rfl rfl rfl ((by first | exact POp.ld1 rfl rfl rfl rfl | (apply POp.ld1H rfl rfl rfl; (case hm => repeat (first | exact .head _ | refine .tail _ ?_)); (case hy => rfl)))) ?_
  refine OL.popC rfl rfl rfl (POp.not rfl rfl rfl) ?_
  refine OL.popC rfl rfl rfl (POp.assign rfl rfl rfl) ?_
  refine OL.nil ?_
  refine Done.seq ?_
  refine CW.ret ?_
  refine Done.retR (rs := [.tmp 4]) (H' := H) rfl (.tmp rfl (.nil)) (AVleL.refl _) (by repeat (first | exact List.Sublist.refl _ | refine List.Sublist.cons _ ?_)) ?_
  exact ⟨by first | rfl | exact retI (by simp_all) | exact retB (by simp_all) | simp_all, rfl⟩
theorem p220 {W : FW} {mb : Nat} {kn : Value → Kn} (K : KnOk W kn) (hW : W.owner.length ≤ 40) {arg : Int} {path : List Int} (h : goodSpot arg path) :
    PCallIn Tryz.prog [sceneH mb kn] 220 [sceneP W mb, AV.spot arg path] (.b ((kn (keyS arg path)).slots.all fun s => !(kn (keyS arg (path ++ [s]))).needed)) := by
  intro H hm
  refine ACall.mk' (n := 13) Tryz.func220 rfl (by kernel_rfl) rfl rfl (fun B I w0 => ?_)
  refine CW.seq ?_
  refine CW.region ?_
  refine OL.popC rfl rfl rfl (POp.boxI rfl rfl rfl rfl) ?_
  refine OL.popC rfl rfl rfl (POp.boxI rfl rfl rfl rfl) ?_
  refine OL.popC rfl rfl rfl (POp.assign rfl rfl rfl) ?_
  refine OL.nil ?_
  refine Done.seq ?_
  refine CW.seq ?_
  refine CW.region ?_
  refine OL.popC rfl rfl rfl ((by first | exact POp.ld1 rfl rfl rfl rfl | (apply POp.ld1H rfl rfl rfl; (case hm => repeat (first | exact .head _ | refine .tail _ ?_)); (case hy => rfl)))) ?_
  refine OL.popC rfl rfl rfl ((by first | exact POp.ldA rfl rfl rfl rfl | (apply POp.ldAH rfl rfl rfl; (case hm => repeat (first | exact .head _ | refine .tail _ ?_)); (case hy => rfl); (case hn => rfl)))) ?_
  refine OL.popC rfl rfl rfl (POp.callIn (.mk' rfl rfl rfl rfl rfl) (AVleL.refl _) (p170 W mb kn arg path (goodKey_of h)) (fun e he => by repeat (first | exact hm e he | apply List.mem_cons_of_mem))) ?_
  refine OL.popC rfl rfl rfl ((by first | exact POp.nilCheck rfl rfl rfl | exact POp.nilCheckP rfl rfl rfl | exact POp.nilCheckF rfl rfl rfl)) ?_
  refine OL.popC rfl rfl rfl ((by first | exact POp.fa rfl rfl rfl rfl | exact POp.faP rfl rfl rfl rfl)) ?_
  refine OL.popC rfl rfl rfl ((by first | exact POp.ld1 rfl rfl rfl rfl | (apply POp.ld1H rfl rfl rfl; (case hm => repeat (first | exact .head _ | refine .tail _ ?_)); (case hy => rfl)))) ?_
  refine OL.popC rfl rfl rfl (POp.makeFunc rfl rfl rfl (by first | rfl | simp_all [strip]) (by first | rfl | simp_all [strip])) ?_
  refine OL.popC rfl rfl rfl (POp.callIn (.mk' rfl rfl rfl rfl rfl) (AVleL.refl _) (pi152 (.of (fun s hs => p225 W mb kn arg path s (kn_next K hW h hs).1 (kn_next K hW h hs).2))) (fun e he => by repeat (first | exact hm e he | apply List.mem_cons_of_mem))) ?_
  refine OL.popC rfl rfl rfl (POp.assign rfl rfl rfl) ?_
  refine OL.nil ?_
  refine Done.seq ?_
  refine CW.ret ?_
  refine Done.retR (rs := [.tmp 4]) (H' := H) rfl (.tmp rfl (.nil)) (AVleL.refl _) (by repeat (first | exact List.Sublist.refl _ | refine List.Sublist.cons _ ?_)) ?_
  exact ⟨by first | rfl | exact retI (by simp_all) | exact retB (by simp_all) | simp_all, rfl⟩
end Go.Proofs.YtiljpbljebfhnaaGreat

set_option linter.unusedVariables false
set_option linter.unusedSimpArgs false
set_option maxRecDepth 10000
namespace Go.Proofs.YtiljpbljebfhnaaGreat
open Go.Eng
open Go.Eng.Fc
def endsK (kn : Value → Kn) (arg : Int) (path : List Int) : Bool := (kn (keyS arg path)).slots.all fun s => !(kn (keyS arg (path ++ [s]))).needed
def upK (cls : Int) : Nat := 1 ||| 2 ^ cls.toNat
def plainK (kn : Value → Kn) (arg : Int) (path : List Int) (cls : Int) : Bool := ((andNotP (kn (keyS arg path)).must (upK cls) : Int) == 0) && ((((kn (keyS arg path)).no &&& upK cls : Nat) : Int) == 0) && endsK kn arg path
theorem upK_lt {cls : Int} (h : 0 ≤ cls ∧ cls < 64) : upK cls < 18446744073709551616 := or64 (by omega) (pow64 (by omega))
theorem p202 {W : FW} {mb : Nat} {kn : Value → Kn} (K : KnOk W kn) (hW : W.owner.length ≤ 40) {arg : Int} {path : List Int} (h : goodSpot arg path) (cls : Int) (hc : 0 ≤ cls ∧ cls < 64) :
    PCallIn Tryz.prog [sceneH mb kn] 202 [sceneP W mb, AV.spot arg path, .i cls] (.b (plainK kn arg path cls)) := by
  intro H hm
  refine ACall.mk' (n := 35) Tryz.func202 rfl (by kernel_rfl) rfl rfl (fun B I w0 => ?_)
  refine CW.seq ?_
  refine CW.region ?_
  refine OL.popC rfl rfl rfl (POp.boxI rfl rfl rfl rfl) ?_
  refine OL.popC rfl rfl rfl (POp.assign rfl rfl rfl) ?_
  refine OL.nil ?_
  refine Done.seq ?_
  refine CW.seq ?_
  refine CW.region ?_
  refine OL.popC rfl rfl rfl (POp.move rfl rfl rfl) ?_
  refine OL.popC rfl rfl rfl ((by first | exact POp.ldA rfl rfl rfl rfl | (apply POp.ldAH rfl rfl rfl; (case hm => repeat (first | exact .head _ | refine .tail _ ?_)); (case hy => rfl); (case hn => rfl)))) ?_
  refine OL.popC rfl rfl rfl (POp.callIn (.mk' rfl rfl rfl rfl rfl) (AVleL.refl _) (p170 W mb kn arg path (goodKey_of h)) (fun e he => by repeat (first | exact hm e he | apply List.mem_cons_of_mem))) ?_
  refine OL.popC rfl rfl rfl (POp.assign rfl rfl rfl) ?_
  refine OL.nil ?_
  refine Done.seq ?_
  refine CW.seq ?_
  refine CW.region ?_
  refine OL.popC rfl rfl rfl (POp.move rfl rfl rfl) ?_
  refine OL.popC rfl rfl rfl (POp.call (.mk' rfl rfl rfl rfl rfl) (p151 1 cls hc (by omega))) ?_
  refine OL.popC rfl rfl rfl (POp.assign rfl rfl rfl) ?_
  refine OL.nil ?_
  refine Done.seq ?_
  refine CW.seq ?_
  refine CW.region ?_
  refine OL.popC rfl rfl rfl (POp.move rfl rfl rfl) ?_
  refine OL.popC rfl rfl rfl ((by first | exact POp.nilCheck rfl rfl rfl | exact POp.nilCheckP rfl rfl rfl | exact POp.nilCheckF rfl rfl rfl)) ?_
  refine OL.popC rfl rfl rfl ((by first | exact POp.fa rfl rfl rfl rfl | exact POp.faP rfl rfl rfl rfl)) ?_
  refine OL.popC rfl rfl rfl ((by first | exact POp.ld1 rfl rfl rfl rfl | (apply POp.ld1H rfl rfl rfl; (case hm => repeat (first | exact .head _ | refine .tail _ ?_)); (case hy => rfl)))) ?_
  refine OL.popC rfl rfl rfl (POp.move rfl rfl rfl) ?_
  refine OL.popC rfl rfl rfl (POp.bits rfl rfl rfl rfl rfl (bit_andNot _ (upK cls))) ?_
  refine OL.popC rfl rfl rfl (POp.cmp rfl rfl rfl rfl rfl rfl) ?_
  refine OL.popC rfl rfl rfl (POp.move rfl rfl rfl) ?_
  refine OL.guardC rfl rfl rfl rfl rfl rfl (fun hg => POp.move rfl rfl rfl) ?_
  refine OL.guardC rfl rfl rfl rfl rfl rfl (fun hg => (by first | exact POp.nilCheck rfl rfl (by first | rfl | exact hg | exact (Bool.and_eq_true_iff.1 hg).1 | exact (Bool.and_eq_true_iff.1 (Bool.and_eq_true_iff.1 hg).1).1 | simp_all) | exact POp.nilCheckP rfl rfl (by first | rfl | exact hg | exact (Bool.and_eq_true_iff.1 hg).1 | exact (Bool.and_eq_true_iff.1 (Bool.and_eq_true_iff.1 hg).1).1 | simp_all) | exact POp.nilCheckF rfl rfl (by first | rfl | exact hg | exact (Bool.and_eq_true_iff.1 hg).1 | exact (Bool.and_eq_true_iff.1 (Bool.and_eq_true_iff.1 hg).1).1 | simp_all))) ?_
  refine OL.guardC rfl rfl rfl rfl rfl rfl (fun hg => (by first | exact POp.fa rfl rfl (by first | rfl | exact hg | exact (Bool.and_eq_true_iff.1 hg).1 | exact (Bool.and_eq_true_iff.1 (Bool.and_eq_true_iff.1 hg).1).1 | simp_all) rfl | exact POp.faP rfl rfl (by first | rfl | exact hg | exact (Bool.and_eq_true_iff.1 hg).1 | exact (Bool.and_eq_true_iff.1 (Bool.and_eq_true_iff.1 hg).1).1 | simp_all) rfl)) ?_
  refine OL.guardC rfl rfl rfl rfl rfl rfl (fun hg => (by first | exact POp.ld1 rfl rfl (by first | rfl | exact hg | exact (Bool.and_eq_true_iff.1 hg).1 | exact (Bool.and_eq_true_iff.1 (Bool.and_eq_true_iff.1 hg).1).1 | simp_all) rfl | (apply POp.ld1H rfl rfl (by first | rfl | exact hg | exact (Bool.and_eq_true_iff.1 hg).1 | exact (Bool.and_eq_true_iff.1 (Bool.and_eq_true_iff.1 hg).1).1 | simp_all); (case hm => repeat (first | exact .head _ | refine .tail _ ?_)); (case hy => rfl)))) ?_
  refine OL.guardC rfl rfl rfl rfl rfl rfl (fun hg => POp.move rfl rfl rfl) ?_
  refine OL.guardC rfl rfl rfl rfl rfl rfl (fun hg => POp.bits rfl rfl rfl (by first | rfl | exact hg) (by first | rfl | exact hg) (bit_and _ (upK cls) (K.no _) (upK_lt hc))) ?_
  refine OL.guardC rfl rfl rfl rfl rfl rfl (fun hg => POp.cmp rfl rfl rfl (by first | rfl | exact hg | exact (Bool.and_eq_true_iff.1 hg).1 | exact (Bool.and_eq_true_iff.1 (Bool.and_eq_true_iff.1 hg).1).1 | simp_all) rfl rfl) ?_
  refine OL.popC rfl rfl rfl (POp.pick rfl rfl rfl rfl rfl (by first | exact fun h => h | (intro h; rw [h]; rfl) | (intro h; simp_all)) (fun _ => rfl)) ?_
  refine OL.popC rfl rfl rfl (POp.move rfl rfl rfl) ?_
  refine OL.guardC rfl rfl rfl rfl rfl rfl (fun hg => POp.move rfl rfl rfl) ?_
  refine OL.guardC rfl rfl rfl rfl rfl rfl (fun hg => (by first | exact POp.ldA rfl rfl rfl rfl | (apply POp.ldAH rfl rfl rfl; (case hm => repeat (first | exact .head _ | refine .tail _ ?_)); (case hy => rfl); (case hn => rfl)))) ?_
  refine OL.guardC rfl rfl rfl rfl rfl rfl (fun hg => POp.callIn (.mk' rfl rfl rfl rfl (by simp_all [strip, constAV])) (AVleL.refl _) (p220 K hW h) (fun e he => by repeat (first | exact hm e he | apply List.mem_cons_of_mem))) ?_
  refine OL.popC rfl rfl rfl (POp.pick rfl rfl rfl rfl rfl (by first | exact fun h => h | (intro h; rw [h]; rfl) | (intro h; simp_all)) (fun _ => rfl)) ?_
  refine OL.popC rfl rfl rfl (POp.assign rfl rfl rfl) ?_
  refine OL.nil ?_
  refine Done.seq ?_
  refine CW.ret ?_
  refine Done.retR (rs := [.tmp 6]) (H' := H) rfl (.tmp rfl (.nil)) (AVleL.refl _) (by repeat (first | exact List.Sublist.refl _ | refine List.Sublist.cons _ ?_)) ?_
  exact ⟨retB (by rw [plainK]; simp only [bif_and]; rfl), rfl⟩
theorem p167 {W : FW} {mb : Nat} {kn : Value → Kn} (K : KnOk W kn) (hW : W.owner.length ≤ 40) {arg : Int} {path : List Int} (h : goodSpot arg path) :
    PCallIn Tryz.prog [sceneH mb kn] 167 [sceneP W mb, AV.spot arg path] (.b (!(kn (keyS arg path)).whole && plainK kn arg path 2)) := by
  intro H hm
  refine ACall.mk' (n := 17) Tryz.func167 rfl (by kernel_rfl) rfl rfl (fun B I w0 => ?_)
  refine CW.seq ?_
  refine CW.region ?_
  refine OL.popC rfl rfl rfl (POp.boxI rfl rfl rfl rfl) ?_
  refine OL.popC rfl rfl rfl (POp.assign rfl rfl rfl) ?_
  refine OL.nil ?_
  refine Done.seq ?_
  refine CW.seq ?_
  refine CW.region ?_
  refine OL.popC rfl rfl rfl (POp.move rfl rfl rfl) ?_
  refine OL.popC rfl rfl rfl ((by first | exact POp.ldA rfl rfl rfl rfl | (apply POp.ldAH rfl rfl rfl; (case hm => repeat (first | exact .head _ | refine .tail _ ?_)); (case hy => rfl); (case hn => rfl)))) ?_
  refine OL.popC rfl rfl rfl (POp.callIn (.mk' rfl rfl rfl rfl rfl) (AVleL.refl _) (p170 W mb kn arg path (goodKey_of h)) (fun e he => by repeat (first | exact hm e he | apply List.mem_cons_of_mem))) ?_
  refine OL.popC rfl rfl rfl ((by first | exact POp.nilCheck rfl rfl rfl | exact POp.nilCheckP rfl rfl rfl | exact POp.nilCheckF rfl rfl rfl)) ?_
  refine OL.popC rfl rfl rfl ((by first | exact POp.fa rfl rfl rfl rfl | exact POp.faP rfl rfl rfl rfl)) ?_
  refine OL.popC rfl rfl rfl ((by first | exact POp.ld1 rfl rfl rfl rfl | (apply POp.ld1H rfl rfl rfl; (case hm => repeat (first | exact .head _ | refine .tail _ ?_)); (case hy => rfl)))) ?_
  refine OL.popC rfl rfl rfl (POp.not rfl rfl rfl) ?_
  refine OL.popC rfl rfl rfl (POp.move rfl rfl rfl) ?_
  refine OL.guardC rfl rfl rfl rfl rfl rfl (fun hg => POp.move rfl rfl rfl) ?_
  refine OL.guardC rfl rfl rfl rfl rfl rfl (fun hg => (by first | exact POp.ldA rfl rfl rfl rfl | (apply POp.ldAH rfl rfl rfl; (case hm => repeat (first | exact .head _ | refine .tail _ ?_)); (case hy => rfl); (case hn => rfl)))) ?_
  refine OL.guardC rfl rfl rfl rfl rfl rfl (fun hg => POp.callIn (.mk' rfl rfl rfl rfl (by simp_all [strip, constAV])) (AVleL.refl _) (p202 K hW h 2 (by omega)) (fun e he => by repeat (first | exact hm e he | apply List.mem_cons_of_mem))) ?_
  refine OL.popC rfl rfl rfl (POp.pick rfl rfl rfl rfl rfl (by first | exact fun h => h | (intro h; rw [h]; rfl) | (intro h; simp_all)) (fun _ => rfl)) ?_
  refine OL.popC rfl rfl rfl (POp.assign rfl rfl rfl) ?_
  refine OL.nil ?_
  refine Done.seq ?_
  refine CW.ret ?_
  refine Done.retR (rs := [.tmp 4]) (H' := H) rfl (.tmp rfl (.nil)) (AVleL.refl _) (by repeat (first | exact List.Sublist.refl _ | refine List.Sublist.cons _ ?_)) ?_
  exact ⟨retB (by simp only [bif_and]), rfl⟩
end Go.Proofs.YtiljpbljebfhnaaGreat

set_option linter.unusedVariables false
set_option linter.unusedSimpArgs false
set_option maxRecDepth 10000
namespace Go.Proofs.YtiljpbljebfhnaaGreat
open Go.Eng
open Go.Eng.Fc
def freeF (nots : List Int) : Nat → Int → Int
  | 0, n => n
  | f + 1, n => if nots.contains n then freeF nots f (n + 1) else n
def aboveN (nots : List Int) (n : Int) : Nat := (nots.filter fun x => decide (n ≤ x)).length
def freeK (nots : List Int) (n : Int) : Int := freeF nots (aboveN nots n + 1) n
theorem above_step {nots : List Int} {n : Int} (h : nots.contains n = true) : aboveN nots (n + 1) + 1 ≤ aboveN nots n := by
  have hm : n ∈ nots := by simpa using h
  clear h
  induction nots with
  | nil => cases hm
  | cons x r ih =>
    have sub : ∀ l : List Int, aboveN l (n + 1) ≤ aboveN l n := by
      intro l
      induction l with
      | nil => simp [aboveN]
      | cons y s ihs =>
        unfold aboveN at ihs ⊢
        by_cases h1 : n + 1 ≤ y
        · have h2 : n ≤ y := by omega
          simp [List.filter_cons, h1, h2]; exact ihs
        · by_cases h2 : n ≤ y
          · simp only [List.filter_cons, h1, h2, decide_true, decide_false, if_true]; simp; omega
          · simp only [List.filter_cons, h1, h2, decide_false]; simpa using ihs
    rcases List.mem_cons.1 hm with e | hm
    · subst e
      have := sub r
      unfold aboveN at this ⊢
      have h1 : ¬ n + 1 ≤ n := by omega
      simp only [List.filter_cons, h1, Int.le_refl, decide_true, decide_false, if_true]; simp; omega
    · have := ih hm
      unfold aboveN at this ⊢
      by_cases h1 : n + 1 ≤ x
      · have h2 : n ≤ x := by omega
        simp [List.filter_cons, h1, h2]; omega
      · by_cases h2 : n ≤ x
        · simp only [List.filter_cons, h1, h2, decide_true, decide_false, if_true]; simp; omega
        · simp only [List.filter_cons, h1, h2, decide_false]; simp; omega
theorem freeF_more {nots : List Int} : ∀ (f g : Nat) (n : Int), aboveN nots n + 1 ≤ f → aboveN nots n + 1 ≤ g → freeF nots f n = freeF nots g n := by
  intro f
  induction f with
  | zero => intro g n h _; omega
  | succ f ih =>
    intro g n h hg
    obtain ⟨g, rfl⟩ : ∃ q, g = q + 1 := ⟨g - 1, by omega⟩
    rw [freeF, freeF]
    by_cases hc : nots.contains n = true
    · rw [if_pos hc, if_pos hc]
      have h1 := above_step hc
      exact ih g (n + 1) (by omega) (by omega)
    · rw [if_neg hc, if_neg hc]
theorem freeK_step {nots : List Int} {n : Int} (h : nots.contains n = true) : freeK nots n = freeK nots (n + 1) := by
  have h1 := above_step h
  show freeF nots (aboveN nots n + 1) n = _
  rw [freeF, if_pos h]
  exact freeF_more _ _ _ h1 (Nat.le_refl _)
theorem freeK_done {nots : List Int} {n : Int} (h : nots.contains n = false) : freeK nots n = n := by
  show freeF nots (aboveN nots n + 1) n = _
  rw [freeF, if_neg (fun e => by rw [h] at e; cases e)]
theorem above_le (nots : List Int) (n : Int) : aboveN nots n ≤ nots.length := List.length_filter_le _ _
theorem p166 {W : FW} {mb : Nat} {kn : Value → Kn} (K : KnOk W kn) (hW : W.owner.length ≤ 40) {arg : Int} {path : List Int} (h : goodSpot arg path) :
    PCallIn Tryz.prog [sceneH mb kn] 166 [sceneP W mb, AV.spot arg path] (.tup [.i (freeK (kn (keyS arg path)).nots (kn (keyS arg path)).low), .b (decide (freeK (kn (keyS arg path)).nots (kn (keyS arg path)).low ≤ (kn (keyS arg path)).high) && plainK kn arg path 1)]) := by
  intro H hm
  refine ACall.mk' (n := 38) Tryz.func166 rfl (by kernel_rfl) rfl rfl (fun B I w0 => ?_)
  have hlow := K.low (keyS arg path)
  have hnots := K.nots (keyS arg path)
  have hab := above_le (kn (keyS arg path)).nots (kn (keyS arg path)).low
  refine CW.seq ?_
  refine CW.region ?_
  refine OL.popC rfl rfl rfl (POp.boxI rfl rfl rfl rfl) ?_
  refine OL.popC rfl rfl rfl (POp.assign rfl rfl rfl) ?_
  refine OL.popC rfl rfl rfl (POp.assign rfl rfl rfl) ?_
  refine OL.nil ?_
  refine Done.seq ?_
  refine CW.seq ?_
  refine CW.region ?_
  refine OL.popC rfl rfl rfl (POp.move rfl rfl rfl) ?_
  refine OL.popC rfl rfl rfl ((by first | exact POp.ldA rfl rfl rfl rfl | (apply POp.ldAH rfl rfl rfl; (case hm => repeat (first | exact .head _ | refine .tail _ ?_)); (case hy => rfl); (case hn => rfl)))) ?_
  refine OL.popC rfl rfl rfl (POp.callIn (.mk' rfl rfl rfl rfl rfl) (AVleL.refl _) (p170 W mb kn arg path (goodKey_of h)) (fun e he => by repeat (first | exact hm e he | apply List.mem_cons_of_mem))) ?_
  refine OL.popC rfl rfl rfl (POp.assign rfl rfl rfl) ?_
  refine OL.nil ?_
  refine Done.seq ?_
  refine CW.seq ?_
  refine CW.region ?_
  refine OL.popC rfl rfl rfl (POp.move rfl rfl rfl) ?_
  refine OL.popC rfl rfl rfl ((by first | exact POp.nilCheck rfl rfl rfl | exact POp.nilCheckP rfl rfl rfl | exact POp.nilCheckF rfl rfl rfl)) ?_
  refine OL.popC rfl rfl rfl ((by first | exact POp.fa rfl rfl rfl rfl | exact POp.faP rfl rfl rfl rfl)) ?_
  refine OL.popC rfl rfl rfl ((by first | exact POp.fa rfl rfl rfl rfl | exact POp.faP rfl rfl rfl rfl)) ?_
  refine OL.popC rfl rfl rfl ((by first | exact POp.ld1 rfl rfl rfl rfl | (apply POp.ld1H rfl rfl rfl; (case hm => repeat (first | exact .head _ | refine .tail _ ?_)); (case hy => rfl)))) ?_
  refine OL.popC rfl rfl rfl (POp.assign rfl rfl rfl) ?_
  refine OL.nil ?_
  refine Done.seq ?_
  refine CW.seq ?_
  refine CW.block ?_
  refine CW.loopJ (fun m st => ∃ n : Int, st = ⟨[(7, .i n), (6, .ptr (Kcells (kn (keyS arg path)))), (0, sceneP W mb), (3, .ptr (spotCells arg path))], H⟩ ∧ m = aboveN (kn (keyS arg path)).nots n ∧ freeK (kn (keyS arg path)).nots n = freeK (kn (keyS arg path)).nots (kn (keyS arg path)).low ∧ (kn (keyS arg path)).low ≤ n ∧ n - (kn (keyS arg path)).low + aboveN (kn (keyS arg path)).nots n ≤ 1000) ⟨_, _, ⟨(kn (keyS arg path)).low, rfl, rfl, rfl, Int.le_refl _, by omega⟩, (by repeat (first | exact trivial | refine ⟨rfl, ?_⟩)), (by repeat (first | exact List.Sublist.refl _ | refine List.Sublist.cons _ ?_))⟩ ?_
  rintro m _ ⟨n, rfl, rfl, hf, hge, hlen⟩
  refine CW.seq ?_
  refine CW.seq ?_
  refine CW.region ?_
  refine OL.popC rfl rfl rfl (POp.move rfl rfl rfl) ?_
  refine OL.popC rfl rfl rfl ((by first | exact POp.nilCheck rfl rfl rfl | exact POp.nilCheckP rfl rfl rfl | exact POp.nilCheckF rfl rfl rfl)) ?_
  refine OL.popC rfl rfl rfl ((by first | exact POp.fa rfl rfl rfl rfl | exact POp.faP rfl rfl rfl rfl)) ?_
  refine OL.popC rfl rfl rfl ((by first | exact POp.fa rfl rfl rfl rfl | exact POp.faP rfl rfl rfl rfl)) ?_
  refine OL.popC rfl rfl rfl ((by first | exact POp.ld1 rfl rfl rfl rfl | (apply POp.ld1H rfl rfl rfl; (case hm => repeat (first | exact .head _ | refine .tail _ ?_)); (case hy => rfl)))) ?_
  refine OL.popC rfl rfl rfl (POp.move rfl rfl rfl) ?_
  refine OL.popC rfl rfl rfl (POp.call (.mk' rfl rfl rfl rfl rfl) ((p33 _ _))) ?_
  refine OL.nil ?_
  refine Done.seq ?_
  refine CW.cond rfl (fun h0 => ?_) (fun h0 => ?_)
  ·
    try simp only [decide_eq_true_eq, decide_eq_false_iff_not, beq_iff_eq, bne_iff_ne, ne_eq, Int.not_lt, Int.not_le, beq_eq_false_iff_ne, gt_iff_lt, ge_iff_le, Bool.not_eq_true, Bool.not_eq_false, Bool.not_eq_false', bne_eq_false_iff_eq] at h0
    have hstep := above_step (show (kn (keyS arg path)).nots.contains n = true from h0)
    have hfs := freeK_step (show (kn (keyS arg path)).nots.contains n = true from h0)
    refine CW.skip ?_
    refine Done.seq ?_
    refine CW.block ?_
    refine CW.region ?_
    refine OL.popC rfl rfl rfl (POp.move rfl rfl rfl) ?_
    refine OL.popC rfl rfl rfl (POp.arith rfl rfl rfl rfl rfl rfl (wrap64 (by omega))) ?_
    refine OL.popC rfl rfl rfl (POp.assign rfl rfl rfl) ?_
    refine OL.nil ?_
    refine Done.blkNormal ?_
    refine Done.againJ (⟨n + 1, rfl, rfl, by rw [← hfs]; exact hf, by omega, by omega⟩) ?_ ?_ ?_
    · omega
    · repeat (first | exact trivial | refine ⟨rfl, ?_⟩)
    · repeat (first | exact List.Sublist.refl _ | refine List.Sublist.cons _ ?_)
  ·
    have hfd := freeK_done (show (kn (keyS arg path)).nots.contains n = false from h0)
    refine CW.exit ?_
    refine Done.thenExit ?_
    refine Done.thenExit ?_
    refine Done.blkExit ?_
    refine Done.seq ?_
    refine CW.seq ?_
    refine CW.region ?_
    refine OL.popC rfl rfl rfl (POp.move rfl rfl rfl) ?_
    refine OL.popC rfl rfl rfl (POp.move rfl rfl rfl) ?_
    refine OL.popC rfl rfl rfl (POp.move rfl rfl rfl) ?_
    refine OL.popC rfl rfl rfl ((by first | exact POp.nilCheck rfl rfl rfl | exact POp.nilCheckP rfl rfl rfl | exact POp.nilCheckF rfl rfl rfl)) ?_
    refine OL.popC rfl rfl rfl ((by first | exact POp.fa rfl rfl rfl rfl | exact POp.faP rfl rfl rfl rfl)) ?_
    refine OL.popC rfl rfl rfl ((by first | exact POp.fa rfl rfl rfl rfl | exact POp.faP rfl rfl rfl rfl)) ?_
    refine OL.popC rfl rfl rfl ((by first | exact POp.ld1 rfl rfl rfl rfl | (apply POp.ld1H rfl rfl rfl; (case hm => repeat (first | exact .head _ | refine .tail _ ?_)); (case hy => rfl)))) ?_
    refine OL.popC rfl rfl rfl (POp.cmp rfl rfl rfl rfl rfl rfl) ?_
    refine OL.popC rfl rfl rfl (POp.move rfl rfl rfl) ?_
    refine OL.guardC rfl rfl rfl rfl rfl rfl (fun hg => POp.move rfl rfl rfl) ?_
    refine OL.guardC rfl rfl rfl rfl rfl rfl (fun hg => (by first | exact POp.ldA rfl rfl rfl rfl | (apply POp.ldAH rfl rfl rfl; (case hm => repeat (first | exact .head _ | refine .tail _ ?_)); (case hy => rfl); (case hn => rfl)))) ?_
    refine OL.guardC rfl rfl rfl rfl rfl rfl (fun hg => POp.callIn (.mk' rfl rfl rfl rfl (by simp_all [strip, constAV])) (AVleL.refl _) (p202 K hW h 1 (by omega)) (fun e he => by repeat (first | exact hm e he | apply List.mem_cons_of_mem))) ?_
    refine OL.popC rfl rfl rfl (POp.pick rfl rfl rfl rfl rfl (by first | exact fun h => h | (intro h; rw [h]; rfl) | (intro h; simp_all)) (fun _ => rfl)) ?_
    refine OL.popC rfl rfl rfl (POp.assign rfl rfl rfl) ?_
    refine OL.popC rfl rfl rfl (POp.assign rfl rfl rfl) ?_
    refine OL.nil ?_
    refine Done.seq ?_
    refine CW.ret ?_
    refine Done.retR (rs := [.tmp 4, .tmp 5]) (H' := H) rfl (.tmp rfl (.tmp rfl (.nil))) (AVleL.refl _) (by repeat (first | exact List.Sublist.refl _ | refine List.Sublist.cons _ ?_)) ?_
    exact ⟨by rw [← hf, hfd, ← bif_and]; rfl, rfl⟩
end Go.Proofs.YtiljpbljebfhnaaGreat

set_option linter.unusedVariables false
set_option linter.unusedSimpArgs false
set_option maxRecDepth 10000
namespace Go.Proofs.YtiljpbljebfhnaaGreat
open Go.Eng
open Go.Eng.Fc
def integerOk (kn : Value → Kn) (arg : Int) (path : List Int) : Bool := decide (freeK (kn (keyS arg path)).nots (kn (keyS arg path)).low ≤ (kn (keyS arg path)).high) && plainK kn arg path 1
def noneOk (kn : Value → Kn) (arg : Int) (path : List Int) : Bool := !(kn (keyS arg path)).whole && plainK kn arg path 2
/-- what the slots with which literals go on ask of an object's classes -/
def slotsK (W : FW) (kn : Value → Kn) (can : List Int → Bool) (arg : Int) (path : List Int) : List Int → Nat → Nat → Option (Nat × Nat)
  | [], must, no => some (must, no)
  | s :: r, must, no =>
    let needed := (kn (keyS arg (path ++ [s]))).needed
    let is := can (path ++ [s])
    if needed && !is then none
    else if needed then slotsK W kn can arg path r (must ||| 2 ^ (W.owner.getD s.toNat default).toNat) no
    else if !is then slotsK W kn can arg path r must (no ||| 2 ^ (W.owner.getD s.toNat default).toNat)
    else slotsK W kn can arg path r must no
/-- all classes above -/
def closeK (W : FW) : Nat → Nat → Nat → Nat
  | 0, _, must => must
  | f + 1, c, must => closeK W f (c + 1) (if must.testBit c then must ||| (upsP W).getD c 0 else must)
def objectK (W : FW) (kn : Value → Kn) (can : List Int → Bool) (arg : Int) (path : List Int) : Nat × Bool :=
  let k := kn (keyS arg path)
  if k.whole || k.must.testBit 1 || k.must.testBit 2 || k.no.testBit 0 then (0, false)
  else match slotsK W kn can arg path k.slots k.must k.no with
    | none => (0, false)
    | some (must, no) => (andNotP (closeK W W.parents.length 3 must) 1, ((andNotP (closeK W W.parents.length 3 must) 1 &&& no : Nat) : Int) == 0)
def canK (W : FW) (kn : Value → Kn) : Nat → Int → List Int → Bool
  | 0, arg, path => integerOk kn arg path || noneOk kn arg path || (objectK W kn (fun _ => false) arg path).2
  | d + 1, arg, path => integerOk kn arg path || noneOk kn arg path || (objectK W kn (canK W kn d arg) arg path).2
end Go.Proofs.YtiljpbljebfhnaaGreat

set_option linter.unusedVariables false
set_option linter.unusedSimpArgs false
set_option maxRecDepth 10000
namespace Go.Proofs.YtiljpbljebfhnaaGreat
open Go.Eng
open Go.Eng.Fc
theorem slotsK_step {W : FW} {kn : Value → Kn} {can : List Int → Bool} {arg : Int} {path : List Int} {l : List Int} {k must no : Nat} (hk : k < l.length) : slotsK W kn can arg path (l.drop k) must no = slotsK W kn can arg path (l.getD k default :: l.drop (k + 1)) must no := by
  rw [List.drop_eq_getElem_cons hk, getD_lt hk]
theorem slotsK_need {W : FW} {kn : Value → Kn} {can : List Int → Bool} {arg : Int} {path r : List Int} {s : Int} {must no : Nat} (h : (bif (kn (keyS arg (path ++ [s]))).needed then !can (path ++ [s]) else false) = false) (h1 : (kn (keyS arg (path ++ [s]))).needed = true) : slotsK W kn can arg path r (must ||| 2 ^ (W.owner.getD s.toNat default).toNat) no = slotsK W kn can arg path (s :: r) must no := by
  have hc : can (path ++ [s]) = true := by rw [h1] at h; simpa using h
  rw [slotsK]; simp [h1, hc]
theorem slotsK_not {W : FW} {kn : Value → Kn} {can : List Int → Bool} {arg : Int} {path r : List Int} {s : Int} {must no : Nat} (h1 : (kn (keyS arg (path ++ [s]))).needed = false) (h2 : can (path ++ [s]) = false) : slotsK W kn can arg path r must (no ||| 2 ^ (W.owner.getD s.toNat default).toNat) = slotsK W kn can arg path (s :: r) must no := by
  rw [slotsK]; simp [h1, h2]
theorem slotsK_free {W : FW} {kn : Value → Kn} {can : List Int → Bool} {arg : Int} {path r : List Int} {s : Int} {must no : Nat} (h1 : (kn (keyS arg (path ++ [s]))).needed = false) (h2 : can (path ++ [s]) = true) : slotsK W kn can arg path r must no = slotsK W kn can arg path (s :: r) must no := by
  rw [slotsK]; simp [h1, h2]
theorem closeK_step {W : FW} {c mu r : Nat} (hc : c < 3 + W.parents.length) (h : closeK W (3 + W.parents.length - c) c mu = r) : closeK W (3 + W.parents.length - (c + 1)) (c + 1) (if mu.testBit c then mu ||| (upsP W).getD c 0 else mu) = r := by
  obtain ⟨q, hq⟩ : ∃ q, 3 + W.parents.length - c = q + 1 := ⟨3 + W.parents.length - c - 1, by omega⟩
  rw [hq, closeK] at h
  rw [show 3 + W.parents.length - (c + 1) = q from by omega]
  exact h
theorem slotsK_fail {W : FW} {kn : Value → Kn} {can : List Int → Bool} {arg : Int} {path r : List Int} {s : Int} {must no : Nat} (h : (bif (kn (keyS arg (path ++ [s]))).needed then !can (path ++ [s]) else false) = true) : slotsK W kn can arg path (s :: r) must no = none := by
  rw [bif_and] at h
  rw [slotsK]; exact if_pos h
theorem objectK_no {W : FW} {kn : Value → Kn} {can : List Int → Bool} {arg : Int} {path : List Int} (h : (bif bif bif (kn (keyS arg path)).whole then true else (kn (keyS arg path)).must.testBit (Int.toNat 1) then true else (kn (keyS arg path)).must.testBit (Int.toNat 2) then true else (kn (keyS arg path)).no.testBit (Int.toNat 0)) = true) : objectK W kn can arg path = (0, false) := by
  simp only [bif_or] at h
  rw [objectK]; exact if_pos h
theorem objectK_none {W : FW} {kn : Value → Kn} {can : List Int → Bool} {arg : Int} {path : List Int} (h : slotsK W kn can arg path (kn (keyS arg path)).slots (kn (keyS arg path)).must (kn (keyS arg path)).no = none) : objectK W kn can arg path = (0, false) := by
  rw [objectK, h]; simp
theorem objectK_some {W : FW} {kn : Value → Kn} {can : List Int → Bool} {arg : Int} {path : List Int} {must no : Nat} (h : (bif bif bif (kn (keyS arg path)).whole then true else (kn (keyS arg path)).must.testBit (Int.toNat 1) then true else (kn (keyS arg path)).must.testBit (Int.toNat 2) then true else (kn (keyS arg path)).no.testBit (Int.toNat 0)) = false)
    (hs : some (must, no) = slotsK W kn can arg path (kn (keyS arg path)).slots (kn (keyS arg path)).must (kn (keyS arg path)).no) : objectK W kn can arg path = (andNotP (closeK W W.parents.length 3 must) 1, ((andNotP (closeK W W.parents.length 3 must) 1 &&& no : Nat) : Int) == 0) := by
  simp only [bif_or] at h
  rw [objectK, ← hs]; exact if_neg (by simpa using h)
theorem andNot_lt (a b : Nat) : andNotP a b < 18446744073709551616 := BitVec.isLt (w := 64) _
theorem owner_ok {W : FW} (hw : worldP W = true) {i : Nat} (hi : i < W.owner.length) : 3 ≤ W.owner.getD i default ∧ W.owner.getD i default < 3 + W.parents.length := by
  simp only [worldP, Bool.and_eq_true, List.all_eq_true] at hw
  have := hw.2 _ (getD_mem hi)
  simpa [ownP] using this
theorem upsFrom_len : ∀ (l : List (List Int)) (i : Nat) (U : List Nat), (upsFrom l i U).length = U.length
  | [], _, _ => rfl
  | x :: r, i, U => by rw [upsFrom, upsFrom_len r]; simp
theorem ups_len (W : FW) : (upsP W).length = 63 := by rw [upsP, upsFrom_len]; rfl
theorem upFold_lt {U : List Nat} (hU : ∀ x ∈ U, x < 18446744073709551616) {i : Nat} (hi : i < 61) (l : List Int) : upFold U i l < 18446744073709551616 := by
  unfold upFold
  have : ∀ (l : List Int) (s : Nat), s < 18446744073709551616 → l.foldl (fun s (p : Int) => s ||| U.getD p.toNat 0) s < 18446744073709551616 := by
    intro l
    induction l with
    | nil => intro s hs; exact hs
    | cons p r ih => intro s hs; exact ih _ (or64 hs (u_get hU _))
  exact this l _ (or64 (by omega) (pow64 (by omega)))
theorem upsFrom_lt : ∀ (l : List (List Int)) (i : Nat) (U : List Nat), i + l.length ≤ 61 → (∀ x ∈ U, x < 18446744073709551616) → ∀ x ∈ upsFrom l i U, x < 18446744073709551616
  | [], _, _, _, h => h
  | y :: r, i, U, hi, h => by
    rw [upsFrom]
    simp only [List.length_cons] at hi
    exact upsFrom_lt r (i + 1) _ (by omega) (u_set h (upFold_lt h (by omega) y))
theorem ups_lt {W : FW} (h : W.parents.length ≤ 60) : ∀ x ∈ upsP W, x < 18446744073709551616 := upsFrom_lt _ _ _ (by omega) (by decide)
theorem up_drop {W : FW} {U : List Nat} {c : Nat} {q : Nat} (hq : q = c) (h : c < U.length) : (List.drop q (List.drop 2 (Wcells W ++ U.map fun s => AV.set s)))[0]? = some (AV.set (U.getD c 0)) := by
  subst hq
  rw [List.drop_drop, List.getElem?_drop]
  have := up_get (W := W) (U := U) (i := q) h
  rw [show 2 + q + 0 = 2 + q from rfl]
  exact this
theorem p168_step {W : FW} {mb : Nat} {kn : Value → Kn} (K : KnOk W kn) (hw : worldP W = true) {arg : Int} {path : List Int} (h : goodSpot arg path) (can : List Int → Bool) (ih : ∀ s ∈ (kn (keyS arg path)).slots, PCallIn Tryz.prog [sceneH mb kn] 186 [sceneP W mb, AV.spot arg (path ++ [s])] (.b (can (path ++ [s])))) :
    PCallIn Tryz.prog [sceneH mb kn] 168 [sceneP W mb, AV.spot arg path] (.tup [AV.set (objectK W kn can arg path).1, .b (objectK W kn can arg path).2]) := by
  intro H hm
  refine ACall.mk' (n := 136) Tryz.func168 rfl (by kernel_rfl) rfl rfl (fun B I w0 => ?_)
  have hW := world_own hw
  have hP := world_len hw
  refine CW.seq ?_
  refine CW.region ?_
  refine OL.popC rfl rfl rfl (POp.boxI rfl rfl rfl rfl) ?_
  refine OL.popC rfl rfl rfl (POp.assign rfl rfl rfl) ?_
  refine OL.popC rfl rfl rfl (POp.assign rfl rfl rfl) ?_
  refine OL.nil ?_
  refine Done.seq ?_
  refine CW.seq ?_
  refine CW.region ?_
  refine OL.popC rfl rfl rfl (POp.move rfl rfl rfl) ?_
  refine OL.popC rfl rfl rfl ((by first | exact POp.ldA rfl rfl rfl rfl | (apply POp.ldAH rfl rfl rfl; (case hm => repeat (first | exact .head _ | refine .tail _ ?_)); (case hy => rfl); (case hn => rfl)))) ?_
  refine OL.popC rfl rfl rfl (POp.callIn (.mk' rfl rfl rfl rfl rfl) (AVleL.refl _) (p170 W mb kn arg path (goodKey_of h)) (fun e he => by repeat (first | exact hm e he | apply List.mem_cons_of_mem))) ?_
  refine OL.popC rfl rfl rfl (POp.assign rfl rfl rfl) ?_
  refine OL.nil ?_
  refine Done.seq ?_
  refine CW.seq ?_
  refine CW.dp mixed ?_
  refine DP.anyC 0 9 136 rfl (by decide +kernel) rfl rfl (by decide +kernel) ?_
  refine AD.popC rfl rfl rfl (POp.move rfl rfl rfl) ?_
  refine AD.popC rfl rfl rfl ((by first | exact POp.nilCheck rfl rfl rfl | exact POp.nilCheckP rfl rfl rfl | exact POp.nilCheckF rfl rfl rfl)) ?_
  refine AD.popC rfl rfl rfl ((by first | exact POp.fa rfl rfl rfl rfl | exact POp.faP rfl rfl rfl rfl)) ?_
  refine AD.popC rfl rfl rfl ((by first | exact POp.ld1 rfl rfl rfl rfl | (apply POp.ld1H rfl rfl rfl; (case hm => repeat (first | exact .head _ | refine .tail _ ?_)); (case hy => rfl)))) ?_
  refine AD.popC rfl rfl rfl (POp.move rfl rfl rfl) ?_
  refine AD.popC rfl rfl rfl ((by first | exact POp.nilCheck rfl rfl rfl | exact POp.nilCheckP rfl rfl rfl | exact POp.nilCheckF rfl rfl rfl)) ?_
  refine AD.popC rfl rfl rfl ((by first | exact POp.fa rfl rfl rfl rfl | exact POp.faP rfl rfl rfl rfl)) ?_
  refine AD.popC rfl rfl rfl ((by first | exact POp.ld1 rfl rfl rfl rfl | (apply POp.ld1H rfl rfl rfl; (case hm => repeat (first | exact .head _ | refine .tail _ ?_)); (case hy => rfl)))) ?_
  refine AD.popC rfl rfl rfl (POp.assign rfl rfl rfl) ?_
  refine AD.nil ?_
  refine DP.tailC 9 (by decide +kernel) rfl ?_
  refine OL.popC rfl rfl rfl (POp.assign rfl rfl rfl) ?_
  refine OL.nil ?_
  refine Done.seq ?_
  refine CW.seq ?_
  refine CW.seq ?_
  refine CW.region ?_
  refine OL.popC rfl rfl rfl (POp.move rfl rfl rfl) ?_
  refine OL.popC rfl rfl rfl ((by first | exact POp.nilCheck rfl rfl rfl | exact POp.nilCheckP rfl rfl rfl | exact POp.nilCheckF rfl rfl rfl)) ?_
  refine OL.popC rfl rfl rfl ((by first | exact POp.fa rfl rfl rfl rfl | exact POp.faP rfl rfl rfl rfl)) ?_
  refine OL.popC rfl rfl rfl ((by first | exact POp.ld1 rfl rfl rfl rfl | (apply POp.ld1H rfl rfl rfl; (case hm => repeat (first | exact .head _ | refine .tail _ ?_)); (case hy => rfl)))) ?_
  refine OL.popC rfl rfl rfl (POp.move rfl rfl rfl) ?_
  refine OL.guardC rfl rfl rfl rfl rfl rfl (fun hg => POp.move rfl rfl rfl) ?_
  refine OL.guardC rfl rfl rfl rfl rfl rfl (fun hg => POp.call (.mk' rfl rfl rfl rfl (by simp_all [strip, constAV])) (p107 _ 1 (by omega) (K.must _))) ?_
  refine OL.popC rfl rfl rfl (POp.pick rfl rfl rfl rfl rfl (fun _ => rfl) (by first | exact fun h => h | (intro h; rw [h]; rfl) | (intro h; simp_all))) ?_
  refine OL.popC rfl rfl rfl (POp.move rfl rfl rfl) ?_
  refine OL.guardC rfl rfl rfl rfl rfl rfl (fun hg => POp.move rfl rfl rfl) ?_
  refine OL.guardC rfl rfl rfl rfl rfl rfl (fun hg => POp.call (.mk' rfl rfl rfl rfl (by simp_all [strip, constAV])) (p107 _ 2 (by omega) (K.must _))) ?_
  refine OL.popC rfl rfl rfl (POp.pick rfl rfl rfl rfl rfl (fun _ => rfl) (by first | exact fun h => h | (intro h; rw [h]; rfl) | (intro h; simp_all))) ?_
  refine OL.popC rfl rfl rfl (POp.move rfl rfl rfl) ?_
  refine OL.guardC rfl rfl rfl rfl rfl rfl (fun hg => POp.move rfl rfl rfl) ?_
  refine OL.guardC rfl rfl rfl rfl rfl rfl (fun hg => POp.call (.mk' rfl rfl rfl rfl (by simp_all [strip, constAV])) (p107 _ 0 (by omega) (K.no _))) ?_
  refine OL.popC rfl rfl rfl (POp.pick rfl rfl rfl rfl rfl (fun _ => rfl) (by first | exact fun h => h | (intro h; rw [h]; rfl) | (intro h; simp_all))) ?_
  refine OL.nil ?_
  refine Done.seq ?_
  refine CW.cond rfl (fun h0 => ?_) (fun h0 => ?_)
  ·
    have hob := objectK_no (W := W) (can := can) h0
    refine CW.seq ?_
    refine CW.region ?_
    refine OL.popC rfl rfl rfl (POp.assign rfl rfl rfl) ?_
    refine OL.popC rfl rfl rfl (POp.assign rfl rfl rfl) ?_
    refine OL.nil ?_
    refine Done.seq ?_
    refine CW.ret ?_
    refine Done.thenRet ?_
    refine Done.retR (rs := [.tmp 4, .tmp 5]) (H' := H) rfl (.tmp rfl (.tmp rfl (.nil))) (AVleL.refl _) (by repeat (first | exact List.Sublist.refl _ | refine List.Sublist.cons _ ?_)) ?_
    exact ⟨by rw [hob]; rfl, rfl⟩
  ·
    have h0 := h0
    refine CW.skip ?_
    refine Done.seq ?_
    refine CW.seq ?_
    refine CW.seq ?_
    refine CW.region ?_
    refine OL.popC rfl rfl rfl (POp.move rfl rfl rfl) ?_
    refine OL.popC rfl rfl rfl ((by first | exact POp.nilCheck rfl rfl rfl | exact POp.nilCheckP rfl rfl rfl | exact POp.nilCheckF rfl rfl rfl)) ?_
    refine OL.popC rfl rfl rfl ((by first | exact POp.fa rfl rfl rfl rfl | exact POp.faP rfl rfl rfl rfl)) ?_
    refine OL.popC rfl rfl rfl ((by first | exact POp.ld1 rfl rfl rfl rfl | (apply POp.ld1H rfl rfl rfl; (case hm => repeat (first | exact .head _ | refine .tail _ ?_)); (case hy => rfl)))) ?_
    refine OL.popC rfl rfl rfl ((by first | exact POp.lenM rfl rfl rfl | exact POp.lenA rfl rfl rfl | exact POp.lenV rfl rfl rfl | exact POp.len' rfl rfl rfl)) ?_
    refine OL.popC rfl rfl rfl (POp.move rfl rfl rfl) ?_
    refine OL.nil ?_
    refine Done.seq ?_
    refine CW.block ?_
    refine CW.loopJ (fun m st => ∃ (k must no : Nat), st = ⟨[(47, .i k), (46, .i (kn (keyS arg path)).slots.length), (45, AV.ints (kn (keyS arg path)).slots), (7, AV.set must), (8, AV.set no), (0, sceneP W mb), (3, .ptr (spotCells arg path))], H⟩ ∧ m = (kn (keyS arg path)).slots.length - k ∧ k ≤ (kn (keyS arg path)).slots.length ∧ must < 18446744073709551616 ∧ no < 18446744073709551616 ∧ slotsK W kn can arg path ((kn (keyS arg path)).slots.drop k) must no = slotsK W kn can arg path (kn (keyS arg path)).slots (kn (keyS arg path)).must (kn (keyS arg path)).no) ⟨_, _, ⟨0, _, _, rfl, rfl, Nat.zero_le _, K.must _, K.no _, rfl⟩, (by repeat (first | exact trivial | refine ⟨rfl, ?_⟩)), (by repeat (first | exact List.Sublist.refl _ | refine List.Sublist.cons _ ?_))⟩ ?_
    rintro m _ ⟨k, must, no, rfl, rfl, hk, hmu, hno, hs⟩
    refine CW.boundM (t := 45) rfl (fun hbs => ?_)
    refine CW.seq ?_
    refine CW.region ?_
    refine OL.popC rfl rfl rfl (POp.cmp rfl rfl rfl rfl rfl rfl) ?_
    refine OL.nil ?_
    refine Done.seq ?_
    refine CW.seq ?_
    refine CW.cond rfl (fun h1 => ?_) (fun h1 => ?_)
    ·
      try simp only [decide_eq_true_eq, decide_eq_false_iff_not, beq_iff_eq, bne_iff_ne, ne_eq, Int.not_lt, Int.not_le, beq_eq_false_iff_ne, gt_iff_lt, ge_iff_le, Bool.not_eq_true, Bool.not_eq_false, Bool.not_eq_false', bne_eq_false_iff_eq] at h1
      refine CW.skip ?_
      refine Done.seq ?_
      refine CW.seq ?_
      refine CW.block ?_
      refine CW.seq ?_
      refine CW.region ?_
      refine OL.popC rfl rfl rfl ((by first | exact POp.ixM rfl rfl rfl rfl rfl (by omega) | exact POp.ixI rfl rfl rfl rfl rfl (by omega))) ?_
      refine OL.popC rfl rfl rfl ((by first | exact POp.ld1 rfl rfl rfl rfl | (apply POp.ld1H rfl rfl rfl; (case hm => repeat (first | exact .head _ | refine .tail _ ?_)); (case hy => rfl)))) ?_
      refine OL.popC rfl rfl rfl (POp.assign rfl rfl rfl) ?_
      refine OL.nil ?_
      refine Done.seq ?_
      refine CW.seq ?_
      have hsm : (kn (keyS arg path)).slots.getD k default ∈ (kn (keyS arg path)).slots := getD_mem (by omega)
      have hn2 := kn_next K hW h hsm
      have hsl := K.slot arg path h _ hsm
      have how := owner_ok hw (i := ((kn (keyS arg path)).slots.getD k default).toNat) (by omega)
      refine CW.region ?_
      refine OL.popC rfl rfl rfl ((by first | exact POp.ldA rfl rfl rfl rfl | (apply POp.ldAH rfl rfl rfl; (case hm => repeat (first | exact .head _ | refine .tail _ ?_)); (case hy => rfl); (case hn => rfl)))) ?_
      refine OL.popC rfl rfl rfl (POp.move rfl rfl rfl) ?_
      refine OL.popC rfl rfl rfl (POp.call (.mk' rfl rfl rfl rfl rfl) (p171 arg path ((kn (keyS arg path)).slots.getD k default) hn2.1)) ?_
      refine OL.alC rfl rfl rfl rfl (fun b0 => ?_)
      apply OL.stoC rfl rfl rfl rfl rfl rfl rfl rfl rfl rfl
      (case hu => repeat (first | exact Upd.head _ _ _ | apply Upd.tail)); (case hfit => rfl); (case hds => rfl)
      refine OL.nil ?_
      refine Done.seq ?_
      refine CW.seq ?_
      refine CW.dp mixed ?_
      refine DP.anyC 0 9 136 rfl (by decide +kernel) rfl rfl (by decide +kernel) ?_
      refine AD.popC rfl rfl rfl (POp.move rfl rfl rfl) ?_
      refine AD.popC rfl rfl rfl ((by first | exact POp.ldA rfl rfl rfl rfl | (apply POp.ldAH rfl rfl rfl; (case hm => repeat (first | exact .head _ | refine .tail _ ?_)); (case hy => rfl); (case hn => rfl)))) ?_
      refine AD.popC rfl rfl rfl (POp.callIn (.mk' rfl rfl rfl rfl rfl) (AVleL.refl _) (p170 W mb kn arg (path ++ [(kn (keyS arg path)).slots.getD k default]) (goodKey_of hn2.2)) (fun e he => by repeat (first | exact hm e he | apply List.mem_cons_of_mem))) ?_
      refine AD.popC rfl rfl rfl ((by first | exact POp.nilCheck rfl rfl rfl | exact POp.nilCheckP rfl rfl rfl | exact POp.nilCheckF rfl rfl rfl)) ?_
      refine AD.popC rfl rfl rfl ((by first | exact POp.fa rfl rfl rfl rfl | exact POp.faP rfl rfl rfl rfl)) ?_
      refine AD.popC rfl rfl rfl ((by first | exact POp.ld1 rfl rfl rfl rfl | (apply POp.ld1H rfl rfl rfl; (case hm => repeat (first | exact .head _ | refine .tail _ ?_)); (case hy => rfl)))) ?_
      refine AD.popC rfl rfl rfl (POp.move rfl rfl rfl) ?_
      refine AD.popC rfl rfl rfl ((by first | exact POp.ldA rfl rfl rfl rfl | (apply POp.ldAH rfl rfl rfl; (case hm => repeat (first | exact .head _ | refine .tail _ ?_)); (case hy => rfl); (case hn => rfl)))) ?_
      refine AD.popC rfl rfl rfl (POp.callIn (.mk' rfl rfl rfl rfl rfl) (AVleL.refl _) (ih _ hsm) (fun e he => by repeat (first | exact hm e he | apply List.mem_cons_of_mem))) ?_
      refine AD.nil ?_
      refine DP.tailC 9 (by decide +kernel) rfl ?_
      refine OL.popC rfl rfl rfl (POp.assign rfl rfl rfl) ?_
      refine OL.popC rfl rfl rfl (POp.assign rfl rfl rfl) ?_
      refine OL.nil ?_
      refine Done.seq ?_
      refine CW.block ?_
      refine CW.seq ?_
      refine CW.region ?_
      refine OL.popC rfl rfl rfl (POp.move rfl rfl rfl) ?_
      refine OL.popC rfl rfl rfl (POp.move rfl rfl rfl) ?_
      refine OL.guardC rfl rfl rfl rfl rfl rfl (fun hg => POp.move rfl rfl rfl) ?_
      refine OL.guardC rfl rfl rfl rfl rfl rfl (fun hg => POp.not rfl rfl (by first | rfl | exact hg | exact (Bool.and_eq_true_iff.1 hg).1 | exact (Bool.and_eq_true_iff.1 (Bool.and_eq_true_iff.1 hg).1).1 | simp_all)) ?_
      refine OL.popC rfl rfl rfl (POp.pick rfl rfl rfl rfl rfl (by first | exact fun h => h | (intro h; rw [h]; rfl) | (intro h; simp_all)) (fun _ => rfl)) ?_
      refine OL.popC rfl rfl rfl (POp.assign rfl rfl rfl) ?_
      refine OL.nil ?_
      refine Done.seq ?_
      refine CW.cond rfl (fun h2 => ?_) (fun h2 => ?_)
      ·
        have hob := objectK_none (W := W) (can := can) (by rw [← hs, slotsK_step (l := (kn (keyS arg path)).slots) (k := k) (by omega)]; exact slotsK_fail h2)
        refine CW.seq ?_
        refine CW.region ?_
        refine OL.popC rfl rfl rfl (POp.assign rfl rfl rfl) ?_
        refine OL.popC rfl rfl rfl (POp.assign rfl rfl rfl) ?_
        refine OL.nil ?_
        refine Done.seq ?_
        refine CW.ret ?_
        refine Done.blkRet ?_
        refine Done.blkRet ?_
        refine Done.thenRet ?_
        refine Done.thenRet ?_
        refine Done.blkRet ?_
        refine Done.thenRet ?_
        refine Done.retR (rs := [.tmp 4, .tmp 5]) (H' := H) rfl (.tmp rfl (.tmp rfl (.nil))) (AVleL.refl _) (by repeat (first | exact List.Sublist.refl _ | refine List.Sublist.cons _ ?_)) ?_
        exact ⟨by rw [hob]; rfl, rfl⟩
      ·
        have h2 := h2
        refine CW.seq ?_
        refine CW.region ?_
        refine OL.popC rfl rfl rfl (POp.move rfl rfl rfl) ?_
        refine OL.popC rfl rfl rfl (POp.assign rfl rfl rfl) ?_
        refine OL.nil ?_
        refine Done.seq ?_
        refine CW.cond rfl (fun h3 => ?_) (fun h3 => ?_)
        ·
          try simp only [decide_eq_true_eq, decide_eq_false_iff_not, beq_iff_eq, bne_iff_ne, ne_eq, Int.not_lt, Int.not_le, beq_eq_false_iff_ne, gt_iff_lt, ge_iff_le, Bool.not_eq_true, Bool.not_eq_false, Bool.not_eq_false', bne_eq_false_iff_eq] at h3
          refine CW.region ?_
          refine OL.popC rfl rfl rfl (POp.move rfl rfl rfl) ?_
          refine OL.popC rfl rfl rfl (POp.move rfl rfl rfl) ?_
          refine OL.popC rfl rfl rfl ((by first | exact POp.nilCheck rfl rfl rfl | exact POp.nilCheckP rfl rfl rfl | exact POp.nilCheckF rfl rfl rfl)) ?_
          refine OL.popC rfl rfl rfl ((by first | exact POp.fa rfl rfl rfl rfl | exact POp.faP rfl rfl rfl rfl)) ?_
          refine OL.popC rfl rfl rfl ((by first | exact POp.ld1 rfl rfl rfl rfl | (apply POp.ld1H rfl rfl rfl; (case hm => repeat (first | exact .head _ | refine .tail _ ?_)); (case hy => rfl)))) ?_
          refine OL.popC rfl rfl rfl ((by first | exact POp.nilCheck rfl rfl rfl | exact POp.nilCheckP rfl rfl rfl | exact POp.nilCheckF rfl rfl rfl)) ?_
          refine OL.popC rfl rfl rfl ((by first | exact POp.fa rfl rfl rfl rfl | exact POp.faP rfl rfl rfl rfl)) ?_
          refine OL.popC rfl rfl rfl ((by first | exact POp.fa rfl rfl rfl rfl | exact POp.faP rfl rfl rfl rfl)) ?_
          refine OL.popC rfl rfl rfl ((by first | exact POp.ld1 rfl rfl rfl rfl | (apply POp.ld1H rfl rfl rfl; (case hm => repeat (first | exact .head _ | refine .tail _ ?_)); (case hy => rfl)))) ?_
          refine OL.popC rfl rfl rfl (POp.move rfl rfl rfl) ?_
          refine OL.popC rfl rfl rfl ((by first | exact POp.ixM rfl rfl rfl rfl rfl (by omega) | exact POp.ixI rfl rfl rfl rfl rfl (by omega))) ?_
          refine OL.popC rfl rfl rfl ((by first | exact POp.ld1 rfl rfl rfl rfl | (apply POp.ld1H rfl rfl rfl; (case hm => repeat (first | exact .head _ | refine .tail _ ?_)); (case hy => rfl)))) ?_
          refine OL.popC rfl rfl rfl (POp.call (.mk' rfl rfl rfl rfl rfl) ((p151 _ _ (by omega) (by omega)))) ?_
          refine OL.popC rfl rfl rfl (POp.assign rfl rfl rfl) ?_
          refine OL.nil ?_
          refine Done.blkNormal ?_
          refine Done.blkNormal ?_
          refine Done.seq ?_
          refine CW.region ?_
          refine OL.popC rfl rfl rfl (POp.arith rfl rfl rfl rfl rfl rfl (wrap64 (by omega))) ?_
          refine OL.popC rfl rfl rfl (POp.move rfl rfl rfl) ?_
          refine OL.nil ?_
          refine Done.againJ (⟨k + 1, must ||| 2 ^ (W.owner.getD ((kn (keyS arg path)).slots.getD k default).toNat default).toNat, no, rfl, rfl, by omega, or64 hmu (pow64 (by omega)), hno, by rw [← hs, slotsK_step (l := (kn (keyS arg path)).slots) (k := k) (by omega)]; exact slotsK_need h2 h3⟩) ?_ ?_ ?_
          · omega
          · repeat (first | exact trivial | refine ⟨rfl, ?_⟩)
          · repeat (first | exact List.Sublist.refl _ | refine List.Sublist.cons _ ?_)
        ·
          try simp only [decide_eq_true_eq, decide_eq_false_iff_not, beq_iff_eq, bne_iff_ne, ne_eq, Int.not_lt, Int.not_le, beq_eq_false_iff_ne, gt_iff_lt, ge_iff_le, Bool.not_eq_true, Bool.not_eq_false, Bool.not_eq_false', bne_eq_false_iff_eq] at h3
          refine CW.seq ?_
          refine CW.region ?_
          refine OL.popC rfl rfl rfl (POp.move rfl rfl rfl) ?_
          refine OL.popC rfl rfl rfl (POp.not rfl rfl rfl) ?_
          refine OL.popC rfl rfl rfl (POp.assign rfl rfl rfl) ?_
          refine OL.nil ?_
          refine Done.seq ?_
          refine CW.cond rfl (fun h4 => ?_) (fun h4 => ?_)
          ·
            try simp only [decide_eq_true_eq, decide_eq_false_iff_not, beq_iff_eq, bne_iff_ne, ne_eq, Int.not_lt, Int.not_le, beq_eq_false_iff_ne, gt_iff_lt, ge_iff_le, Bool.not_eq_true, Bool.not_eq_false, Bool.not_eq_false', bne_eq_false_iff_eq] at h4
            refine CW.region ?_
            refine OL.popC rfl rfl rfl (POp.move rfl rfl rfl) ?_
            refine OL.popC rfl rfl rfl (POp.move rfl rfl rfl) ?_
            refine OL.popC rfl rfl rfl ((by first | exact POp.nilCheck rfl rfl rfl | exact POp.nilCheckP rfl rfl rfl | exact POp.nilCheckF rfl rfl rfl)) ?_
            refine OL.popC rfl rfl rfl ((by first | exact POp.fa rfl rfl rfl rfl | exact POp.faP rfl rfl rfl rfl)) ?_
            refine OL.popC rfl rfl rfl ((by first | exact POp.ld1 rfl rfl rfl rfl | (apply POp.ld1H rfl rfl rfl; (case hm => repeat (first | exact .head _ | refine .tail _ ?_)); (case hy => rfl)))) ?_
            refine OL.popC rfl rfl rfl ((by first | exact POp.nilCheck rfl rfl rfl | exact POp.nilCheckP rfl rfl rfl | exact POp.nilCheckF rfl rfl rfl)) ?_
            refine OL.popC rfl rfl rfl ((by first | exact POp.fa rfl rfl rfl rfl | exact POp.faP rfl rfl rfl rfl)) ?_
            refine OL.popC rfl rfl rfl ((by first | exact POp.fa rfl rfl rfl rfl | exact POp.faP rfl rfl rfl rfl)) ?_
            refine OL.popC rfl rfl rfl ((by first | exact POp.ld1 rfl rfl rfl rfl | (apply POp.ld1H rfl rfl rfl; (case hm => repeat (first | exact .head _ | refine .tail _ ?_)); (case hy => rfl)))) ?_
            refine OL.popC rfl rfl rfl (POp.move rfl rfl rfl) ?_
            refine OL.popC rfl rfl rfl ((by first | exact POp.ixM rfl rfl rfl rfl rfl (by omega) | exact POp.ixI rfl rfl rfl rfl rfl (by omega))) ?_
            refine OL.popC rfl rfl rfl ((by first | exact POp.ld1 rfl rfl rfl rfl | (apply POp.ld1H rfl rfl rfl; (case hm => repeat (first | exact .head _ | refine .tail _ ?_)); (case hy => rfl)))) ?_
            refine OL.popC rfl rfl rfl (POp.call (.mk' rfl rfl rfl rfl rfl) ((p151 _ _ (by omega) (by omega)))) ?_
            refine OL.popC rfl rfl rfl (POp.assign rfl rfl rfl) ?_
            refine OL.nil ?_
            refine Done.blkNormal ?_
            refine Done.blkNormal ?_
            refine Done.seq ?_
            refine CW.region ?_
            refine OL.popC rfl rfl rfl (POp.arith rfl rfl rfl rfl rfl rfl (wrap64 (by omega))) ?_
            refine OL.popC rfl rfl rfl (POp.move rfl rfl rfl) ?_
            refine OL.nil ?_
            refine Done.againJ (⟨k + 1, must, no ||| 2 ^ (W.owner.getD ((kn (keyS arg path)).slots.getD k default).toNat default).toNat, rfl, rfl, by omega, hmu, or64 hno (pow64 (by omega)), by rw [← hs, slotsK_step (l := (kn (keyS arg path)).slots) (k := k) (by omega)]; exact slotsK_not (by simpa using h3) (by simpa using h4)⟩) ?_ ?_ ?_
            · omega
            · repeat (first | exact trivial | refine ⟨rfl, ?_⟩)
            · repeat (first | exact List.Sublist.refl _ | refine List.Sublist.cons _ ?_)
          ·
            try simp only [decide_eq_true_eq, decide_eq_false_iff_not, beq_iff_eq, bne_iff_ne, ne_eq, Int.not_lt, Int.not_le, beq_eq_false_iff_ne, gt_iff_lt, ge_iff_le, Bool.not_eq_true, Bool.not_eq_false, Bool.not_eq_false', bne_eq_false_iff_eq] at h4
            refine CW.skip ?_
            refine Done.blkNormal ?_
            refine Done.blkNormal ?_
            refine Done.seq ?_
            refine CW.region ?_
            refine OL.popC rfl rfl rfl (POp.arith rfl rfl rfl rfl rfl rfl (wrap64 (by omega))) ?_
            refine OL.popC rfl rfl rfl (POp.move rfl rfl rfl) ?_
            refine OL.nil ?_
            refine Done.againJ (⟨k + 1, must, no, rfl, rfl, by omega, hmu, hno, by rw [← hs, slotsK_step (l := (kn (keyS arg path)).slots) (k := k) (by omega)]; exact slotsK_free (by simpa using h3) (by simpa using h4)⟩) ?_ ?_ ?_
            · omega
            · repeat (first | exact trivial | refine ⟨rfl, ?_⟩)
            · repeat (first | exact List.Sublist.refl _ | refine List.Sublist.cons _ ?_)
    ·
      try simp only [decide_eq_true_eq, decide_eq_false_iff_not, beq_iff_eq, bne_iff_ne, ne_eq, Int.not_lt, Int.not_le, beq_eq_false_iff_ne, gt_iff_lt, ge_iff_le, Bool.not_eq_true, Bool.not_eq_false, Bool.not_eq_false', bne_eq_false_iff_eq] at h1
      obtain rfl : k = (kn (keyS arg path)).slots.length := by omega
      rw [List.drop_length, slotsK] at hs
      have hob := objectK_some (W := W) (can := can) h0 hs
      refine CW.exit ?_
      refine Done.thenExit ?_
      refine Done.thenExit ?_
      refine Done.blkExit ?_
      refine Done.seq ?_
      refine CW.seq ?_
      refine CW.seq ?_
      refine CW.region ?_
      refine OL.popC rfl rfl rfl (POp.assign rfl rfl rfl) ?_
      refine OL.nil ?_
      refine Done.seq ?_
      refine CW.block ?_
      refine CW.loopJ (fun m st => ∃ (c mu : Nat), st = ⟨[(14, .i c), (7, AV.set mu), (8, AV.set no), (0, sceneP W mb), (3, .ptr (spotCells arg path))], H⟩ ∧ m = 3 + W.parents.length - c ∧ 3 ≤ c ∧ c ≤ 3 + W.parents.length ∧ mu < 18446744073709551616 ∧ closeK W (3 + W.parents.length - c) c mu = closeK W W.parents.length 3 must) ⟨_, _, ⟨3, must, rfl, rfl, by omega, by omega, hmu, by rw [Nat.add_sub_cancel_left]⟩, (by repeat (first | exact trivial | refine ⟨rfl, ?_⟩)), (by repeat (first | exact List.Sublist.refl _ | refine List.Sublist.cons _ ?_))⟩ ?_
      rintro m _ ⟨c, mu, rfl, rfl, hc3, hc, hmu2, hcl⟩
      refine CW.seq ?_
      refine CW.seq ?_
      refine CW.region ?_
      refine OL.popC rfl rfl rfl (POp.move rfl rfl rfl) ?_
      refine OL.popC rfl rfl rfl (POp.move rfl rfl rfl) ?_
      refine OL.popC rfl rfl rfl ((by first | exact POp.nilCheck rfl rfl rfl | exact POp.nilCheckP rfl rfl rfl | exact POp.nilCheckF rfl rfl rfl)) ?_
      refine OL.popC rfl rfl rfl ((by first | exact POp.fa rfl rfl rfl rfl | exact POp.faP rfl rfl rfl rfl)) ?_
      refine OL.popC rfl rfl rfl ((by first | exact POp.ld1 rfl rfl rfl rfl | (apply POp.ld1H rfl rfl rfl; (case hm => repeat (first | exact .head _ | refine .tail _ ?_)); (case hy => rfl)))) ?_
      refine OL.popC rfl rfl rfl ((by first | exact POp.nilCheck rfl rfl rfl | exact POp.nilCheckP rfl rfl rfl | exact POp.nilCheckF rfl rfl rfl)) ?_
      refine OL.popC rfl rfl rfl ((by first | exact POp.fa rfl rfl rfl rfl | exact POp.faP rfl rfl rfl rfl)) ?_
      refine OL.popC rfl rfl rfl ((by first | exact POp.fa rfl rfl rfl rfl | exact POp.faP rfl rfl rfl rfl)) ?_
      refine OL.popC rfl rfl rfl ((by first | exact POp.ld1 rfl rfl rfl rfl | (apply POp.ld1H rfl rfl rfl; (case hm => repeat (first | exact .head _ | refine .tail _ ?_)); (case hy => rfl)))) ?_
      refine OL.popC rfl rfl rfl ((by first | exact POp.lenM rfl rfl rfl | exact POp.lenA rfl rfl rfl | exact POp.lenV rfl rfl rfl | exact POp.len' rfl rfl rfl)) ?_
      refine OL.popC rfl rfl rfl (POp.arith rfl rfl rfl rfl rfl rfl (wrap64 (by omega))) ?_
      refine OL.popC rfl rfl rfl (POp.cmp rfl rfl rfl rfl rfl rfl) ?_
      refine OL.nil ?_
      refine Done.seq ?_
      refine CW.cond rfl (fun h5 => ?_) (fun h5 => ?_)
      ·
        try simp only [decide_eq_true_eq, decide_eq_false_iff_not, beq_iff_eq, bne_iff_ne, ne_eq, Int.not_lt, Int.not_le, beq_eq_false_iff_ne, gt_iff_lt, ge_iff_le, Bool.not_eq_true, Bool.not_eq_false, Bool.not_eq_false', bne_eq_false_iff_eq] at h5
        refine CW.skip ?_
        refine Done.seq ?_
        refine CW.seq ?_
        refine CW.block ?_
        refine CW.seq ?_
        refine CW.region ?_
        refine OL.popC rfl rfl rfl (POp.move rfl rfl rfl) ?_
        refine OL.popC rfl rfl rfl (POp.move rfl rfl rfl) ?_
        refine OL.popC rfl rfl rfl (POp.call (.mk' rfl rfl rfl rfl rfl) ((p107 _ _ (by omega) (by assumption)))) ?_
        refine OL.nil ?_
        refine Done.seq ?_
        refine CW.cond rfl (fun h6 => ?_) (fun h6 => ?_)
        ·
          try simp only [decide_eq_true_eq, decide_eq_false_iff_not, beq_iff_eq, bne_iff_ne, ne_eq, Int.not_lt, Int.not_le, beq_eq_false_iff_ne, gt_iff_lt, ge_iff_le, Bool.not_eq_true, Bool.not_eq_false, Bool.not_eq_false', bne_eq_false_iff_eq] at h6
          refine CW.region ?_
          refine OL.popC rfl rfl rfl (POp.move rfl rfl rfl) ?_
          refine OL.popC rfl rfl rfl (POp.move rfl rfl rfl) ?_
          refine OL.popC rfl rfl rfl ((by first | exact POp.nilCheck rfl rfl rfl | exact POp.nilCheckP rfl rfl rfl | exact POp.nilCheckF rfl rfl rfl)) ?_
          refine OL.popC rfl rfl rfl ((by first | exact POp.fa rfl rfl rfl rfl | exact POp.faP rfl rfl rfl rfl)) ?_
          refine OL.popC rfl rfl rfl ((by first | exact POp.ld1 rfl rfl rfl rfl | (apply POp.ld1H rfl rfl rfl; (case hm => repeat (first | exact .head _ | refine .tail _ ?_)); (case hy => rfl)))) ?_
          refine OL.popC rfl rfl rfl (POp.move rfl rfl rfl) ?_
          refine OL.popC rfl rfl rfl ((by first | exact POp.nilCheck rfl rfl rfl | exact POp.nilCheckP rfl rfl rfl | exact POp.nilCheckF rfl rfl rfl)) ?_
          refine OL.popC rfl rfl rfl ((by first | exact POp.fa rfl rfl rfl rfl | exact POp.faP rfl rfl rfl rfl)) ?_
          refine OL.popC rfl rfl rfl ((by first | exact POp.ia rfl rfl rfl rfl rfl (by omega) | exact POp.iaP rfl rfl rfl rfl rfl (by omega))) ?_
          refine OL.popC rfl rfl rfl (POp.ld1 rfl rfl rfl (up_drop (c := c) (by simp) (by rw [ups_len]; omega))) ?_
          refine OL.popC rfl rfl rfl (POp.bits rfl rfl rfl rfl rfl (bit_or _ _ hmu2 (u_get (ups_lt hP) _))) ?_
          refine OL.popC rfl rfl rfl (POp.assign rfl rfl rfl) ?_
          refine OL.nil ?_
          refine Done.blkNormal ?_
          refine Done.seq ?_
          refine CW.region ?_
          refine OL.popC rfl rfl rfl (POp.move rfl rfl rfl) ?_
          refine OL.popC rfl rfl rfl (POp.arith rfl rfl rfl rfl rfl rfl (wrap64 (by omega))) ?_
          refine OL.popC rfl rfl rfl (POp.assign rfl rfl rfl) ?_
          refine OL.nil ?_
          refine Done.againJ (⟨c + 1, mu ||| (upsP W).getD c 0, rfl, rfl, by omega, by omega, or64 hmu2 (u_get (ups_lt hP) _), by have := closeK_step (by omega) hcl; rwa [if_pos (by simpa using h6)] at this⟩) ?_ ?_ ?_
          · omega
          · repeat (first | exact trivial | refine ⟨rfl, ?_⟩)
          · repeat (first | exact List.Sublist.refl _ | refine List.Sublist.cons _ ?_)
        ·
          try simp only [decide_eq_true_eq, decide_eq_false_iff_not, beq_iff_eq, bne_iff_ne, ne_eq, Int.not_lt, Int.not_le, beq_eq_false_iff_ne, gt_iff_lt, ge_iff_le, Bool.not_eq_true, Bool.not_eq_false, Bool.not_eq_false', bne_eq_false_iff_eq] at h6
          refine CW.skip ?_
          refine Done.blkNormal ?_
          refine Done.seq ?_
          refine CW.region ?_
          refine OL.popC rfl rfl rfl (POp.move rfl rfl rfl) ?_
          refine OL.popC rfl rfl rfl (POp.arith rfl rfl rfl rfl rfl rfl (wrap64 (by omega))) ?_
          refine OL.popC rfl rfl rfl (POp.assign rfl rfl rfl) ?_
          refine OL.nil ?_
          refine Done.againJ (⟨c + 1, mu, rfl, rfl, by omega, by omega, hmu2, by have := closeK_step (by omega) hcl; rwa [if_neg (by simpa using h6)] at this⟩) ?_ ?_ ?_
          · omega
          · repeat (first | exact trivial | refine ⟨rfl, ?_⟩)
          · repeat (first | exact List.Sublist.refl _ | refine List.Sublist.cons _ ?_)
      ·
        try simp only [decide_eq_true_eq, decide_eq_false_iff_not, beq_iff_eq, bne_iff_ne, ne_eq, Int.not_lt, Int.not_le, beq_eq_false_iff_ne, gt_iff_lt, ge_iff_le, Bool.not_eq_true, Bool.not_eq_false, Bool.not_eq_false', bne_eq_false_iff_eq] at h5
        obtain rfl : c = 3 + W.parents.length := by omega
        rw [Nat.sub_self, closeK] at hcl
        refine CW.exit ?_
        refine Done.thenExit ?_
        refine Done.thenExit ?_
        refine Done.blkExit ?_
        refine Done.seq ?_
        refine CW.seq ?_
        refine CW.region ?_
        refine OL.popC rfl rfl rfl (POp.move rfl rfl rfl) ?_
        refine OL.popC rfl rfl rfl (POp.bits rfl rfl rfl rfl rfl (bit_andNot _ 1)) ?_
        refine OL.popC rfl rfl rfl (POp.assign rfl rfl rfl) ?_
        refine OL.nil ?_
        refine Done.seq ?_
        refine CW.seq ?_
        refine CW.region ?_
        refine OL.popC rfl rfl rfl (POp.move rfl rfl rfl) ?_
        refine OL.popC rfl rfl rfl (POp.move rfl rfl rfl) ?_
        refine OL.popC rfl rfl rfl (POp.move rfl rfl rfl) ?_
        refine OL.popC rfl rfl rfl (POp.bits rfl rfl rfl rfl rfl (bit_and _ _ (andNot_lt _ _) hno)) ?_
        refine OL.popC rfl rfl rfl (POp.cmp rfl rfl rfl rfl rfl rfl) ?_
        refine OL.popC rfl rfl rfl (POp.assign rfl rfl rfl) ?_
        refine OL.popC rfl rfl rfl (POp.assign rfl rfl rfl) ?_
        refine OL.nil ?_
        refine Done.seq ?_
        refine CW.ret ?_
        refine Done.retR (rs := [.tmp 4, .tmp 5]) (H' := H) rfl (.tmp rfl (.tmp rfl (.nil))) (AVleL.refl _) (by repeat (first | exact List.Sublist.refl _ | refine List.Sublist.cons _ ?_)) ?_
        exact ⟨by rw [hob, ← hcl]; rfl, rfl⟩
end Go.Proofs.YtiljpbljebfhnaaGreat

set_option linter.unusedVariables false
set_option linter.unusedSimpArgs false
set_option maxRecDepth 10000
namespace Go.Proofs.YtiljpbljebfhnaaGreat
open Go.Eng
open Go.Eng.Fc
theorem p186_step {W : FW} {mb : Nat} {kn : Value → Kn} (K : KnOk W kn) (hw : worldP W = true) {arg : Int} {path : List Int} (h : goodSpot arg path) (can : List Int → Bool) (ih : ∀ s ∈ (kn (keyS arg path)).slots, PCallIn Tryz.prog [sceneH mb kn] 186 [sceneP W mb, AV.spot arg (path ++ [s])] (.b (can (path ++ [s])))) :
    PCallIn Tryz.prog [sceneH mb kn] 186 [sceneP W mb, AV.spot arg path] (.b (integerOk kn arg path || noneOk kn arg path || (objectK W kn can arg path).2)) := by
  intro H hm
  refine ACall.mk' (n := 28) Tryz.func186 rfl (by kernel_rfl) rfl rfl (fun B I w0 => ?_)
  have hW := world_own hw
  refine CW.seq ?_
  refine CW.region ?_
  refine OL.popC rfl rfl rfl (POp.boxI rfl rfl rfl rfl) ?_
  refine OL.popC rfl rfl rfl (POp.assign rfl rfl rfl) ?_
  refine OL.nil ?_
  refine Done.seq ?_
  refine CW.seq ?_
  refine CW.seq ?_
  refine CW.region ?_
  refine OL.popC rfl rfl rfl (POp.move rfl rfl rfl) ?_
  refine OL.popC rfl rfl rfl ((by first | exact POp.ldA rfl rfl rfl rfl | (apply POp.ldAH rfl rfl rfl; (case hm => repeat (first | exact .head _ | refine .tail _ ?_)); (case hy => rfl); (case hn => rfl)))) ?_
  refine OL.popC rfl rfl rfl (POp.callIn (.mk' rfl rfl rfl rfl rfl) (AVleL.refl _) (p166 K hW h) (fun e he => by repeat (first | exact hm e he | apply List.mem_cons_of_mem))) ?_
  refine OL.popC rfl rfl rfl (POp.move rfl rfl rfl) ?_
  refine OL.popC rfl rfl rfl (POp.extract rfl rfl rfl rfl) ?_
  refine OL.popC rfl rfl rfl (POp.extract rfl rfl rfl rfl) ?_
  refine OL.popC rfl rfl rfl (POp.assign rfl rfl rfl) ?_
  refine OL.popC rfl rfl rfl (POp.assign rfl rfl rfl) ?_
  refine OL.nil ?_
  refine Done.seq ?_
  refine CW.seq ?_
  refine CW.region ?_
  refine OL.popC rfl rfl rfl (POp.move rfl rfl rfl) ?_
  refine OL.popC rfl rfl rfl (POp.move rfl rfl rfl) ?_
  refine OL.guardC rfl rfl rfl rfl rfl rfl (fun hg => POp.move rfl rfl rfl) ?_
  refine OL.guardC rfl rfl rfl rfl rfl rfl (fun hg => (by first | exact POp.ldA rfl rfl rfl rfl | (apply POp.ldAH rfl rfl rfl; (case hm => repeat (first | exact .head _ | refine .tail _ ?_)); (case hy => rfl); (case hn => rfl)))) ?_
  refine OL.guardC rfl rfl rfl rfl rfl rfl (fun hg => POp.callIn (.mk' rfl rfl rfl rfl (by simp_all [strip, constAV])) (AVleL.refl _) (p167 K hW h) (fun e he => by repeat (first | exact hm e he | apply List.mem_cons_of_mem))) ?_
  refine OL.popC rfl rfl rfl (POp.pick rfl rfl rfl rfl rfl (fun _ => rfl) (by first | exact fun h => h | (intro h; rw [h]; rfl) | (intro h; simp_all))) ?_
  refine OL.nil ?_
  refine Done.seq ?_
  refine CW.cond rfl (fun h0 => ?_) (fun h0 => ?_)
  ·
    have hr : (integerOk kn arg path || noneOk kn arg path) = true := by rw [bif_or] at h0; exact h0
    refine CW.seq ?_
    refine CW.region ?_
    refine OL.popC rfl rfl rfl (POp.assign rfl rfl rfl) ?_
    refine OL.nil ?_
    refine Done.seq ?_
    refine CW.ret ?_
    refine Done.thenRet ?_
    refine Done.retR (rs := [.tmp 4]) (H' := H) rfl (.tmp rfl (.nil)) (AVleL.refl _) (by repeat (first | exact List.Sublist.refl _ | refine List.Sublist.cons _ ?_)) ?_
    exact ⟨retB (by rw [hr]; rfl), rfl⟩
  ·
    have hr : (integerOk kn arg path || noneOk kn arg path) = false := by rw [bif_or] at h0; exact h0
    refine CW.skip ?_
    refine Done.seq ?_
    refine CW.seq ?_
    refine CW.region ?_
    refine OL.popC rfl rfl rfl (POp.move rfl rfl rfl) ?_
    refine OL.popC rfl rfl rfl ((by first | exact POp.ldA rfl rfl rfl rfl | (apply POp.ldAH rfl rfl rfl; (case hm => repeat (first | exact .head _ | refine .tail _ ?_)); (case hy => rfl); (case hn => rfl)))) ?_
    refine OL.popC rfl rfl rfl (POp.callIn (.mk' rfl rfl rfl rfl rfl) (AVleL.refl _) (p168_step K hw h can ih) (fun e he => by repeat (first | exact hm e he | apply List.mem_cons_of_mem))) ?_
    refine OL.popC rfl rfl rfl (POp.move rfl rfl rfl) ?_
    refine OL.popC rfl rfl rfl (POp.extract rfl rfl rfl rfl) ?_
    refine OL.popC rfl rfl rfl (POp.extract rfl rfl rfl rfl) ?_
    refine OL.popC rfl rfl rfl (POp.assign rfl rfl rfl) ?_
    refine OL.popC rfl rfl rfl (POp.assign rfl rfl rfl) ?_
    refine OL.nil ?_
    refine Done.seq ?_
    refine CW.seq ?_
    refine CW.region ?_
    refine OL.popC rfl rfl rfl (POp.move rfl rfl rfl) ?_
    refine OL.popC rfl rfl rfl (POp.assign rfl rfl rfl) ?_
    refine OL.nil ?_
    refine Done.seq ?_
    refine CW.ret ?_
    refine Done.retR (rs := [.tmp 4]) (H' := H) rfl (.tmp rfl (.nil)) (AVleL.refl _) (by repeat (first | exact List.Sublist.refl _ | refine List.Sublist.cons _ ?_)) ?_
    exact ⟨retB (by rw [hr]; rfl), rfl⟩
def canP (W : FW) (kn : Value → Kn) (arg : Int) (path : List Int) : Bool := canK W kn (2 - path.length) arg path
theorem p186 {W : FW} {mb : Nat} {kn : Value → Kn} (K : KnOk W kn) (hw : worldP W = true) {arg : Int} : ∀ (d : Nat) (path : List Int), goodSpot arg path → path.length + d = 2 → PCallIn Tryz.prog [sceneH mb kn] 186 [sceneP W mb, AV.spot arg path] (.b (canK W kn d arg path))
  | 0, path, h, hd => p186_step K hw h (fun _ => false) (fun s hs => by rw [K.deep arg path h (by omega)] at hs; cases hs)
  | d + 1, path, h, hd => p186_step K hw h (canK W kn d arg) (fun s hs => p186 K hw d (path ++ [s]) (kn_next K (world_own hw) h hs).2 (by simp; omega))
end Go.Proofs.YtiljpbljebfhnaaGreat

set_option linter.unusedVariables false
set_option linter.unusedSimpArgs false
set_option maxRecDepth 10000
namespace Go.Proofs.YtiljpbljebfhnaaGreat
open Go.Eng
open Go.Eng.Fc
/-! ### the phase in which literals are read: what is known is private memory -/
abbrev intEls (l : List Int) : List (List AV) := l.map fun n => [AV.i n]
def KBcells (k : Kn) (vn vs : Value) : List AV := [.i k.low, .i k.high, .val vn, AV.set k.must, AV.set k.no, .b k.whole, .b k.needed, .val vs]
structure KB where
  key : Value
  blk : Nat
  kn : Kn
  vn : Value
  vs : Value
def rowE (vs : Value) (slots : List Int) : Ent := .row 3 1 vs (intEls slots).length (intEls slots).flatten
def KB.ents (e : KB) : List Ent := [.blk e.blk 209 (KBcells e.kn e.vn e.vs), rowE e.vn e.kn.nots, rowE e.vs e.kn.slots]
def askK (k : Kn) (l : FLit) : Kn :=
  if l.f.op = 2 then (if l.neg then { k with no := k.no ||| 2 ^ l.f.cls.toNat } else { k with must := k.must ||| 2 ^ l.f.cls.toNat })
  else if l.f.op = 3 then (if l.neg then { k with low := (if l.f.n > k.low then l.f.n else k.low) } else { k with high := (if l.f.n - 1 < k.high then l.f.n - 1 else k.high), whole := true })
  else if l.neg then { k with nots := k.nots ++ [l.f.n] }
  else { k with low := (if l.f.n > k.low then l.f.n else k.low), high := (if l.f.n < k.high then l.f.n else k.high), whole := true }
theorem rowE_snoc (v : Value) (l : List Int) (n : Int) : rowE v (l ++ [n]) = .row 3 1 v ((intEls l).length + 1) ((intEls l).flatten ++ [AV.i n]) := by
  simp [rowE, intEls]
structure LitOk (W : FW) (l : FLit) : Prop where
  op : 2 ≤ l.f.op ∧ l.f.op ≤ 4
  cls : l.f.op = 2 → 0 ≤ l.f.cls ∧ l.f.cls < 63
  n : -1000000000 ≤ l.f.n ∧ l.f.n ≤ 1000000000
  arg : 0 ≤ l.f.arg ∧ l.f.arg < 3
  path : l.f.path.length ≤ 2
  slot : ∀ s ∈ l.f.path, 0 ≤ s ∧ s < W.owner.length
  kids : l.f.kids = []
theorem p201 {W : FW} {l : FLit} (hl : LitOk W l) (B blk : Nat) (k : Kn) (vn vs : Value) (hm : k.must < 18446744073709551616) (hno : k.no < 18446744073709551616) (hns : k.nots.length ≤ 1000) (Hx : List Ent) :
    BCall B Tryz.prog 201 [.p blk 0, AV.lit l] (.blk blk 209 (KBcells k vn vs) :: rowE vn k.nots :: Hx) (fun y H' => ∃ vn', y = .tup [] ∧ H' = .blk blk 209 (KBcells (askK k l) vn' vs) :: rowE vn' (askK k l).nots :: Hx) (fun _ => False) := by
  refine BCall.of (n := 130) Tryz.func201 rfl (by kernel_rfl) rfl rfl (fun I w0 => ?_)
  have hcls := hl.cls
  have hn := hl.n
  refine CW.seq ?_
  refine CW.region ?_
  refine OL.popC rfl rfl rfl (POp.boxI rfl rfl rfl rfl) ?_
  refine OL.nil ?_
  refine Done.seq ?_
  refine CW.block ?_
  refine CW.seq ?_
  refine CW.region ?_
  refine OL.popC rfl rfl rfl ((by first | exact POp.fa rfl rfl rfl rfl | exact POp.faP rfl rfl rfl rfl)) ?_
  refine OL.popC rfl rfl rfl ((by first | exact POp.fa rfl rfl rfl rfl | exact POp.faP rfl rfl rfl rfl)) ?_
  refine OL.popC rfl rfl rfl ((by first | exact POp.ld1 rfl rfl rfl rfl | (apply POp.ld1H rfl rfl rfl; (case hm => repeat (first | exact .head _ | refine .tail _ ?_)); (case hy => rfl)))) ?_
  refine OL.popC rfl rfl rfl (POp.cmp rfl rfl rfl rfl rfl rfl) ?_
  refine OL.popC rfl rfl rfl (POp.move rfl rfl rfl) ?_
  refine OL.guardC rfl rfl rfl rfl rfl rfl (fun hg => (by first | exact POp.fa rfl rfl rfl rfl | exact POp.faP rfl rfl rfl rfl)) ?_
  refine OL.guardC rfl rfl rfl rfl rfl rfl (fun hg => (by first | exact POp.ld1 rfl rfl (by first | rfl | exact hg | exact (Bool.and_eq_true_iff.1 hg).1 | exact (Bool.and_eq_true_iff.1 (Bool.and_eq_true_iff.1 hg).1).1 | simp_all) rfl | (apply POp.ld1H rfl rfl (by first | rfl | exact hg | exact (Bool.and_eq_true_iff.1 hg).1 | exact (Bool.and_eq_true_iff.1 (Bool.and_eq_true_iff.1 hg).1).1 | simp_all); (case hm => repeat (first | exact .head _ | refine .tail _ ?_)); (case hy => rfl)))) ?_
  refine OL.popC rfl rfl rfl (POp.pick rfl rfl rfl rfl rfl (by first | exact fun h => h | (intro h; rw [h]; rfl) | (intro h; simp_all)) (fun _ => rfl)) ?_
  refine OL.popC rfl rfl rfl (POp.assign rfl rfl rfl) ?_
  refine OL.nil ?_
  refine Done.seq ?_
  refine CW.cond rfl (fun h0 => ?_) (fun h0 => ?_)
  ·
    try simp only [decide_eq_true_eq, decide_eq_false_iff_not, beq_iff_eq, bne_iff_ne, ne_eq, Int.not_lt, Int.not_le, beq_eq_false_iff_ne, gt_iff_lt, ge_iff_le, Bool.not_eq_true, Bool.not_eq_false, Bool.not_eq_false', bne_eq_false_iff_eq] at h0
    refine CW.dp mixed ?_
    refine DP.anyC 0 9 130 rfl (by decide +kernel) rfl rfl (by decide +kernel) ?_
    refine AD.popC rfl rfl rfl (POp.move rfl rfl rfl) ?_
    refine AD.popC rfl rfl rfl (POp.move rfl rfl rfl) ?_
    refine AD.popC rfl rfl rfl ((by first | exact POp.nilCheck rfl rfl rfl | exact POp.nilCheckP rfl rfl rfl | exact POp.nilCheckF rfl rfl rfl)) ?_
    refine AD.popC rfl rfl rfl ((by first | exact POp.fa rfl rfl rfl rfl | exact POp.faP rfl rfl rfl rfl)) ?_
    refine AD.popC rfl rfl rfl ((by first | exact POp.ld1 rfl rfl rfl rfl | (apply POp.ld1H rfl rfl rfl; (case hm => repeat (first | exact .head _ | refine .tail _ ?_)); (case hy => rfl)))) ?_
    refine AD.popC rfl rfl rfl ((by first | exact POp.fa rfl rfl rfl rfl | exact POp.faP rfl rfl rfl rfl)) ?_
    refine AD.popC rfl rfl rfl ((by first | exact POp.fa rfl rfl rfl rfl | exact POp.faP rfl rfl rfl rfl)) ?_
    refine AD.popC rfl rfl rfl ((by first | exact POp.ld1 rfl rfl rfl rfl | (apply POp.ld1H rfl rfl rfl; (case hm => repeat (first | exact .head _ | refine .tail _ ?_)); (case hy => rfl)))) ?_
    refine AD.popC rfl rfl rfl (POp.call (.mk' rfl rfl rfl rfl rfl) (p151 _ l.f.cls (by simp_all; omega) hno)) ?_
    refine AD.nil ?_
    refine DP.tailC 9 (by decide +kernel) rfl ?_
    refine OL.popC rfl rfl rfl ((by first | exact POp.nilCheck rfl rfl rfl | exact POp.nilCheckP rfl rfl rfl | exact POp.nilCheckF rfl rfl rfl)) ?_
    refine OL.popC rfl rfl rfl ((by first | exact POp.fa rfl rfl rfl rfl | exact POp.faP rfl rfl rfl rfl)) ?_
    apply OL.stoC rfl rfl rfl rfl rfl rfl rfl rfl rfl rfl
    (case hu => repeat (first | exact Upd.head _ _ _ | apply Upd.tail)); (case hfit => rfl); (case hds => rfl)
    refine OL.nil ?_
    refine Done.blkNormal ?_
    refine Done.norR (rs := []) rfl (.nil) (AVleL.refl _) (by repeat (first | exact List.Sublist.refl _ | refine List.Sublist.cons _ ?_)) ?_
    exact ⟨vn, rfl, by rw [show askK k l = { k with no := k.no ||| 2 ^ l.f.cls.toNat } by simp_all [askK]]; rfl⟩
  ·
    try simp only [decide_eq_true_eq, decide_eq_false_iff_not, beq_iff_eq, bne_iff_ne, ne_eq, Int.not_lt, Int.not_le, beq_eq_false_iff_ne, gt_iff_lt, ge_iff_le, Bool.not_eq_true, Bool.not_eq_false, Bool.not_eq_false', bne_eq_false_iff_eq] at h0
    refine CW.seq ?_
    refine CW.region ?_
    refine OL.popC rfl rfl rfl ((by first | exact POp.fa rfl rfl rfl rfl | exact POp.faP rfl rfl rfl rfl)) ?_
    refine OL.popC rfl rfl rfl ((by first | exact POp.fa rfl rfl rfl rfl | exact POp.faP rfl rfl rfl rfl)) ?_
    refine OL.popC rfl rfl rfl ((by first | exact POp.ld1 rfl rfl rfl rfl | (apply POp.ld1H rfl rfl rfl; (case hm => repeat (first | exact .head _ | refine .tail _ ?_)); (case hy => rfl)))) ?_
    refine OL.popC rfl rfl rfl (POp.cmp rfl rfl rfl rfl rfl rfl) ?_
    refine OL.popC rfl rfl rfl (POp.assign rfl rfl rfl) ?_
    refine OL.nil ?_
    refine Done.seq ?_
    refine CW.cond rfl (fun h1 => ?_) (fun h1 => ?_)
    ·
      try simp only [decide_eq_true_eq, decide_eq_false_iff_not, beq_iff_eq, bne_iff_ne, ne_eq, Int.not_lt, Int.not_le, beq_eq_false_iff_ne, gt_iff_lt, ge_iff_le, Bool.not_eq_true, Bool.not_eq_false, Bool.not_eq_false', bne_eq_false_iff_eq] at h1
      refine CW.dp mixed ?_
      refine DP.anyC 0 9 130 rfl (by decide +kernel) rfl rfl (by decide +kernel) ?_
      refine AD.popC rfl rfl rfl (POp.move rfl rfl rfl) ?_
      refine AD.popC rfl rfl rfl (POp.move rfl rfl rfl) ?_
      refine AD.popC rfl rfl rfl ((by first | exact POp.nilCheck rfl rfl rfl | exact POp.nilCheckP rfl rfl rfl | exact POp.nilCheckF rfl rfl rfl)) ?_
      refine AD.popC rfl rfl rfl ((by first | exact POp.fa rfl rfl rfl rfl | exact POp.faP rfl rfl rfl rfl)) ?_
      refine AD.popC rfl rfl rfl ((by first | exact POp.ld1 rfl rfl rfl rfl | (apply POp.ld1H rfl rfl rfl; (case hm => repeat (first | exact .head _ | refine .tail _ ?_)); (case hy => rfl)))) ?_
      refine AD.popC rfl rfl rfl ((by first | exact POp.fa rfl rfl rfl rfl | exact POp.faP rfl rfl rfl rfl)) ?_
      refine AD.popC rfl rfl rfl ((by first | exact POp.fa rfl rfl rfl rfl | exact POp.faP rfl rfl rfl rfl)) ?_
      refine AD.popC rfl rfl rfl ((by first | exact POp.ld1 rfl rfl rfl rfl | (apply POp.ld1H rfl rfl rfl; (case hm => repeat (first | exact .head _ | refine .tail _ ?_)); (case hy => rfl)))) ?_
      refine AD.popC rfl rfl rfl (POp.call (.mk' rfl rfl rfl rfl rfl) (p151 _ l.f.cls (by simp_all; omega) hm)) ?_
      refine AD.nil ?_
      refine DP.tailC 9 (by decide +kernel) rfl ?_
      refine OL.popC rfl rfl rfl ((by first | exact POp.nilCheck rfl rfl rfl | exact POp.nilCheckP rfl rfl rfl | exact POp.nilCheckF rfl rfl rfl)) ?_
      refine OL.popC rfl rfl rfl ((by first | exact POp.fa rfl rfl rfl rfl | exact POp.faP rfl rfl rfl rfl)) ?_
      apply OL.stoC rfl rfl rfl rfl rfl rfl rfl rfl rfl rfl
      (case hu => repeat (first | exact Upd.head _ _ _ | apply Upd.tail)); (case hfit => rfl); (case hds => rfl)
      refine OL.nil ?_
      refine Done.blkNormal ?_
      refine Done.norR (rs := []) rfl (.nil) (AVleL.refl _) (by repeat (first | exact List.Sublist.refl _ | refine List.Sublist.cons _ ?_)) ?_
      exact ⟨vn, rfl, by rw [show askK k l = { k with must := k.must ||| 2 ^ l.f.cls.toNat } by simp_all [askK]]; rfl⟩
    ·
      try simp only [decide_eq_true_eq, decide_eq_false_iff_not, beq_iff_eq, bne_iff_ne, ne_eq, Int.not_lt, Int.not_le, beq_eq_false_iff_ne, gt_iff_lt, ge_iff_le, Bool.not_eq_true, Bool.not_eq_false, Bool.not_eq_false', bne_eq_false_iff_eq] at h1
      refine CW.seq ?_
      refine CW.region ?_
      refine OL.popC rfl rfl rfl ((by first | exact POp.fa rfl rfl rfl rfl | exact POp.faP rfl rfl rfl rfl)) ?_
      refine OL.popC rfl rfl rfl ((by first | exact POp.fa rfl rfl rfl rfl | exact POp.faP rfl rfl rfl rfl)) ?_
      refine OL.popC rfl rfl rfl ((by first | exact POp.ld1 rfl rfl rfl rfl | (apply POp.ld1H rfl rfl rfl; (case hm => repeat (first | exact .head _ | refine .tail _ ?_)); (case hy => rfl)))) ?_
      refine OL.popC rfl rfl rfl (POp.cmp rfl rfl rfl rfl rfl rfl) ?_
      refine OL.popC rfl rfl rfl (POp.move rfl rfl rfl) ?_
      refine OL.guardC rfl rfl rfl rfl rfl rfl (fun hg => (by first | exact POp.fa rfl rfl rfl rfl | exact POp.faP rfl rfl rfl rfl)) ?_
      refine OL.guardC rfl rfl rfl rfl rfl rfl (fun hg => (by first | exact POp.ld1 rfl rfl (by first | rfl | exact hg | exact (Bool.and_eq_true_iff.1 hg).1 | exact (Bool.and_eq_true_iff.1 (Bool.and_eq_true_iff.1 hg).1).1 | simp_all) rfl | (apply POp.ld1H rfl rfl (by first | rfl | exact hg | exact (Bool.and_eq_true_iff.1 hg).1 | exact (Bool.and_eq_true_iff.1 (Bool.and_eq_true_iff.1 hg).1).1 | simp_all); (case hm => repeat (first | exact .head _ | refine .tail _ ?_)); (case hy => rfl)))) ?_
      refine OL.popC rfl rfl rfl (POp.pick rfl rfl rfl rfl rfl (by first | exact fun h => h | (intro h; rw [h]; rfl) | (intro h; simp_all)) (fun _ => rfl)) ?_
      refine OL.popC rfl rfl rfl (POp.assign rfl rfl rfl) ?_
      refine OL.nil ?_
      refine Done.seq ?_
      refine CW.cond rfl (fun h2 => ?_) (fun h2 => ?_)
      ·
        try simp only [decide_eq_true_eq, decide_eq_false_iff_not, beq_iff_eq, bne_iff_ne, ne_eq, Int.not_lt, Int.not_le, beq_eq_false_iff_ne, gt_iff_lt, ge_iff_le, Bool.not_eq_true, Bool.not_eq_false, Bool.not_eq_false', bne_eq_false_iff_eq] at h2
        refine CW.dp mixed ?_
        refine DP.anyC 0 10 130 rfl (by decide +kernel) rfl rfl (by decide +kernel) ?_
        refine AD.popC rfl rfl rfl (POp.move rfl rfl rfl) ?_
        refine AD.popC rfl rfl rfl (POp.move rfl rfl rfl) ?_
        refine AD.popC rfl rfl rfl ((by first | exact POp.nilCheck rfl rfl rfl | exact POp.nilCheckP rfl rfl rfl | exact POp.nilCheckF rfl rfl rfl)) ?_
        refine AD.popC rfl rfl rfl ((by first | exact POp.fa rfl rfl rfl rfl | exact POp.faP rfl rfl rfl rfl)) ?_
        refine AD.popC rfl rfl rfl ((by first | exact POp.fa rfl rfl rfl rfl | exact POp.faP rfl rfl rfl rfl)) ?_
        refine AD.popC rfl rfl rfl ((by first | exact POp.ld1 rfl rfl rfl rfl | (apply POp.ld1H rfl rfl rfl; (case hm => repeat (first | exact .head _ | refine .tail _ ?_)); (case hy => rfl)))) ?_
        refine AD.popC rfl rfl rfl ((by first | exact POp.fa rfl rfl rfl rfl | exact POp.faP rfl rfl rfl rfl)) ?_
        refine AD.popC rfl rfl rfl ((by first | exact POp.fa rfl rfl rfl rfl | exact POp.faP rfl rfl rfl rfl)) ?_
        refine AD.popC rfl rfl rfl ((by first | exact POp.ld1 rfl rfl rfl rfl | (apply POp.ld1H rfl rfl rfl; (case hm => repeat (first | exact .head _ | refine .tail _ ?_)); (case hy => rfl)))) ?_
        refine AD.popC rfl rfl rfl (POp.max2 rfl rfl rfl rfl rfl rfl) ?_
        refine AD.nil ?_
        refine DP.tailC 10 (by decide +kernel) rfl ?_
        refine OL.popC rfl rfl rfl ((by first | exact POp.nilCheck rfl rfl rfl | exact POp.nilCheckP rfl rfl rfl | exact POp.nilCheckF rfl rfl rfl)) ?_
        refine OL.popC rfl rfl rfl ((by first | exact POp.fa rfl rfl rfl rfl | exact POp.faP rfl rfl rfl rfl)) ?_
        refine OL.popC rfl rfl rfl ((by first | exact POp.fa rfl rfl rfl rfl | exact POp.faP rfl rfl rfl rfl)) ?_
        apply OL.stoC rfl rfl rfl rfl rfl rfl rfl rfl rfl rfl
        (case hu => repeat (first | exact Upd.head _ _ _ | apply Upd.tail)); (case hfit => rfl); (case hds => rfl)
        refine OL.nil ?_
        refine Done.blkNormal ?_
        refine Done.norR (rs := []) rfl (.nil) (AVleL.refl _) (by repeat (first | exact List.Sublist.refl _ | refine List.Sublist.cons _ ?_)) ?_
        exact ⟨vn, rfl, by rw [show askK k l = { k with low := if l.f.n > k.low then l.f.n else k.low } by simp_all [askK]]; rfl⟩
      ·
        try simp only [decide_eq_true_eq, decide_eq_false_iff_not, beq_iff_eq, bne_iff_ne, ne_eq, Int.not_lt, Int.not_le, beq_eq_false_iff_ne, gt_iff_lt, ge_iff_le, Bool.not_eq_true, Bool.not_eq_false, Bool.not_eq_false', bne_eq_false_iff_eq] at h2
        refine CW.seq ?_
        refine CW.region ?_
        refine OL.popC rfl rfl rfl ((by first | exact POp.fa rfl rfl rfl rfl | exact POp.faP rfl rfl rfl rfl)) ?_
        refine OL.popC rfl rfl rfl ((by first | exact POp.fa rfl rfl rfl rfl | exact POp.faP rfl rfl rfl rfl)) ?_
        refine OL.popC rfl rfl rfl ((by first | exact POp.ld1 rfl rfl rfl rfl | (apply POp.ld1H rfl rfl rfl; (case hm => repeat (first | exact .head _ | refine .tail _ ?_)); (case hy => rfl)))) ?_
        refine OL.popC rfl rfl rfl (POp.cmp rfl rfl rfl rfl rfl rfl) ?_
        refine OL.popC rfl rfl rfl (POp.assign rfl rfl rfl) ?_
        refine OL.nil ?_
        refine Done.seq ?_
        refine CW.cond rfl (fun h3 => ?_) (fun h3 => ?_)
        ·
          try simp only [decide_eq_true_eq, decide_eq_false_iff_not, beq_iff_eq, bne_iff_ne, ne_eq, Int.not_lt, Int.not_le, beq_eq_false_iff_ne, gt_iff_lt, ge_iff_le, Bool.not_eq_true, Bool.not_eq_false, Bool.not_eq_false', bne_eq_false_iff_eq] at h3
          refine CW.dp mixed ?_
          refine DP.anySC (fun j => match j with | 0 => (.blk blk 209 (KBcells k vn vs) :: rowE vn k.nots :: Hx) | _ => (.blk blk 209 (KBcells { k with high := (if l.f.n - 1 < k.high then l.f.n - 1 else k.high) } vn vs) :: rowE vn k.nots :: Hx)) [15] 0 16 130 rfl (by decide +kernel) rfl rfl rfl (by decide +kernel) rfl ?_
          refine TD.popC 0 0 (by decide +kernel) (by decide +kernel) (by decide +kernel) rfl rfl rfl (fun j hj1 hj2 => by rcases (show j = 0 by omega) with rfl <;> exact (POp.move rfl rfl rfl)) ?_
          refine TD.popC 0 1 (by decide +kernel) (by decide +kernel) (by decide +kernel) rfl rfl rfl (fun j hj1 hj2 => by rcases (show j = 0 ∨ j = 1 by omega) with rfl | rfl <;> exact (POp.move rfl rfl rfl)) ?_
          refine TD.popC 0 0 (by decide +kernel) (by decide +kernel) (by decide +kernel) rfl rfl rfl (fun j hj1 hj2 => by rcases (show j = 0 by omega) with rfl <;> exact (POp.move rfl rfl rfl)) ?_
          refine TD.popC 0 0 (by decide +kernel) (by decide +kernel) (by decide +kernel) rfl rfl rfl (fun j hj1 hj2 => by rcases (show j = 0 by omega) with rfl <;> exact ((by first | exact POp.nilCheck rfl rfl rfl | exact POp.nilCheckP rfl rfl rfl | exact POp.nilCheckF rfl rfl rfl))) ?_
          refine TD.popC 0 0 (by decide +kernel) (by decide +kernel) (by decide +kernel) rfl rfl rfl (fun j hj1 hj2 => by rcases (show j = 0 by omega) with rfl <;> exact ((by first | exact POp.fa rfl rfl rfl rfl | exact POp.faP rfl rfl rfl rfl))) ?_
          refine TD.popC 0 0 (by decide +kernel) (by decide +kernel) (by decide +kernel) rfl rfl rfl (fun j hj1 hj2 => by rcases (show j = 0 by omega) with rfl <;> exact ((by first | exact POp.fa rfl rfl rfl rfl | exact POp.faP rfl rfl rfl rfl))) ?_
          refine TD.popC 0 0 (by decide +kernel) (by decide +kernel) (by decide +kernel) rfl rfl rfl (fun j hj1 hj2 => by rcases (show j = 0 by omega) with rfl <;> exact ((by first | exact POp.ld1 rfl rfl rfl rfl | (apply POp.ld1H rfl rfl rfl; (case hm => repeat (first | exact .head _ | refine .tail _ ?_)); (case hy => rfl))))) ?_
          refine TD.popC 0 0 (by decide +kernel) (by decide +kernel) (by decide +kernel) rfl rfl rfl (fun j hj1 hj2 => by rcases (show j = 0 by omega) with rfl <;> exact ((by first | exact POp.fa rfl rfl rfl rfl | exact POp.faP rfl rfl rfl rfl))) ?_
          refine TD.popC 0 0 (by decide +kernel) (by decide +kernel) (by decide +kernel) rfl rfl rfl (fun j hj1 hj2 => by rcases (show j = 0 by omega) with rfl <;> exact ((by first | exact POp.fa rfl rfl rfl rfl | exact POp.faP rfl rfl rfl rfl))) ?_
          refine TD.popC 0 0 (by decide +kernel) (by decide +kernel) (by decide +kernel) rfl rfl rfl (fun j hj1 hj2 => by rcases (show j = 0 by omega) with rfl <;> exact ((by first | exact POp.ld1 rfl rfl rfl rfl | (apply POp.ld1H rfl rfl rfl; (case hm => repeat (first | exact .head _ | refine .tail _ ?_)); (case hy => rfl))))) ?_
          refine TD.popC 0 0 (by decide +kernel) (by decide +kernel) (by decide +kernel) rfl rfl rfl (fun j hj1 hj2 => by rcases (show j = 0 by omega) with rfl <;> exact (POp.arith rfl rfl rfl rfl rfl rfl (wrap64 (by omega)))) ?_
          refine TD.popC 0 0 (by decide +kernel) (by decide +kernel) (by decide +kernel) rfl rfl rfl (fun j hj1 hj2 => by rcases (show j = 0 by omega) with rfl <;> exact (POp.min2 rfl rfl rfl rfl rfl rfl)) ?_
          refine TD.popC 0 0 (by decide +kernel) (by decide +kernel) (by decide +kernel) rfl rfl rfl (fun j hj1 hj2 => by rcases (show j = 0 by omega) with rfl <;> exact ((by first | exact POp.nilCheck rfl rfl rfl | exact POp.nilCheckP rfl rfl rfl | exact POp.nilCheckF rfl rfl rfl))) ?_
          refine TD.popC 0 0 (by decide +kernel) (by decide +kernel) (by decide +kernel) rfl rfl rfl (fun j hj1 hj2 => by rcases (show j = 0 by omega) with rfl <;> exact ((by first | exact POp.fa rfl rfl rfl rfl | exact POp.faP rfl rfl rfl rfl))) ?_
          refine TD.popC 0 0 (by decide +kernel) (by decide +kernel) (by decide +kernel) rfl rfl rfl (fun j hj1 hj2 => by rcases (show j = 0 by omega) with rfl <;> exact ((by first | exact POp.fa rfl rfl rfl rfl | exact POp.faP rfl rfl rfl rfl))) ?_
          refine TD.stoC 0 (by decide +kernel) (by decide +kernel) (by decide +kernel) rfl rfl (.store rfl rfl rfl rfl rfl rfl rfl rfl (by repeat (first | exact Upd.head _ _ _ | apply Upd.tail)) (by exact rfl) (by exact rfl)) ?_
          refine TD.nil ?_
          refine DP.tailC 16 (by decide +kernel) rfl ?_
          refine OL.popC rfl rfl rfl ((by first | exact POp.nilCheck rfl rfl rfl | exact POp.nilCheckP rfl rfl rfl | exact POp.nilCheckF rfl rfl rfl)) ?_
          refine OL.popC rfl rfl rfl ((by first | exact POp.fa rfl rfl rfl rfl | exact POp.faP rfl rfl rfl rfl)) ?_
          apply OL.stoC rfl rfl rfl rfl rfl rfl rfl rfl rfl rfl
          (case hu => repeat (first | exact Upd.head _ _ _ | apply Upd.tail)); (case hfit => rfl); (case hds => rfl)
          refine OL.nil ?_
          refine Done.blkNormal ?_
          refine Done.norR (rs := []) rfl (.nil) (AVleL.refl _) (by repeat (first | exact List.Sublist.refl _ | refine List.Sublist.cons _ ?_)) ?_
          exact ⟨vn, rfl, by rw [show askK k l = { k with high := if l.f.n - 1 < k.high then l.f.n - 1 else k.high, whole := true } by simp_all [askK]]; rfl⟩
        ·
          try simp only [decide_eq_true_eq, decide_eq_false_iff_not, beq_iff_eq, bne_iff_ne, ne_eq, Int.not_lt, Int.not_le, beq_eq_false_iff_ne, gt_iff_lt, ge_iff_le, Bool.not_eq_true, Bool.not_eq_false, Bool.not_eq_false', bne_eq_false_iff_eq] at h3
          refine CW.seq ?_
          refine CW.region ?_
          refine OL.popC rfl rfl rfl ((by first | exact POp.fa rfl rfl rfl rfl | exact POp.faP rfl rfl rfl rfl)) ?_
          refine OL.popC rfl rfl rfl ((by first | exact POp.ld1 rfl rfl rfl rfl | (apply POp.ld1H rfl rfl rfl; (case hm => repeat (first | exact .head _ | refine .tail _ ?_)); (case hy => rfl)))) ?_
          refine OL.popC rfl rfl rfl (POp.assign rfl rfl rfl) ?_
          refine OL.nil ?_
          refine Done.seq ?_
          refine CW.cond rfl (fun h4 => ?_) (fun h4 => ?_)
          ·
            try simp only [decide_eq_true_eq, decide_eq_false_iff_not, beq_iff_eq, bne_iff_ne, ne_eq, Int.not_lt, Int.not_le, beq_eq_false_iff_ne, gt_iff_lt, ge_iff_le, Bool.not_eq_true, Bool.not_eq_false, Bool.not_eq_false', bne_eq_false_iff_eq] at h4
            refine CW.dp mixed ?_
            refine DP.anyGC (fun v => .blk blk 209 (KBcells k vn vs) :: .row 3 1 v ((intEls k.nots).length + 1) ((intEls k.nots).flatten ++ [AV.i l.f.n]) :: Hx) 126 10 0 11 130 rfl (by decide +kernel) rfl rfl rfl (by decide +kernel) ?_
            refine TD.popG (by decide +kernel) rfl rfl rfl rfl (fun _ => POp.move rfl rfl rfl) ?_
            refine TD.popG0 (by decide +kernel) (by decide +kernel) rfl rfl rfl (POp.move rfl rfl rfl) ?_
            refine TD.popG0 (by decide +kernel) (by decide +kernel) rfl rfl rfl ((by first | exact POp.nilCheck rfl rfl rfl | exact POp.nilCheckP rfl rfl rfl | exact POp.nilCheckF rfl rfl rfl)) ?_
            refine TD.popG0 (by decide +kernel) (by decide +kernel) rfl rfl rfl ((by first | exact POp.fa rfl rfl rfl rfl | exact POp.faP rfl rfl rfl rfl)) ?_
            refine TD.popG0 (by decide +kernel) (by decide +kernel) rfl rfl rfl ((by first | exact POp.fa rfl rfl rfl rfl | exact POp.faP rfl rfl rfl rfl)) ?_
            refine TD.popG0 (by decide +kernel) (by decide +kernel) rfl rfl rfl ((by first | exact POp.ld1 rfl rfl rfl rfl | (apply POp.ld1H rfl rfl rfl; (case hm => repeat (first | exact .head _ | refine .tail _ ?_)); (case hy => rfl)))) ?_
            refine TD.popG0 (by decide +kernel) (by decide +kernel) rfl rfl rfl ((by first | exact POp.fa rfl rfl rfl rfl | exact POp.faP rfl rfl rfl rfl)) ?_
            refine TD.popG0 (by decide +kernel) (by decide +kernel) rfl rfl rfl ((by first | exact POp.fa rfl rfl rfl rfl | exact POp.faP rfl rfl rfl rfl)) ?_
            refine TD.popG0 (by decide +kernel) (by decide +kernel) rfl rfl rfl ((by first | exact POp.ld1 rfl rfl rfl rfl | (apply POp.ld1H rfl rfl rfl; (case hm => repeat (first | exact .head _ | refine .tail _ ?_)); (case hy => rfl)))) ?_
            refine TD.popG0 (by decide +kernel) (by decide +kernel) rfl rfl rfl (POp.row rfl rfl (by first | rfl | simp_all [strip]) rfl rfl rfl rfl rfl rfl) ?_
            refine TD.effG (by decide +kernel) (by decide +kernel) rfl rfl rfl (fun B I w r a hw hh ho => appendRow_runs (H' := fun v => .blk blk 209 (KBcells k vn vs) :: .row 3 1 v ((intEls k.nots).length + 1) ((intEls k.nots).flatten ++ [AV.i l.f.n]) :: Hx) (news := [[AV.i l.f.n]]) rfl rfl rfl rfl rfl (AVle.refl _) (by simp) rfl (fun v => .tail _ _ _ _ _ (.head _ _ _)) (by simp; omega) (by simp; omega) hw hh ho) ?_
            refine TD.nil (fun v126 => ?_)
            refine DP.tailC 11 (by decide +kernel) rfl ?_
            refine OL.popC rfl rfl rfl ((by first | exact POp.nilCheck rfl rfl rfl | exact POp.nilCheckP rfl rfl rfl | exact POp.nilCheckF rfl rfl rfl)) ?_
            refine OL.popC rfl rfl rfl ((by first | exact POp.fa rfl rfl rfl rfl | exact POp.faP rfl rfl rfl rfl)) ?_
            refine OL.popC rfl rfl rfl ((by first | exact POp.fa rfl rfl rfl rfl | exact POp.faP rfl rfl rfl rfl)) ?_
            refine OL.rowOne (v := v126) (.tail _ (.head _)) (fun hv126 => ?_)
            apply OL.stoC rfl rfl rfl rfl rfl rfl rfl (one_bOk hv126) (one_all hv126) rfl
            (case hu => repeat (first | exact Upd.head _ _ _ | apply Upd.tail)); (case hfit => rfl); (case hds => rfl)
            refine OL.nil ?_
            refine Done.blkNormal ?_
            refine Done.norR (rs := []) rfl (.nil) (AVleL.refl _) (by repeat (first | exact List.Sublist.refl _ | refine List.Sublist.cons _ ?_)) ?_
            exact ⟨_, rfl, by rw [show askK k l = { k with nots := k.nots ++ [l.f.n] } by simp_all [askK], rowE_snoc]; rfl⟩
          ·
            try simp only [decide_eq_true_eq, decide_eq_false_iff_not, beq_iff_eq, bne_iff_ne, ne_eq, Int.not_lt, Int.not_le, beq_eq_false_iff_ne, gt_iff_lt, ge_iff_le, Bool.not_eq_true, Bool.not_eq_false, Bool.not_eq_false', bne_eq_false_iff_eq] at h4
            refine CW.dp mixed ?_
            refine DP.anySC (fun j => match j with | 0 => (.blk blk 209 (KBcells k vn vs) :: rowE vn k.nots :: Hx) | 1 => (.blk blk 209 (KBcells { k with low := (if l.f.n > k.low then l.f.n else k.low) } vn vs) :: rowE vn k.nots :: Hx) | _ => (.blk blk 209 (KBcells { k with low := (if l.f.n > k.low then l.f.n else k.low), high := (if l.f.n < k.high then l.f.n else k.high) } vn vs) :: rowE vn k.nots :: Hx)) [24, 28] 0 29 130 rfl (by decide +kernel) rfl rfl rfl (by decide +kernel) rfl ?_
            refine TD.popC 0 0 (by decide +kernel) (by decide +kernel) (by decide +kernel) rfl rfl rfl (fun j hj1 hj2 => by rcases (show j = 0 by omega) with rfl <;> exact (POp.move rfl rfl rfl)) ?_
            refine TD.popC 0 1 (by decide +kernel) (by decide +kernel) (by decide +kernel) rfl rfl rfl (fun j hj1 hj2 => by rcases (show j = 0 ∨ j = 1 by omega) with rfl | rfl <;> exact (POp.move rfl rfl rfl)) ?_
            refine TD.popC 0 2 (by decide +kernel) (by decide +kernel) (by decide +kernel) rfl rfl rfl (fun j hj1 hj2 => by rcases (show j = 0 ∨ j = 1 ∨ j = 2 by omega) with rfl | rfl | rfl <;> exact (POp.move rfl rfl rfl)) ?_
            refine TD.popC 0 0 (by decide +kernel) (by decide +kernel) (by decide +kernel) rfl rfl rfl (fun j hj1 hj2 => by rcases (show j = 0 by omega) with rfl <;> exact (POp.move rfl rfl rfl)) ?_
            refine TD.popC 0 0 (by decide +kernel) (by decide +kernel) (by decide +kernel) rfl rfl rfl (fun j hj1 hj2 => by rcases (show j = 0 by omega) with rfl <;> exact ((by first | exact POp.nilCheck rfl rfl rfl | exact POp.nilCheckP rfl rfl rfl | exact POp.nilCheckF rfl rfl rfl))) ?_
            refine TD.popC 0 0 (by decide +kernel) (by decide +kernel) (by decide +kernel) rfl rfl rfl (fun j hj1 hj2 => by rcases (show j = 0 by omega) with rfl <;> exact ((by first | exact POp.fa rfl rfl rfl rfl | exact POp.faP rfl rfl rfl rfl))) ?_
            refine TD.popC 0 0 (by decide +kernel) (by decide +kernel) (by decide +kernel) rfl rfl rfl (fun j hj1 hj2 => by rcases (show j = 0 by omega) with rfl <;> exact ((by first | exact POp.fa rfl rfl rfl rfl | exact POp.faP rfl rfl rfl rfl))) ?_
            refine TD.popC 0 0 (by decide +kernel) (by decide +kernel) (by decide +kernel) rfl rfl rfl (fun j hj1 hj2 => by rcases (show j = 0 by omega) with rfl <;> exact ((by first | exact POp.ld1 rfl rfl rfl rfl | (apply POp.ld1H rfl rfl rfl; (case hm => repeat (first | exact .head _ | refine .tail _ ?_)); (case hy => rfl))))) ?_
            refine TD.popC 0 0 (by decide +kernel) (by decide +kernel) (by decide +kernel) rfl rfl rfl (fun j hj1 hj2 => by rcases (show j = 0 by omega) with rfl <;> exact ((by first | exact POp.fa rfl rfl rfl rfl | exact POp.faP rfl rfl rfl rfl))) ?_
            refine TD.popC 0 0 (by decide +kernel) (by decide +kernel) (by decide +kernel) rfl rfl rfl (fun j hj1 hj2 => by rcases (show j = 0 by omega) with rfl <;> exact ((by first | exact POp.fa rfl rfl rfl rfl | exact POp.faP rfl rfl rfl rfl))) ?_
            refine TD.popC 0 0 (by decide +kernel) (by decide +kernel) (by decide +kernel) rfl rfl rfl (fun j hj1 hj2 => by rcases (show j = 0 by omega) with rfl <;> exact ((by first | exact POp.ld1 rfl rfl rfl rfl | (apply POp.ld1H rfl rfl rfl; (case hm => repeat (first | exact .head _ | refine .tail _ ?_)); (case hy => rfl))))) ?_
            refine TD.popC 0 0 (by decide +kernel) (by decide +kernel) (by decide +kernel) rfl rfl rfl (fun j hj1 hj2 => by rcases (show j = 0 by omega) with rfl <;> exact (POp.max2 rfl rfl rfl rfl rfl rfl)) ?_
            refine TD.popC 0 0 (by decide +kernel) (by decide +kernel) (by decide +kernel) rfl rfl rfl (fun j hj1 hj2 => by rcases (show j = 0 by omega) with rfl <;> exact (POp.move rfl rfl rfl)) ?_
            refine TD.popC 0 0 (by decide +kernel) (by decide +kernel) (by decide +kernel) rfl rfl rfl (fun j hj1 hj2 => by rcases (show j = 0 by omega) with rfl <;> exact ((by first | exact POp.nilCheck rfl rfl rfl | exact POp.nilCheckP rfl rfl rfl | exact POp.nilCheckF rfl rfl rfl))) ?_
            refine TD.popC 0 0 (by decide +kernel) (by decide +kernel) (by decide +kernel) rfl rfl rfl (fun j hj1 hj2 => by rcases (show j = 0 by omega) with rfl <;> exact ((by first | exact POp.fa rfl rfl rfl rfl | exact POp.faP rfl rfl rfl rfl))) ?_
            refine TD.popC 0 0 (by decide +kernel) (by decide +kernel) (by decide +kernel) rfl rfl rfl (fun j hj1 hj2 => by rcases (show j = 0 by omega) with rfl <;> exact ((by first | exact POp.fa rfl rfl rfl rfl | exact POp.faP rfl rfl rfl rfl))) ?_
            refine TD.popC 0 0 (by decide +kernel) (by decide +kernel) (by decide +kernel) rfl rfl rfl (fun j hj1 hj2 => by rcases (show j = 0 by omega) with rfl <;> exact ((by first | exact POp.ld1 rfl rfl rfl rfl | (apply POp.ld1H rfl rfl rfl; (case hm => repeat (first | exact .head _ | refine .tail _ ?_)); (case hy => rfl))))) ?_
            refine TD.popC 0 1 (by decide +kernel) (by decide +kernel) (by decide +kernel) rfl rfl rfl (fun j hj1 hj2 => by rcases (show j = 0 ∨ j = 1 by omega) with rfl | rfl <;> exact ((by first | exact POp.fa rfl rfl rfl rfl | exact POp.faP rfl rfl rfl rfl))) ?_
            refine TD.popC 0 1 (by decide +kernel) (by decide +kernel) (by decide +kernel) rfl rfl rfl (fun j hj1 hj2 => by rcases (show j = 0 ∨ j = 1 by omega) with rfl | rfl <;> exact ((by first | exact POp.fa rfl rfl rfl rfl | exact POp.faP rfl rfl rfl rfl))) ?_
            refine TD.popC 0 1 (by decide +kernel) (by decide +kernel) (by decide +kernel) rfl rfl rfl (fun j hj1 hj2 => by rcases (show j = 0 ∨ j = 1 by omega) with rfl | rfl <;> exact ((by first | exact POp.ld1 rfl rfl rfl rfl | (apply POp.ld1H rfl rfl rfl; (case hm => repeat (first | exact .head _ | refine .tail _ ?_)); (case hy => rfl))))) ?_
            refine TD.popC 0 1 (by decide +kernel) (by decide +kernel) (by decide +kernel) rfl rfl rfl (fun j hj1 hj2 => by rcases (show j = 0 ∨ j = 1 by omega) with rfl | rfl <;> exact (POp.min2 rfl rfl rfl rfl rfl rfl)) ?_
            refine TD.popC 0 0 (by decide +kernel) (by decide +kernel) (by decide +kernel) rfl rfl rfl (fun j hj1 hj2 => by rcases (show j = 0 by omega) with rfl <;> exact ((by first | exact POp.nilCheck rfl rfl rfl | exact POp.nilCheckP rfl rfl rfl | exact POp.nilCheckF rfl rfl rfl))) ?_
            refine TD.popC 0 0 (by decide +kernel) (by decide +kernel) (by decide +kernel) rfl rfl rfl (fun j hj1 hj2 => by rcases (show j = 0 by omega) with rfl <;> exact ((by first | exact POp.fa rfl rfl rfl rfl | exact POp.faP rfl rfl rfl rfl))) ?_
            refine TD.popC 0 0 (by decide +kernel) (by decide +kernel) (by decide +kernel) rfl rfl rfl (fun j hj1 hj2 => by rcases (show j = 0 by omega) with rfl <;> exact ((by first | exact POp.fa rfl rfl rfl rfl | exact POp.faP rfl rfl rfl rfl))) ?_
            refine TD.stoC 0 (by decide +kernel) (by decide +kernel) (by decide +kernel) rfl rfl (.store rfl rfl rfl rfl rfl rfl rfl rfl (by repeat (first | exact Upd.head _ _ _ | apply Upd.tail)) (by exact rfl) (by exact rfl)) ?_
            refine TD.popC 1 1 (by decide +kernel) (by decide +kernel) (by decide +kernel) rfl rfl rfl (fun j hj1 hj2 => by rcases (show j = 1 by omega) with rfl <;> exact ((by first | exact POp.nilCheck rfl rfl rfl | exact POp.nilCheckP rfl rfl rfl | exact POp.nilCheckF rfl rfl rfl))) ?_
            refine TD.popC 1 1 (by decide +kernel) (by decide +kernel) (by decide +kernel) rfl rfl rfl (fun j hj1 hj2 => by rcases (show j = 1 by omega) with rfl <;> exact ((by first | exact POp.fa rfl rfl rfl rfl | exact POp.faP rfl rfl rfl rfl))) ?_
            refine TD.popC 1 1 (by decide +kernel) (by decide +kernel) (by decide +kernel) rfl rfl rfl (fun j hj1 hj2 => by rcases (show j = 1 by omega) with rfl <;> exact ((by first | exact POp.fa rfl rfl rfl rfl | exact POp.faP rfl rfl rfl rfl))) ?_
            refine TD.stoC 1 (by decide +kernel) (by decide +kernel) (by decide +kernel) rfl rfl (.store rfl rfl rfl rfl rfl rfl rfl rfl (by repeat (first | exact Upd.head _ _ _ | apply Upd.tail)) (by exact rfl) (by exact rfl)) ?_
            refine TD.nil ?_
            refine DP.tailC 29 (by decide +kernel) rfl ?_
            refine OL.popC rfl rfl rfl ((by first | exact POp.nilCheck rfl rfl rfl | exact POp.nilCheckP rfl rfl rfl | exact POp.nilCheckF rfl rfl rfl)) ?_
            refine OL.popC rfl rfl rfl ((by first | exact POp.fa rfl rfl rfl rfl | exact POp.faP rfl rfl rfl rfl)) ?_
            apply OL.stoC rfl rfl rfl rfl rfl rfl rfl rfl rfl rfl
            (case hu => repeat (first | exact Upd.head _ _ _ | apply Upd.tail)); (case hfit => rfl); (case hds => rfl)
            refine OL.nil ?_
            refine Done.blkNormal ?_
            refine Done.norR (rs := []) rfl (.nil) (AVleL.refl _) (by repeat (first | exact List.Sublist.refl _ | refine List.Sublist.cons _ ?_)) ?_
            exact ⟨vn, rfl, by rw [show askK k l = { k with low := if l.f.n > k.low then l.f.n else k.low, high := if l.f.n < k.high then l.f.n else k.high, whole := true } by simp_all [askK]]; rfl⟩
end Go.Proofs.YtiljpbljebfhnaaGreat

set_option linter.unusedVariables false
set_option linter.unusedSimpArgs false
set_option maxRecDepth 10000
namespace Go.Proofs.YtiljpbljebfhnaaGreat
open Go.Eng
open Go.Eng.Fc Go.Shelf Go.Sort
def ren189 : Ren := { f := fun x => match x with | 189 => 60 | 125 => 114 | 257 => 113 | 128 => 163 | 129 => 164 | 294 => 154 | 295 => 155 | 296 => 156 | 297 => 157 | 298 => 158 | 299 => 159 | 216 => 160 | 300 => 161 | 301 => 162 | 328 => 195 | 329 => 196 | 330 => 197 | 331 => 198 | 332 => 199 | 215 => 200 | 343 => 219 | n => n, t := fun x => match x with | 28 => 23 | 3 => 3 | 46 => 148 | 0 => 0 | 51 => 195 | 53 => 134 | 4 => 4 | 183 => 187 | 182 => 186 | 131 => 192 | 5 => 5 | 9 => 9 | 218 => 227 | 222 => 219 | 228 => 242 | 229 => 243 | n => n, g := fun x => x }
theorem lays189 : Lays.n189 Tryz.prog ren189 where
  mixed := by kernel_rfl
  f125 := Tryz.func114.trans (congrArg some (by kernel_rfl))
  f128 := Tryz.func163.trans (congrArg some (by kernel_rfl))
  f129 := Tryz.func164.trans (congrArg some (by kernel_rfl))
  f189 := Tryz.func60.trans (congrArg some (by kernel_rfl))
  f215 := Tryz.func200.trans (congrArg some (by kernel_rfl))
  f216 := Tryz.func160.trans (congrArg some (by kernel_rfl))
  f257 := Tryz.func113.trans (congrArg some (by kernel_rfl))
  f294 := Tryz.func154.trans (congrArg some (by kernel_rfl))
  f295 := Tryz.func155.trans (congrArg some (by kernel_rfl))
  f296 := Tryz.func156.trans (congrArg some (by kernel_rfl))
  f297 := Tryz.func157.trans (congrArg some (by kernel_rfl))
  f298 := Tryz.func158.trans (congrArg some (by kernel_rfl))
  f299 := Tryz.func159.trans (congrArg some (by kernel_rfl))
  f300 := Tryz.func161.trans (congrArg some (by kernel_rfl))
  f301 := Tryz.func162.trans (congrArg some (by kernel_rfl))
  f328 := Tryz.func195.trans (congrArg some (by kernel_rfl))
  f329 := Tryz.func196.trans (congrArg some (by kernel_rfl))
  f330 := Tryz.func197.trans (congrArg some (by kernel_rfl))
  f331 := Tryz.func198.trans (congrArg some (by kernel_rfl))
  f332 := Tryz.func199.trans (congrArg some (by kernel_rfl))
  f343 := Tryz.func219.trans (congrArg some (by kernel_rfl))
  t0 := Tryz.underlying0
  a0 := Tryz.isAgg0
  z0 := Tryz.sizeOf0
  v0 := Tryz.zeroValue0
  t3 := Tryz.underlying3
  a3 := Tryz.isAgg3
  z3 := Tryz.sizeOf3
  v3 := Tryz.zeroValue3
  t4 := Tryz.underlying4
  a4 := Tryz.isAgg4
  z4 := Tryz.sizeOf4
  v4 := Tryz.zeroValue4
  t5 := Tryz.underlying5
  a5 := Tryz.isAgg5
  z5 := Tryz.sizeOf5
  v5 := Tryz.zeroValue5
  t9 := Tryz.underlying9
  a9 := Tryz.isAgg9
  z9 := Tryz.sizeOf9
  v9 := Tryz.zeroValue9
  t28 := Tryz.underlying23
  a28 := Tryz.isAgg23
  z28 := Tryz.sizeOf23
  v28 := Tryz.zeroValue23
  t46 := Tryz.underlying148
  a46 := Tryz.isAgg148
  z46 := Tryz.sizeOf148
  v46 := Tryz.zeroValue148
  t51 := Tryz.underlying195
  a51 := Tryz.isAgg195
  z51 := Tryz.sizeOf195
  v51 := Tryz.zeroValue195
  t53 := Tryz.underlying134
  a53 := Tryz.isAgg134
  z53 := Tryz.sizeOf134
  v53 := Tryz.zeroValue134
  t131 := Tryz.underlying192
  a131 := Tryz.isAgg192
  z131 := Tryz.sizeOf192
  v131 := Tryz.zeroValue192
  t182 := Tryz.underlying186
  a182 := Tryz.isAgg186
  z182 := Tryz.sizeOf186
  v182 := Tryz.zeroValue186
  t183 := Tryz.underlying187
  a183 := Tryz.isAgg187
  z183 := Tryz.sizeOf187
  v183 := Tryz.zeroValue187
  t218 := Tryz.underlying227
  a218 := Tryz.isAgg227
  z218 := Tryz.sizeOf227
  v218 := Tryz.zeroValue227
  t222 := Tryz.underlying219
  a222 := Tryz.isAgg219
  z222 := Tryz.sizeOf219
  v222 := Tryz.zeroValue219
  t228 := Tryz.underlying242
  a228 := Tryz.isAgg242
  z228 := Tryz.sizeOf242
  v228 := Tryz.zeroValue242
  t229 := Tryz.underlying243
  a229 := Tryz.isAgg243
  z229 := Tryz.sizeOf243
  v229 := Tryz.zeroValue243
def sortI (l : List Int) : List Int := l.mergeSort fun x y => decide (x ≤ y)
theorem intEls_flat (l : List Int) : (intEls l).flatten = (l.map (Value.int .i64)).map .val := by
  induction l with
  | nil => rfl
  | cons x r ih => simp only [intEls, List.map_cons, List.flatten_cons] at ih ⊢; rw [ih]; rfl
theorem p60 (B : Nat) (v : Value) (l : List Int) (hl : l.length ≤ 1000) (Hx : List Ent) : BCall B Tryz.prog 60 [.val v] (rowE v l :: Hx) (fun y H' => y = .tup [] ∧ H' = rowE v (sortI l) :: Hx) (fun _ => False) := by
  refine ⟨by kernel_rfl, fun I w vs hw hh hv => ?_⟩
  obtain ⟨u, rfl⟩ : ∃ u, vs = [u] := by cases hv with | cons _ u _ _ _ ht => cases ht; exact ⟨u, rfl⟩
  have hu : u = v := by cases hv with | cons _ u _ _ hx _ => exact rel_val hx
  subst hu
  obtain ⟨xs, hrow, hrx, hni⟩ := hh.ok _ (.head _)
  have hxs : xs = l.map (Value.int .i64) := by
    rw [intEls_flat] at hrx
    exact rel_vals hrx
  subst hxs
  rcases hrow.2 with ⟨rfl, hn⟩ | ⟨g, cap, cur, rfl, hBg, hg, hnc, hcm, hcs, htk⟩
  · have : l = [] := by cases l with | nil => rfl | cons x r => simp [intEls] at hn
    subst this
    refine (Any.slices_Sort_int_none lays189 none 0 w).mono fun e w' ⟨he, hw'⟩ => ?_
    subst hw'
    exact ⟨I, _, hw, Ext.refl _ _ _, hh, .inl ⟨_, _, he, .tup _ _ .nil, rfl, by simp [sortI]⟩⟩
  · have hlen : (intEls l).length = l.length := by simp [intEls]
    rw [hlen] at hnc htk
    rw [Nat.mul_one] at htk
    have hlen2 : (sortI l).length = l.length := List.length_mergeSort _
    refine ((hlen ▸ Any.slices_Sort_int lays189 g 0 cap l w (holds_of_blockI hg htk) (Array.getElem?_eq_some_iff.1 hg).1 (by omega) : Calls Tryz.prog 60 #[.slice (some ⟨g, 0, none⟩) (intEls l).length cap] w _)).mono fun e w' ⟨he, n, os, hw'⟩ => ?_
    have e3 : w.grownBy w' (some g) := by subst hw'; exact grownBy_sortedI _
    have e2 : w'.ownsRow B 3 1 (.slice (some ⟨g, 0, none⟩) l.length cap) l.length ((sortI l).map (Value.int .i64)) := by
      subst hw'; exact ownsRow_sortedI (ss := l) hlen2 hBg hg hnc hcm hcs
    have hbel : Go.RowKit.Below B w w' := (Go.RowKit.Below.refl B w).grown e3 hw.base (fun j hj => by cases hj; exact hBg)
    have hcell : ∀ b i, I b i → w'.cell? ⟨b, i, none⟩ = w.cell? ⟨b, i, none⟩ := fun b i hI =>
      World.cell?_of_block (a := ⟨b, i, none⟩) (e3.block b (hw.lt hI) (fun e => by cases e; exact hni _ rfl i hI))
    have hkk : Keeps I w I w' := ⟨fun _ _ x => x, hcell⟩
    refine ⟨I, rowE (.slice (some ⟨g, 0, none⟩) (intEls l).length cap) (sortI l) :: Hx, ⟨Nat.le_trans hw.base hbel.size, fun b o hI => by rw [hcell b o hI]; exact hw.there b o hI⟩, ⟨hkk.imm, hkk.cell, hbel⟩, ?_, .inl ⟨_, _, he, .tup _ _ .nil, rfl, rfl⟩⟩
    refine hh.upd (.head _ _ _) hkk (fun b hlt hne => e3.block b hlt (fun e => hne (by cases e; rfl))) (fun b o hx => .inl hx) ⟨(sortI l).map (Value.int .i64), ?_, ?_, hni⟩ (fun b hb => .inl hb)
    · rw [hlen, show (intEls (sortI l)).length = l.length by simp [intEls, hlen2]]; exact e2
    · rw [intEls_flat]; exact relL_val _
end Go.Proofs.YtiljpbljebfhnaaGreat
