/- Part 12 of the proof: contracts of functions of the program and what they need. No condition beyond those that each theorem names. -/
import Derived.Test.YtiljpbljebfhnaaGreatCaP11
set_option linter.unusedVariables false
set_option linter.unusedSimpArgs false
set_option maxRecDepth 10000
namespace Go.Proofs.YtiljpbljebfhnaaGreat
open Go.Eng
open Go.Eng.Fc
theorem case_ls {W : FW} (hW : worldP W = true) {f : Fact} (hw : wfB W f = true) {b : Bool} {c : List FLit} (hc : c ∈ casesP f b) : LsOk W c :=
  ⟨hW, fun l hl => let ⟨x, y⟩ := wf_lits f hw b c hc l hl; lit_ok hW x y, fun l hl h2 => by
    obtain ⟨h3, h4⟩ := wf_lits f hw b c hc l hl
    simp only [nodeOkB, Bool.and_eq_true] at h3
    have h5 := h3.2
    rw [if_pos h4] at h5
    simp only [Bool.and_eq_true, leafOkP, if_pos h2, classP, decide_eq_true_eq] at h5
    exact h5.2.2.2⟩
theorem LsOk.rlit {W : FW} {ls : List FLit} (h : LsOk W ls) : ∀ x ∈ factL ls, RLit W x := fun x hx => by
  obtain ⟨l, hl, rfl⟩ := List.mem_map.1 hx
  have hs := h.sp hl
  have ho := h.ok l hl
  refine ⟨fun h5 => ?_, ?_, ?_, ?_, ?_⟩
  · unfold litF at h5 ⊢
    split
    · simp [notF, Fact.kids]
    · rename_i hn
      rw [if_neg hn] at h5
      have := ho.op; omega
  · rw [hs]; exact ho.op
  · rw [hs]; exact fun h2 => ⟨(ho.cls h2).1, h.cls l hl h2⟩
  · rw [hs]; exact ho.n
  · rw [hs]; exact ho.path
theorem all_ls {W : FW} (hW : worldP W = true) {f : Fact} (hw : wfB W f = true) {b : Bool} {x : List Fact} (hx : x ∈ allR f b) : ∃ c ∈ casesP f b, x = factL c ∧ LsOk W c ∧ togetherR W x = together2 W c := by
  obtain ⟨c, hc, rfl⟩ := List.mem_map.1 hx
  exact ⟨c, hc, rfl, case_ls hW hw hc, together_stage (case_ls hW hw hc)⟩
theorem p93' {W : FW} (hW : worldP W = true) {f : Fact} (hw : wfB W f = true) (hn : nodesN f ≤ 52) {b : Bool} {x : List Fact} (hx : x ∈ allR f b) : PCall Tryz.prog 93 [AV.world W, AV.facts x] (.b (togetherR W x)) := by
  obtain ⟨c, hc, rfl, hl, _⟩ := all_ls hW hw hx
  exact p93 W _ hl.rlit (by have := all_len1 (wf_ok f hw) b hx; omega) hW
theorem can_all {W : FW} (hW : worldP W = true) {f : Fact} (hw : wfB W f = true) : (allR f false).any (togetherR W) = canC W f := by
  rw [allR, List.any_map, canC]
  exact any_congr_mem fun c hc => together_stage (case_ls hW hw hc)
theorem cases_all {W : FW} (hW : worldP W = true) {f : Fact} (hw : wfB W f = true) : (allR f false).filter (togetherR W) = casesC W (casesP f false) := by
  rw [allR, casesC, List.filter_map]
  congr 1
  exact List.filter_congr fun c hc => together_stage (case_ls hW hw hc)
theorem p62 {W : FW} (hW : worldP W = true) {f : Fact} (hw : wfB W f = true) (hn : nodesN f ≤ 52) : PCall Tryz.prog 62 [AV.world W, AV.fact f] (.b (canC W f)) := by
  intro H
  refine ACall.mk' (n := 18) Tryz.func62 rfl (by kernel_rfl) rfl rfl (fun B I w0 => ?_)
  rw [← can_all hW hw]
  have hlen : (allR f false).length ≤ 1073741824 := Nat.le_trans (all_len (wf_ok f hw) false) (Nat.le_trans (Nat.pow_le_pow_right (by omega) (show (nodesN f + 1) / 2 ≤ 30 by omega)) (by decide))
  refine S2 ?_; refine Obx ?_; refine Obx ?_; refine Oas ?_; refine S5 ?_; refine Ola ?_
  refine OL.popC rfl rfl rfl (POp.call (.mk' rfl rfl rfl rfl rfl) (OCall.pcall (p92 f hw hn false))) ?_
  refine Oln ?_; refine Omv ?_; refine S3 ?_
  refine lj (fun m st => ∃ i : Nat, st = ⟨[(10, .i i), (9, .i (allR f false).length), (8, AV.factss (allR f false)), (2, .ptr (Wcells W))], H⟩ ∧ m = (allR f false).length - i ∧ i ≤ (allR f false).length ∧ ((allR f false).take i).any (togetherR W) = false) (⟨0, rfl, rfl, by omega, rfl⟩) ?_
  rintro m _ ⟨i, rfl, rfl, hi, hall⟩
  refine S2 ?_; refine Ocm ?_; refine S3 ?_
  refine CW.cond rfl (fun h0 => ?_) (fun h0 => ?_)
  ·
    replace h0 := nm h0
    have hxm := getD_mem (l := (allR f false)) (k := i) (by omega)
    refine S6 ?_; refine Oix ?_; refine Old ?_; refine Oas ?_; refine S4 ?_; refine Ola ?_; refine Omv ?_
    refine OL.popC rfl rfl rfl (POp.call (.mk' rfl rfl rfl rfl rfl) (p93' hW hw hn hxm)) ?_
    refine S2 ?_
    refine CW.cond rfl (fun h1 => ?_) (fun h1 => ?_)
    ·
      refine S2 ?_; refine Oas ?_; refine S8 ?_
      refine r1 4 (H) ?_
      exact ⟨retB (any_yes (i := i) (by omega) h1).symm, rfl⟩
    ·
      refine S4 ?_; refine Oar ?_; refine Omv ?_; refine S1 ?_
      exact ag (⟨i + 1, rfl, rfl, by omega, by rw [any_take (by omega), hall, h1]; rfl⟩)
  ·
    replace h0 := nm h0
    obtain rfl : i = (allR f false).length := by omega
    rw [List.take_length] at hall
    refine S7 ?_; refine Oas ?_; refine S3 ?_
    refine r1 4 (H) ?_
    exact ⟨retB hall.symm, rfl⟩
theorem p22 {W : FW} (hW : worldP W = true) {f : Fact} (hw : wfB W f = true) (hn : nodesN f ≤ 52) : PCall Tryz.prog 22 [AV.world W, AV.fact f] (AV.factss (casesC W (casesP f false))) := by
  intro H
  refine ACall.mk' (n := 24) Tryz.func22 rfl (by kernel_rfl) rfl rfl (fun B I w0 => ?_)
  rw [← cases_all hW hw]
  have hlen : (allR f false).length ≤ 1073741824 := Nat.le_trans (all_len (wf_ok f hw) false) (Nat.le_trans (Nat.pow_le_pow_right (by omega) (show (nodesN f + 1) / 2 ≤ 30 by omega)) (by decide))
  refine S2 ?_; refine Obx ?_; refine Obx ?_; refine Oas ?_; refine S4 ?_; refine Oas ?_; refine S4 ?_
  refine CW.ownNil 5 27 1 rfl ?_
  refine S1 ?_; refine Ola ?_
  refine OL.popC rfl rfl rfl (POp.call (.mk' rfl rfl rfl rfl rfl) (OCall.pcall (p92 f hw hn false))) ?_
  refine Oln ?_; refine Omv ?_; refine S3 ?_
  refine lj (fun m st => ∃ (i : Nat) (v : Value), st = ⟨[(11, .i i), (10, .i (allR f false).length), (9, AV.factss (allR f false)), (5, .as (AV.factss (((allR f false).take i).filter (togetherR W))) v), (2, .ptr (Wcells W))], .own 27 1 v :: H⟩ ∧ m = (allR f false).length - i ∧ i ≤ (allR f false).length) (⟨0, _, rfl, rfl, by omega⟩) ?_
  rintro m _ ⟨i, v, rfl, rfl, hi⟩
  refine S2 ?_; refine Ocm ?_; refine S3 ?_
  refine CW.cond rfl (fun h0 => ?_) (fun h0 => ?_)
  ·
    replace h0 := nm h0
    have hxm := getD_mem (l := (allR f false)) (k := i) (by omega)
    have hfl : (((allR f false).take i).filter (togetherR W)).length ≤ 1073741824 := Nat.le_trans (List.length_filter_le _ _) (by rw [List.length_take]; omega)
    refine S6 ?_; refine Oix ?_; refine Old ?_; refine Oas ?_; refine S4 ?_; refine Ola ?_; refine Omv ?_
    refine OL.popC rfl rfl rfl (POp.call (.mk' rfl rfl rfl rfl rfl) (p93' hW hw hn hxm)) ?_
    refine S2 ?_
    refine CW.cond rfl (fun h1 => ?_) (fun h1 => ?_)
    ·
      have e : ((allR f false).take (i + 1)).filter (togetherR W) = (((allR f false).take i).filter (togetherR W)) ++ [((allR f false).getD i default)] := by rw [filter_take (by omega), if_pos h1]
      refine S1 ?_; refine Omv ?_; refine Omv ?_
      refine OL.popC rfl rfl rfl (POp.row rfl rfl (by first | rfl | simp_all [strip]) rfl rfl rfl rfl rfl rfl) ?_
      refine OL.appendC rfl rfl rfl rfl rfl rfl rfl rfl (AVle.refl _) (rfl) (fun v => by repeat (first | exact Upd.head _ _ _ | apply Upd.tail)) (by simp only [partsOf, List.zip, List.zipWith, List.map, List.length_map, List.length_cons, List.length_nil]; omega) (by simp only [partsOf, List.zip, List.zipWith, List.map, List.length_map, List.length_cons, List.length_nil]; omega) (fun v21 => ?_)
      refine Oas ?_; refine S3 ?_
      refine CW.le 5 (y := .as (AV.factss (((allR f false).take (i + 1)).filter (togetherR W))) v21) rfl (by rw [e, ← factss_app]; exact AVle.refl _) ?_
      refine S1 ?_; refine Oar ?_; refine Omv ?_; refine S1 ?_
      exact ag (⟨i + 1, v21, rfl, rfl, by omega⟩)
    ·
      have e : ((allR f false).take (i + 1)).filter (togetherR W) = (((allR f false).take i).filter (togetherR W)) := by rw [filter_take (by omega), if_neg (by rw [h1]; simp), List.append_nil]
      refine S3 ?_
      rw [← e]
      refine S1 ?_; refine Oar ?_; refine Omv ?_; refine S1 ?_
      exact ag (⟨i + 1, v, rfl, rfl, by omega⟩)
  ·
    replace h0 := nm h0
    obtain rfl : i = (allR f false).length := by omega
    rw [List.take_length]
    refine S7 ?_; refine Omv ?_; refine Oas ?_; refine S3 ?_
    refine Done.retR (rs := [.tmp 4]) (H' := H) rfl (.tmp rfl (.nil)) (.cons (AVle.asL _ _) .nil) (by repeat (first | exact List.Sublist.refl _ | refine List.Sublist.cons _ ?_)) ?_
    exact ⟨by rfl, rfl⟩
end Go.Proofs.YtiljpbljebfhnaaGreat

set_option linter.unusedVariables false
set_option linter.unusedSimpArgs false
set_option maxRecDepth 10000
namespace Go.Proofs.YtiljpbljebfhnaaGreat
open Go.Eng
open Go.Eng.Fc
theorem good_f1 {W : FW} {f : Fact} (h : goodP W [f] = true) : worldP W = true ∧ formedP W f = true ∧ wfB W f = true ∧ nodesN f ≤ 24 := by
  rw [good1, Bool.and_eq_true] at h
  exact ⟨h.1, h.2, formed_wf h.2⟩
theorem p17c {W : FW} {f : Fact} (h : goodP W [f] = true) : PCall Tryz.prog 17 [AV.world W, AV.fact f] (.tup [AV.factss (casesC W (casesP f false)), .i 0]) := by
  have h1 := good_f1 h
  have := p17g h
  rwa [cases_eq (W := W) ((good_of h1.1 h1.2.2.1 (by omega)).case false)] at this
theorem p18c {W : FW} {f : Fact} (h : goodP W [f] = true) : PCall Tryz.prog 18 [AV.world W, AV.fact f] (.tup [.b (canC W f), .i 0]) := by
  have h1 := good_f1 h
  have := p18g h
  rwa [can_eq (good_of h1.1 h1.2.2.1 (by omega))] at this
theorem can_len (W : FW) (f : Fact) : canC W f = decide (((casesC W (casesP f false)).length : Int) > 0) := by
  rw [canC, casesC, List.length_map, Bool.eq_iff_iff, decide_eq_true_iff, List.any_eq_true]
  constructor
  · rintro ⟨x, hx, hh⟩
    have := List.length_pos_of_mem (List.mem_filter.2 ⟨hx, hh⟩)
    omega
  · intro h
    have h : 0 < ((casesP f false).filter (together2 W)).length := by omega
    obtain ⟨x, hx⟩ := List.exists_mem_of_length_pos h
    exact ⟨x, (List.mem_filter.1 hx).1, (List.mem_filter.1 hx).2⟩
theorem bad1 {W : FW} {f : Fact} (h : goodP W [f] = false) : (bif !worldP W then true else !formedP W f) = true := by
  rw [bif_or]; rw [good1] at h
  cases hw : worldP W <;> simp_all
theorem ok1 {W : FW} {f : Fact} (h : goodP W [f] = true) : (bif !worldP W then true else !formedP W f) = false := by
  rw [bif_or]; rw [good1] at h
  cases hw : worldP W <;> simp_all
theorem p3g (g : Gv) (h : goodP g.W [g.A] = true) : PCall Tryz.prog 3 [AV.given g] (.b true) := by
  intro H
  refine ACall.mk' (n := 80) Tryz.func3 rfl (by kernel_rfl) rfl rfl (fun B I w0 => ?_)
  have h1 := good_f1 h
  refine S2 ?_; refine Obx ?_; refine Oas ?_; refine S4 ?_; refine Ofa ?_; refine Ola ?_; refine Ofa ?_; refine Ola ?_
  refine OL.popC rfl rfl rfl (POp.call (.mk' rfl rfl rfl rfl rfl) (p17c h)) ?_
  refine Omv ?_; refine Oex ?_; refine Oex ?_; refine Oas ?_; refine Oas ?_; refine S4 ?_; refine Ofa ?_; refine Ola ?_; refine Ofa ?_; refine Ola ?_
  refine OL.popC rfl rfl rfl (POp.call (.mk' rfl rfl rfl rfl rfl) (p18c h)) ?_
  refine Omv ?_; refine Oex ?_; refine Oex ?_; refine Oas ?_; refine Oas ?_; refine S5 ?_; refine Ofa ?_; refine Ola ?_
  refine OL.popC rfl rfl rfl (POp.call (.mk' rfl rfl rfl rfl rfl) (p19 g.W)) ?_
  refine Ont ?_; refine Omv ?_; refine Pfa ?_; refine Pla ?_; refine Pfa ?_; refine Pla ?_
  refine OL.guardC rfl rfl rfl rfl rfl rfl (fun hg => POp.call (.mk' rfl rfl rfl rfl (by simp_all [strip, constAV])) (p20' (world_len h1.1) g.A)) ?_
  refine Pnt ?_; refine Opk ?_; refine S2 ?_
  refine CW.cond rfl (fun h0 => ?_) (fun h0 => ?_)
  ·
    exact absurd h0 (by rw [ok1 h]; simp)
  ·
    refine S4 ?_; refine Ofa ?_; refine Ola ?_; refine Ofa ?_; refine Ola ?_
    refine OL.popC rfl rfl rfl (POp.call (.mk' rfl rfl rfl rfl rfl) (p22 h1.1 h1.2.2.1 (by omega))) ?_
    refine Oas ?_; refine S4 ?_; refine Omv ?_; refine Ocm ?_; refine Omv ?_; refine Pmv ?_; refine Pcm ?_; refine Opk ?_; refine Omv ?_; refine Pmv ?_; refine Pmv ?_
    refine OL.guardC rfl rfl rfl rfl rfl rfl (fun hg => POp.call (.mk' rfl rfl rfl rfl (by simp_all [strip, constAV])) (p23 (casesC g.W (casesP g.A false)) (casesC g.W (casesP g.A false)))) ?_
    refine Opk ?_; refine Omv ?_; refine Pmv ?_; refine Pmv ?_; refine Pln ?_; refine Pcm ?_; refine Peb ?_; refine Opk ?_; refine Omv ?_
    refine OL.guardC rfl rfl rfl rfl rfl rfl (fun hg => POp.call (.mk' rfl rfl rfl rfl rfl) (p21)) ?_
    refine Opk ?_; refine Oas ?_; refine S3 ?_
    refine r1 2 (H) ?_
    exact ⟨retB (by rw [can_len]; simp), rfl⟩
theorem p3n (g : Gv) (h : goodP g.W [g.A] = false) : PCall Tryz.prog 3 [AV.given g] (.b true) := by
  intro H
  refine ACall.mk' (n := 80) Tryz.func3 rfl (by kernel_rfl) rfl rfl (fun B I w0 => ?_)
  refine S2 ?_; refine Obx ?_; refine Oas ?_; refine S4 ?_; refine Ofa ?_; refine Ola ?_; refine Ofa ?_; refine Ola ?_
  refine OL.popC rfl rfl rfl (POp.call (.mk' rfl rfl rfl rfl rfl) (p17n h)) ?_
  refine Omv ?_; refine Oex ?_; refine Oex ?_; refine Oas ?_; refine Oas ?_; refine S4 ?_; refine Ofa ?_; refine Ola ?_; refine Ofa ?_; refine Ola ?_
  refine OL.popC rfl rfl rfl (POp.call (.mk' rfl rfl rfl rfl rfl) (p18n h)) ?_
  refine Omv ?_; refine Oex ?_; refine Oex ?_; refine Oas ?_; refine Oas ?_; refine S5 ?_; refine Ofa ?_; refine Ola ?_
  refine OL.popC rfl rfl rfl (POp.call (.mk' rfl rfl rfl rfl rfl) (p19 g.W)) ?_
  refine Ont ?_; refine Omv ?_; refine Pfa ?_; refine Pla ?_; refine Pfa ?_; refine Pla ?_
  refine OL.guardC rfl rfl rfl rfl rfl rfl (fun hg => POp.call (.mk' rfl rfl rfl rfl (by simp_all [strip, constAV])) (p20' (world_len (by simpa using hg)) g.A)) ?_
  refine Pnt ?_; refine Opk ?_; refine S2 ?_
  refine CW.cond rfl (fun h0 => ?_) (fun h0 => ?_)
  ·
    refine S2 ?_; refine Omv ?_; refine Ocm ?_; refine Omv ?_; refine Pmv ?_; refine Pcm ?_; refine Opk ?_; refine Omv ?_; refine Pmv ?_; refine Pln ?_; refine Pcm ?_; refine Opk ?_
    refine Omv ?_; refine Pmv ?_; refine Pnt ?_; refine Opk ?_; refine Omv ?_
    refine OL.guardC rfl rfl rfl rfl rfl rfl (fun hg => POp.call (.mk' rfl rfl rfl rfl rfl) (p21)) ?_
    refine Opk ?_; refine Oas ?_; refine S4 ?_
    refine r1 2 (H) ?_
    exact ⟨retB rfl, rfl⟩
  ·
    exact absurd h0 (by rw [bad1 h]; simp)
theorem p3 (g : Gv) : PCall Tryz.prog 3 [AV.given g] (.b true) := by
  cases h : goodP g.W [g.A] with
  | true => exact p3g g h
  | false => exact p3n g h
end Go.Proofs.YtiljpbljebfhnaaGreat
