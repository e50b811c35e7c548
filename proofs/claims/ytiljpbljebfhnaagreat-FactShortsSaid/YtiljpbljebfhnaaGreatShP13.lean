/- Part 13 of the proof: contracts of functions of the program and what they need. No condition beyond those that each theorem names. -/
import Derived.Test.YtiljpbljebfhnaaGreatShP12
set_option linter.unusedVariables false
set_option linter.unusedSimpArgs false
set_option maxRecDepth 10000
namespace Go.Proofs.YtiljpbljebfhnaaGreat
open Go.Eng
open Go.Eng.Fc
/-! ### weights that no step makes greater -/
mutual
def w2F : Fact → Nat
  | .mk op arg path cls n kids => (if 2 ≤ op ∧ op ≤ 4 then 2 else 1) + w2Fs kids
def w2Fs : List Fact → Nat
  | [] => 0
  | k :: r => w2F k + w2Fs r
end
theorem w2F_eq (f : Fact) : w2F f = (if 2 ≤ f.op ∧ f.op ≤ 4 then 2 else 1) + w2Fs f.kids := by cases f; rw [w2F]; rfl
mutual
theorem nodes_w2 : ∀ f : Fact, nodesN f ≤ w2F f ∧ w2F f ≤ 2 * nodesN f
  | .mk op arg path cls n kids => by rw [nodesN, w2F]; have := nodes_w2s kids; split <;> omega
theorem nodes_w2s : ∀ l : List Fact, nodesNs l ≤ w2Fs l ∧ w2Fs l ≤ 2 * nodesNs l
  | [] => by simp [nodesNs, w2Fs]
  | k :: r => by rw [nodesNs, w2Fs]; have := nodes_w2 k; have := nodes_w2s r; omega
end
theorem puts2_out (y : Fact) : ∀ (l : List Fact) (i : Int), (i < 0 ∨ (nodesNs l : Int) ≤ i) → w2Fs (putsF y l i) = w2Fs l ∧ (putsF y l i).length = l.length := by
  have key : ∀ f : Fact, ∀ i : Int, (i < 0 ∨ (nodesN f : Int) ≤ i) → w2F (putF y f i) = w2F f := by
    refine Fact.ind1 fun f ih i hi => ?_
    have h0 : ¬ i = 0 := by have := nodesN_eq f; omega
    rw [putF_ne h0, w2F_eq, w2F_eq f]
    have hl : ∀ (l : List Fact) (j : Int), (∀ k ∈ l, k ∈ f.kids) → (j < 0 ∨ (nodesNs l : Int) ≤ j) → w2Fs (putsF y l j) = w2Fs l := by
      intro l
      induction l with
      | nil => intro j _ _; rw [putsF]
      | cons x r ihr =>
        intro j hm hj
        rw [putsF, w2Fs, w2Fs]
        rw [nodesNs] at hj
        rw [ih x (hm x (.head _)) j (by omega), ihr (j - nodesN x) (fun k hk => hm k (.tail _ hk)) (by omega)]
    show (if 2 ≤ f.op ∧ f.op ≤ 4 then 2 else 1) + w2Fs (putsF y f.kids (i - 1)) = _
    rw [hl f.kids (i - 1) (fun _ h => h) (by rw [nodesN_eq] at hi; omega)]
  intro l
  induction l with
  | nil => intro i _; rw [putsF]; exact ⟨rfl, rfl⟩
  | cons x r ihr =>
    intro i hi
    rw [nodesNs] at hi
    rw [putsF, w2Fs, w2Fs, List.length_cons, List.length_cons]
    have := ihr (i - nodesN x) (by omega)
    rw [key x i (by omega), this.1, this.2]
    exact ⟨rfl, rfl⟩
theorem putF_w2 (y : Fact) : ∀ f : Fact, ∀ i : Nat, ∀ x, (nodesL f)[i]? = some x → w2F (putF y f i) + w2F x = w2F f + w2F y := by
  refine Fact.ind1 fun f ih i x hx => ?_
  cases i with
  | zero =>
    rw [nodesL_eq] at hx
    simp at hx; subst hx
    rw [show ((0 : Nat) : Int) = 0 from rfl, putF_zero]; omega
  | succ i =>
    rw [nodesL_eq, ← nodesLs_flat] at hx
    simp at hx
    rw [putF_ne (by omega), w2F_eq, w2F_eq f]
    have hl : ∀ (l : List Fact) (j : Nat), (∀ k ∈ l, k ∈ f.kids) → (nodesLs l)[j]? = some x → w2Fs (putsF y l j) + w2F x = w2Fs l + w2F y := by
      intro l
      induction l with
      | nil => intro j _ h; simp [nodesLs] at h
      | cons k r ihr =>
        intro j hm h
        rw [nodesLs] at h
        rw [putsF, w2Fs, w2Fs]
        have hlk := nodesL_len k
        by_cases hj : j < nodesN k
        · rw [List.getElem?_append_left (by omega)] at h
          have h1 := ih k (hm k (.head _)) j x h
          have h2 := (puts2_out y r (j - nodesN k) (by omega)).1
          rw [h2]; omega
        · rw [List.getElem?_append_right (by omega), hlk] at h
          have h1 := ihr (j - nodesN k) (fun q hq => hm q (.tail _ hq)) h
          have h2 := (puts2_out y [k] j (by right; simp [nodesNs]; omega)).1
          rw [putsF, w2Fs, putsF, w2Fs, w2Fs, w2Fs] at h2
          rw [show ((j : Int) - nodesN k) = ((j - nodesN k : Nat) : Int) by omega]
          omega
    show (if 2 ≤ f.op ∧ f.op ≤ 4 then 2 else 1) + w2Fs (putsF y f.kids (((i + 1 : Nat) : Int) - 1)) + w2F x = _
    rw [show (((i + 1 : Nat) : Int) - 1) = (i : Int) by omega]
    have := hl f.kids i (fun _ h => h) hx
    omega

theorem kid_w2 {x k : Fact} (h : k ∈ x.kids) : w2F k < w2F x := by
  have : ∀ l : List Fact, k ∈ l → w2F k ≤ w2Fs l := by
    intro l
    induction l with
    | nil => intro h; cases h
    | cons y r ih => intro h; rw [w2Fs]; rcases List.mem_cons.1 h with rfl | h; omega; have := ih h; omega
  have := this x.kids h
  rw [w2F_eq x]; split <;> omega
theorem cand_w2 {W : FW} {x y : Fact} (h : wfB W x = true) (hy : y ∈ candsP x) : w2F y ≤ w2F x := by
  obtain ⟨hn, hk⟩ := wfB_iff.1 h
  rcases List.mem_append.1 hy with hy | hy
  · have h1 : ¬ x.op = 1 := fun e => by rw [prefP, if_pos e] at hy; cases hy
    have hy2 : w2F y ≤ 2 := by
      rw [prefP, if_neg h1] at hy
      split at hy
      · simp at hy; subst hy; decide
      · simp at hy; rcases hy with rfl | rfl <;> decide
    have hx2 : 2 ≤ w2F x := by
      rw [w2F_eq]
      by_cases hl : 2 ≤ x.op ∧ x.op ≤ 4
      · rw [if_pos hl]; omega
      · rw [if_neg hl]
        simp only [nodeOkB, Bool.and_eq_true, decide_eq_true_eq, beq_iff_eq] at hn
        have hlen : 1 ≤ x.kids.length := by have := hn.1.2; unfold kidsP at this; split at this <;> (try split at this) <;> omega
        obtain ⟨q, r, hq⟩ := List.exists_cons_of_ne_nil (l := x.kids) (fun e => by rw [e] at hlen; simp at hlen)
        rw [hq, w2Fs, w2F_eq q]; split <;> omega
    omega
  · have := kid_w2 hy; omega
theorem step_w2 {W : FW} {f g : Fact} (hf : wfB W f = true) (h : stepF2 W f = some g) : wfB W g = true ∧ wtF g < wtF f ∧ w2F g ≤ w2F f := by
  rw [stepF2, stepL2] at h
  obtain ⟨p, hp, h⟩ := List.exists_of_findSome?_eq_some h
  have hx : (nodesL f)[p.2]? = some p.1 := List.mem_zipIdx_iff_getElem?.1 hp
  have hwx := wf_nodes f hf p.1 (List.mem_of_getElem? hx)
  have hm := List.mem_of_find?_eq_some h
  obtain ⟨y, hy, rfl⟩ := List.mem_map.1 hm
  have h1 := cand_ok hwx hy
  have h2 := putF_wt y f p.2 p.1 hx
  have h3 := putF_w2 y f p.2 p.1 hx
  have h4 := cand_w2 hwx hy
  exact ⟨wf_put h1.1 f hf _, by omega, by omega⟩
theorem p148n (f : Fact) (n : Nat) (hf : nodesN f ≤ 1000) (h : n < nodesN f) : PCall Tryz.prog 148 [AV.fact f, .i n] (.tup [AV.fact ((nodesL f).getD n default), .i (-1)]) := by
  have h1 := p148 f hf n (by omega) (by omega)
  obtain ⟨e1, e2⟩ := nth_spec f n (by omega)
  rw [e1, e2 (by omega), restN, if_pos (by omega)] at h1
  simpa using h1
theorem stepL2_snoc (W : FW) (f : Fact) (l : List Fact) (x : Fact) : stepL2 W f (l ++ [x]) = (stepL2 W f l).or (stepAt2 W f l.length x) := by
  rw [stepL2, List.zipIdx_append, List.findSome?_append]
  simp [stepL2]
theorem stepL2_take {W : FW} {f g : Fact} {n : Nat} (h : stepL2 W f ((nodesL f).take n) = some g) : stepF2 W f = some g := by
  rw [stepF2]
  conv => lhs; rw [← List.take_append_drop n (nodesL f)]
  rw [stepL2, List.zipIdx_append, List.findSome?_append]
  show (stepL2 W f _).or _ = _
  rw [h]; rfl
theorem p99 {W : FW} (hw : worldP W = true) {f : Fact} (hf : wfB W f = true) (hn24 : nodesN f ≤ 24) (hw2 : w2F f ≤ 24) : PCall Tryz.prog 99 [AV.world W, AV.fact f] (.tup [AV.fact ((stepF2 W f).getD f), .b (stepF2 W f).isSome]) := by
  intro H
  refine ACall.mk' (n := 75) Tryz.func99 rfl (by kernel_rfl) rfl rfl (fun B I w0 => ?_)
  refine S2 ?_; refine Obx ?_; refine Obx ?_
  refine OL.alC rfl rfl rfl rfl (fun rb => ?_)
  refine Oas ?_; refine S4 ?_
  refine OL.popC rfl rfl rfl (POp.call (.mk' rfl rfl rfl rfl rfl) (p91)) ?_
  refine OL.popC rfl rfl rfl (POp.call (.mk' rfl rfl rfl rfl rfl) (p89 trueF)) ?_
  refine OL.alC rfl rfl rfl rfl (fun b1 => ?_)
  refine Sto ?_; refine S4 ?_
  refine CW.freezeP (d := 6) rfl (by repeat (first | exact Del.head _ _ | apply Del.tail)) ?_
  refine S1 ?_; refine Oas ?_; refine S3 ?_
  refine lj (fun m st => ∃ n : Nat, st = ⟨[(7, .i n), (6, .ptr (Fcells noF)), (5, .b false), (4, .p rb 0), (3, .ptr (Fcells f)), (2, .ptr (Wcells W))], .blk rb 29 [.i 0, .i 0, .val (.slice none 0 0), .i 0, .i 0, .val (.slice none 0 0)] :: H⟩ ∧ m = nodesN f - n ∧ n ≤ nodesN f ∧ stepL2 W f ((nodesL f).take n) = none) (⟨0, rfl, rfl, by omega, rfl⟩) ?_
  rintro m _ ⟨n, rfl, rfl, hn, hnone⟩
  refine S3 ?_; refine Omv ?_; refine Ola ?_
  refine OL.popC rfl rfl rfl (POp.call (.mk' rfl rfl rfl rfl rfl) (p29 f)) ?_
  refine Ocm ?_; refine S2 ?_
  refine CW.cond rfl (fun h0 => ?_) (fun h0 => ?_)
  ·
    replace h0 := nm h0
    have hnl : n < nodesN f := by omega
    have hll := nodesL_len f
    have hxi : (nodesL f)[n]? = some ((nodesL f).getD n default) := by rw [getD_lt (by omega)]; exact List.getElem?_eq_getElem (by omega)
    have htn : (nodesL f).take (n + 1) = (nodesL f).take n ++ [((nodesL f).getD n default)] := (take_getD (by omega)).symm
    have hsl := stepL2_snoc W f ((nodesL f).take n) ((nodesL f).getD n default)
    rw [hnone, Option.none_or, ← htn, List.length_take, Nat.min_eq_left (by omega)] at hsl
    refine S6 ?_; refine Ola ?_; refine Omv ?_
    refine OL.popC rfl rfl rfl (POp.call (.mk' rfl rfl rfl rfl rfl) (p148n f n (by omega) hnl)) ?_
    refine Omv ?_; refine Oex ?_; refine Oex ?_
    refine OL.alC rfl rfl rfl rfl (fun b2 => ?_)
    refine Sto ?_; refine Oas ?_; refine S3 ?_
    refine CW.freezeP (d := 8) rfl (by repeat (first | exact Del.head _ _ | apply Del.tail)) ?_
    generalize hxe : ((nodesL f).getD n default) = x at hxi hsl htn ⊢
    have hwx := wf_nodes f hf x (List.mem_of_getElem? hxi)
    have hnw := nodes_wt f
    have hg : ∀ y ∈ candsP x, wfB W (putF y f n) = true ∧ nodesN (putF y f n) ≤ 25 := fun y hy => by
      have h1 := cand_ok hwx hy
      have h2 := cand_w2 hwx hy
      have h3 := putF_w2 y f n x hxi
      have h4 := nodes_w2 (putF y f n)
      exact ⟨wf_put h1.1 f hf _, by omega⟩
    refine S1 ?_; refine Oas ?_; refine S2 ?_
    refine CW.cutJ (fun st => ∃ v : Value, st = ⟨[(10, .as (AV.facts (prefP x)) v), (8, .ptr (Fcells x)), (7, .i n), (6, .ptr (Fcells noF)), (5, .b false), (4, .p rb 0), (3, .ptr (Fcells f)), (2, .ptr (Wcells W))], .own 29 6 v :: .blk rb 29 [.i 0, .i 0, .val (.slice none 0 0), .i 0, .i 0, .val (.slice none 0 0)] :: H⟩) ?_ ?_
    ·
      refine S1 ?_
      refine CW.ownNil 10 29 6 rfl ?_
      refine CW.dp mixed ?_
      refine DP.anyC 0 2 75 rfl (by decide +kernel) rfl rfl (by decide +kernel) ?_
      refine Ala ?_
      refine AD.popC rfl rfl rfl (POp.call (.mk' rfl rfl rfl rfl rfl) (p91)) ?_
      refine AD.nil ?_
      refine DP.tailC 2 (by decide +kernel) rfl ?_
      refine OL.popC rfl rfl rfl (POp.call (.mk' rfl rfl rfl rfl rfl) (p28 x trueF)) ?_
      refine Ont ?_; refine S2 ?_
      refine CW.cond rfl (fun h1 => ?_) (fun h1 => ?_)
      ·
        have hx1 : ¬ x.op = 1 := fun e => by rw [plain_op1 hwx e] at h1; simp at h1
        refine S2 ?_; refine Omv ?_
        refine OL.popC rfl rfl rfl (POp.call (.mk' rfl rfl rfl rfl rfl) (p91)) ?_
        refine OL.popC rfl rfl rfl (POp.row rfl rfl (by first | rfl | simp_all [strip]) rfl rfl rfl rfl rfl rfl) ?_
        refine OL.appendC rfl rfl rfl rfl rfl rfl rfl rfl (AVle.refl _) (rfl) (fun v => by repeat (first | exact Upd.head _ _ _ | apply Upd.tail)) (by show (0 + 1) * 80 ≤ _; omega) (by show 0 + 1 ≤ _; omega) (fun v36 => ?_)
        refine Oas ?_; refine S4 ?_; refine Ola ?_; refine Ola ?_
        refine OL.popC rfl rfl rfl (POp.call (.mk' rfl rfl rfl rfl rfl) (p28 x noF)) ?_
        refine Ont ?_; refine S2 ?_
        refine CW.cond rfl (fun h2 => ?_) (fun h2 => ?_)
        ·
          replace h2 := nm h2
          refine S1 ?_; refine Omv ?_; refine Ola ?_
          refine OL.popC rfl rfl rfl (POp.row rfl rfl (by first | rfl | simp_all [strip]) rfl rfl rfl rfl rfl rfl) ?_
          refine OL.appendC rfl rfl rfl rfl rfl rfl rfl rfl (AVle.refl _) (rfl) (fun v => by repeat (first | exact Upd.head _ _ _ | apply Upd.tail)) (by show (1 + 1) * 80 ≤ _; omega) (by show 1 + 1 ≤ _; omega) (fun v44 => ?_)
          refine Oas ?_; refine S1 ?_
          refine Done.le 10 (y := .as (AV.facts (prefP x)) v44) rfl (by rw [show prefP x = [trueF, noF] by rw [prefP, if_neg hx1, if_neg (by simpa using h2)]]; rw [show AV.facts [trueF, noF] = AV.sl 6 ([Fcells trueF, Fcells noF]) from congrArg _ (encFs_map _)]; exact AVle.refl _) ?_
          exact Done.cutJ ⟨v44, rfl⟩ (by repeat (first | exact trivial | refine ⟨rfl, ?_⟩)) (by repeat (first | exact List.Sublist.refl _ | refine List.Sublist.cons _ ?_))
        ·
          replace h2 := nm h2
          refine S1 ?_
          refine Done.le 10 (y := .as (AV.facts (prefP x)) v36) rfl (by rw [show prefP x = [trueF] by rw [prefP, if_neg hx1, if_pos (by simpa using h2)]]; rw [show AV.facts [trueF] = AV.sl 6 ([Fcells trueF]) from congrArg _ (encFs_map _)]; exact AVle.refl _) ?_
          exact Done.cutJ ⟨v36, rfl⟩ (by repeat (first | exact trivial | refine ⟨rfl, ?_⟩)) (by repeat (first | exact List.Sublist.refl _ | refine List.Sublist.cons _ ?_))
      ·
        have hx1 : x.op = 1 := (show x = trueF by simpa using h1) ▸ rfl
        refine S1 ?_
        refine Done.le 10 (y := .as (AV.facts (prefP x)) (.slice none 0 0)) rfl (by rw [show prefP x = [] by rw [prefP, if_pos hx1]]; rw [show AV.facts [] = AV.sl 6 ([]) from congrArg _ (encFs_map _)]; exact AVle.refl _) ?_
        exact Done.cutJ ⟨(.slice none 0 0), rfl⟩ (by repeat (first | exact trivial | refine ⟨rfl, ?_⟩)) (by repeat (first | exact List.Sublist.refl _ | refine List.Sublist.cons _ ?_))
    ·
      rintro _ ⟨v, rfl⟩
      refine S2 ?_; refine Omv ?_; refine Ofa ?_; refine Old ?_
      have hkl := kids_nodes x
      have hpf : (prefP x).length ≤ 2 := by unfold prefP; split; simp; split <;> simp
      have hxn : nodesN x ≤ 1000 := by have h1 := putF_wt trueF f n x hxi; have h2 := nodes_wt x; have h3 : wtF trueF = 1 := rfl; have h4 := wt_nodes f; omega
      refine OL.appendC rfl rfl rfl rfl rfl rfl rfl rfl (AVle.refl _) (one_facts x.kids) (fun v => by repeat (first | exact Upd.head _ _ _ | apply Upd.tail)) (by rw [len_facts, len_facts]; omega) (by rw [len_facts, len_facts]; omega) (fun v48 => ?_)
      refine OL.le 48 (y := AV.facts (candsP x)) rfl (by rw [candsP, AV.facts, encFs_append]; exact AVle.asL _ _) ?_
      refine Oas ?_; refine S4 ?_; refine Omv ?_; refine Oln ?_; refine Omv ?_; refine S3 ?_
      refine lj (fun m st => ∃ j : Nat, st = ⟨[(51, .i j), (50, .i (candsP x).length), (49, AV.facts (candsP x)), (8, .ptr (Fcells x)), (7, .i n), (6, .ptr (Fcells noF)), (5, .b false), (4, .p rb 0), (3, .ptr (Fcells f)), (2, .ptr (Wcells W))], .blk rb 29 [.i 0, .i 0, .val (.slice none 0 0), .i 0, .i 0, .val (.slice none 0 0)] :: H⟩ ∧ m = (candsP x).length - j ∧ j ≤ (candsP x).length ∧ ∀ y ∈ (candsP x).take j, goodG2 W f (putF y f n) = false) (⟨0, rfl, rfl, Nat.zero_le _, by simp⟩) ?_
      rintro m _ ⟨j, rfl, rfl, hj, hall⟩
      have hcl : (candsP x).length ≤ 1002 := by rw [candsP, List.length_append]; omega
      refine S2 ?_; refine Ocm ?_; refine S3 ?_
      refine CW.cond rfl (fun h3 => ?_) (fun h3 => ?_)
      ·
        replace h3 := nm h3
        have hjl : j < (candsP x).length := by omega
        obtain ⟨y, hy⟩ : ∃ y, y = (candsP x).getD j default := ⟨_, rfl⟩
        have hym : y ∈ candsP x := by rw [hy]; exact getD_mem hjl
        have hgy := hg y hym
        refine S6 ?_; refine Oix ?_; refine Ola ?_
        refine OL.alC rfl rfl rfl rfl (fun b3 => ?_)
        refine Sto ?_; refine S3 ?_
        rw [← hy]
        refine S1 ?_; refine Ola ?_; refine Omv ?_; refine Ola ?_
        refine OL.popC rfl rfl rfl (POp.call (.mk' rfl rfl rfl rfl rfl) (p149 y f (by omega) n (by omega) (by omega))) ?_
        refine Omv ?_; refine Oex ?_; refine Oex ?_
        refine OL.alC rfl rfl rfl rfl (fun b4 => ?_)
        refine Sto ?_; refine Oas ?_; refine S4 ?_; refine Ola ?_; refine Ola ?_; refine Ola ?_
        refine OL.popC rfl rfl rfl (POp.call (.mk' rfl rfl rfl rfl rfl) (p26 hw hf hgy.1 (by omega) hgy.2)) ?_
        refine Omv ?_; refine Pla ?_; refine Pla ?_; refine Pla ?_
        refine OL.guardC rfl rfl rfl rfl rfl rfl (fun hg => POp.call (.mk' rfl rfl rfl rfl (by first | rfl | ((repeat (first | exact hg | rfl | refine Bool.and_eq_true_iff.2 ⟨?_, ?_⟩)); done) | simp_all [strip, constAV])) (p26 hw hgy.1 hf hgy.2 (by omega))) ?_
        refine Opk ?_; refine S2 ?_
        refine CW.cond rfl (fun h4 => ?_) (fun h4 => ?_)
        ·
          have hgg : goodG2 W f (putF y f n) = true := by rw [bif_and] at h4; exact h4
          refine S2 ?_; refine Ola ?_; refine Sto ?_; refine Oas ?_; refine S12 ?_
          refine Done.retR (rs := [.cell 4 29, .tmp 5]) (H' := H) rfl ((by first | exact .cellA inferInstance rfl (by repeat (first | exact .head _ | refine .tail _ ?_)) rfl rfl (.tmp rfl (.nil)) | exact .ptrA inferInstance rfl rfl (.tmp rfl (.nil)))) (AVleL.refl _) (by repeat (first | exact List.Sublist.refl _ | refine List.Sublist.cons _ ?_)) ?_
          exact ⟨by rw [show stepF2 W f = some (putF y f n) from stepL2_take (n := n + 1) (by rw [hsl, stepAt2, hy]; exact find_at hjl hall (by rw [← hy]; exact hgg))]; rfl, rfl⟩
        ·
          have hgg : goodG2 W f (putF y f n) = false := by rw [bif_and] at h4; exact h4
          refine S4 ?_; refine Oar ?_; refine Omv ?_; refine S1 ?_
          exact ag (⟨j + 1, rfl, rfl, by omega, fun z hz => by rw [List.take_succ_eq_append_getElem hjl, ← getD_lt hjl, ← hy] at hz; rcases List.mem_append.1 hz with hz | hz; exact hall z hz; simp at hz; subst hz; exact hgg⟩)
      ·
        replace h3 := nm h3
        obtain rfl : j = (candsP x).length := by omega
        rw [List.take_length] at hall
        refine S7 ?_; refine Omv ?_; refine Oar ?_; refine Oas ?_; refine S1 ?_
        exact ag (⟨n + 1, rfl, rfl, by omega, by rw [hsl, stepAt2, List.find?_eq_none]; intro z hz; obtain ⟨y, hy, rfl⟩ := List.mem_map.1 hz; rw [hall y hy]; simp⟩)
  ·
    replace h0 := nm h0
    have hnl : n = nodesN f := by omega
    have hll := nodesL_len f
    rw [hnl, ← hll, List.take_length] at hnone
    refine S7 ?_; refine Ola ?_; refine Sto ?_; refine Oas ?_; refine S3 ?_
    refine Done.retR (rs := [.cell 4 29, .tmp 5]) (H' := H) rfl ((by first | exact .cellA inferInstance rfl (by repeat (first | exact .head _ | refine .tail _ ?_)) rfl rfl (.tmp rfl (.nil)) | exact .ptrA inferInstance rfl rfl (.tmp rfl (.nil)))) (AVleL.refl _) (by repeat (first | exact List.Sublist.refl _ | refine List.Sublist.cons _ ?_)) ?_
    exact ⟨by rw [show stepF2 W f = none from hnone]; rfl, rfl⟩
end Go.Proofs.YtiljpbljebfhnaaGreat

set_option linter.unusedVariables false
set_option linter.unusedSimpArgs false
set_option maxRecDepth 10000
namespace Go.Proofs.YtiljpbljebfhnaaGreat
open Go.Eng
open Go.Eng.Fc
theorem shortN2_more {W : FW} : ∀ (n m : Nat) (f : Fact), wfB W f = true → wtF f ≤ n → wtF f ≤ m → shortN2 W n f = shortN2 W m f := by
  intro n
  induction n with
  | zero => intro m f hf h1 h2; have := wtF_eq f; split at this <;> omega
  | succ n ih =>
    intro m f hf h1 h2
    cases m with
    | zero => have := wtF_eq f; split at this <;> omega
    | succ m =>
      rw [shortN2, shortN2]
      cases hs : stepF2 W f with
      | none => rfl
      | some g =>
        have hg := step_w2 hf hs
        exact ih m g hg.1 (by omega) (by omega)
theorem short2_step {W : FW} {f g : Fact} (hf : wfB W f = true) (h : stepF2 W f = some g) : shortF2 W f = shortF2 W g := by
  have hg := step_w2 hf h
  rw [shortF2, shortF2]
  obtain ⟨n, hn⟩ : ∃ n, wtF f = n + 1 := ⟨wtF f - 1, by omega⟩
  rw [hn, shortN2, h]
  exact shortN2_more _ _ _ hg.1 (by omega) (Nat.le_refl _)
theorem short2_none {W : FW} {f : Fact} (h : stepF2 W f = none) : shortF2 W f = f := by
  rw [shortF2]
  cases hn : wtF f with
  | zero => rfl
  | succ n => rw [shortN2, h]
theorem p30 {W : FW} (hw : worldP W = true) {f : Fact} (hf : wfB W f = true) (hw2 : w2F f ≤ 24) : PCall Tryz.prog 30 [AV.world W, AV.fact f] (AV.fact (shortF2 W f)) := by
  intro H
  refine ACall.mk' (n := 22) Tryz.func30 rfl (by kernel_rfl) rfl rfl (fun B I w0 => ?_)
  have hwt0 := wt_nodes f
  have hnw0 := nodes_w2 f
  refine S2 ?_; refine Obx ?_
  refine OL.boxC rfl rfl rfl rfl rfl rfl rfl (fun fb => ?_)
  refine OL.alC rfl rfl rfl rfl (fun rb => ?_)
  refine S5 ?_; refine Oas ?_; refine S3 ?_
  refine lj (fun m st => ∃ (i : Nat) (g : Fact), st = ⟨[(5, .i i), (4, .p rb 0), (3, .p fb 0), (2, .ptr (Wcells W))], .blk rb 29 [.i 0, .i 0, .val (.slice none 0 0), .i 0, .i 0, .val (.slice none 0 0)] :: .blk fb 29 (Fcells g) :: H⟩ ∧ m = 200 - i ∧ wfB W g = true ∧ w2F g ≤ 24 ∧ wtF g + i ≤ wtF f ∧ shortF2 W g = shortF2 W f) (⟨0, f, rfl, rfl, hf, hw2, by omega, rfl⟩) ?_
  rintro m _ ⟨i, g, rfl, rfl, hg, hg2, hgw, hgs⟩
  have hp1 := wtF_eq g
  have hp2 := nodes_w2 g
  have hp3 : 1 ≤ wtF g := by split at hp1 <;> omega
  refine S3 ?_; refine Omv ?_; refine Ocm ?_; refine S2 ?_
  refine CW.cond rfl (fun h0 => ?_) (fun h0 => ?_)
  ·
    replace h0 := nm h0
    refine S6 ?_; refine Ola ?_; refine Ola ?_
    refine OL.popC rfl rfl rfl (POp.call (.mk' rfl rfl rfl rfl rfl) (p99 hw hg (by omega) hg2)) ?_
    refine Omv ?_; refine Oex ?_; refine Oex ?_
    refine OL.alC rfl rfl rfl rfl (fun b2 => ?_)
    refine Sto ?_; refine Oas ?_; refine S5 ?_; refine Omv ?_; refine Ont ?_; refine S2 ?_
    refine CW.cond rfl (fun h1 => ?_) (fun h1 => ?_)
    ·
      have hs : stepF2 W g = none := by cases h : stepF2 W g with
        | none => rfl
        | some q => rw [h] at h1; cases h1
      rw [short2_none hs] at hgs
      refine S9 ?_; refine Ola ?_; refine Sto ?_; refine S3 ?_
      refine Done.retR (rs := [.cell 4 29]) (H' := H) rfl ((by first | exact .cellA inferInstance rfl (by repeat (first | exact .head _ | refine .tail _ ?_)) rfl rfl (.nil) | exact .ptrA inferInstance rfl rfl (.nil))) (AVleL.refl _) (by repeat (first | exact List.Sublist.refl _ | refine List.Sublist.cons _ ?_)) ?_
      exact ⟨by rw [hgs]; rfl, rfl⟩
    ·
      obtain ⟨q, hq⟩ : ∃ q, stepF2 W g = some q := by cases h : stepF2 W g with
        | none => rw [h] at h1; cases h1
        | some q => exact ⟨q, rfl⟩
      have hsq := step_w2 hg hq
      have hst := short2_step hg hq
      rw [hq]
      refine S3 ?_; refine Ola ?_; refine Sto ?_; refine S4 ?_; refine Omv ?_; refine Oar ?_; refine Oas ?_; refine S1 ?_
      exact ag (⟨i + 1, q, rfl, rfl, hsq.1, by omega, by omega, by rw [← hst, hgs]⟩)
  ·
    exfalso
    simp only [decide_eq_false_iff_not] at h0
    omega
theorem short_c {W : FW} (hw : worldP W = true) {f : Fact} (h : goodP W [f] = true) : shortF W f = shortF2 W f := by
  have hf := good_f h (.head _)
  exact short_eq hw hf.1 (Nat.le_trans (wt_nodes f) (by omega))
theorem p27c {W : FW} {f : Fact} (h : goodP W [f] = true) : PCall Tryz.prog 27 [AV.world W, AV.fact f] (.tup [AV.fact (shortF2 W f), .i 0]) := by
  have := p27g h
  rwa [short_c (good_w h) h] at this
def zeroF : Fact := .mk 0 0 [] 0 0 []
theorem zero_le : AVleL [.i 0, .i 0, .val (.slice none 0 0), .i 0, .i 0, .val (.slice none 0 0)] (Fcells zeroF) := nilFact_le 0
theorem p5n (g : Gv) (h : goodP g.W [g.A] = false) : PCall Tryz.prog 5 [AV.given g] (.b true) := by
  intro H
  refine ACall.mk' (n := 64) Tryz.func5 rfl (by kernel_rfl) rfl rfl (fun B I w0 => ?_)
  refine S2 ?_; refine Obx ?_; refine Oas ?_; refine S5 ?_; refine Ofa ?_; refine Ola ?_
  refine OL.popC rfl rfl rfl (POp.call (.mk' rfl rfl rfl rfl rfl) (p19 g.W)) ?_
  refine Ont ?_; refine Omv ?_; refine Pfa ?_; refine Pla ?_; refine Pfa ?_; refine Pla ?_
  refine OL.guardC rfl rfl rfl rfl rfl rfl (fun hg => POp.call (.mk' rfl rfl rfl rfl (by first | rfl | ((repeat (first | exact hg | rfl | refine Bool.and_eq_true_iff.2 ⟨?_, ?_⟩)); done) | simp_all [strip, constAV])) (p20' (world_len (by simpa using hg)) g.A)) ?_
  refine Pnt ?_; refine Opk ?_; refine S2 ?_
  refine CW.cond rfl (fun h0 => ?_) (fun h0 => ?_)
  ·
    refine S2 ?_; refine Ofa ?_; refine Ola ?_; refine Ofa ?_; refine Ola ?_
    refine OL.popC rfl rfl rfl (POp.call (.mk' rfl rfl rfl rfl rfl) (p27n h)) ?_
    refine Omv ?_; refine Oex ?_; refine Oex ?_
    refine OL.alC rfl rfl rfl rfl (fun b0 => ?_)
    refine Sto ?_; refine Oas ?_; refine S4 ?_; refine Omv ?_; refine Ocm ?_; refine Omv ?_; refine Pla ?_; refine Pbd ?_
    refine OL.guardC rfl rfl rfl rfl rfl rfl (fun hg => POp.callLe (.mk' rfl rfl rfl rfl (by first | rfl | ((repeat (first | exact hg | rfl | refine Bool.and_eq_true_iff.2 ⟨?_, ?_⟩)); done) | simp_all [strip, constAV])) (.cons (.refl _) (.cons (AVle.agg zero_le) .nil)) (p28 zeroF zeroF)) ?_
    refine Opk ?_; refine Omv ?_
    refine OL.guardC rfl rfl rfl rfl rfl rfl (fun hg => POp.call (.mk' rfl rfl rfl rfl rfl) (p21)) ?_
    refine Opk ?_; refine Oas ?_; refine S4 ?_
    refine r1 2 (H) ?_
    exact ⟨retB (by decide), rfl⟩
  ·
    exact absurd h0 (by rw [bad1 h]; simp)
theorem p5g (g : Gv) (h : goodP g.W [g.A] = true) : PCall Tryz.prog 5 [AV.given g] (.b true) := by
  intro H
  refine ACall.mk' (n := 64) Tryz.func5 rfl (by kernel_rfl) rfl rfl (fun B I w0 => ?_)
  have hG := good_f1 h
  refine S2 ?_; refine Obx ?_; refine Oas ?_; refine S5 ?_; refine Ofa ?_; refine Ola ?_
  refine OL.popC rfl rfl rfl (POp.call (.mk' rfl rfl rfl rfl rfl) (p19 g.W)) ?_
  refine Ont ?_; refine Omv ?_; refine Pfa ?_; refine Pla ?_; refine Pfa ?_; refine Pla ?_
  refine OL.guardC rfl rfl rfl rfl rfl rfl (fun hg => POp.call (.mk' rfl rfl rfl rfl (by first | rfl | ((repeat (first | exact hg | rfl | refine Bool.and_eq_true_iff.2 ⟨?_, ?_⟩)); done) | simp_all [strip, constAV])) (p20' (world_len hG.1) g.A)) ?_
  refine Pnt ?_; refine Opk ?_; refine S2 ?_
  refine CW.cond rfl (fun h0 => ?_) (fun h0 => ?_)
  ·
    exact absurd h0 (by rw [ok1 h]; simp)
  ·
    refine S5 ?_; refine Ofa ?_; refine Ola ?_
    refine OL.popC rfl rfl rfl (POp.call (.mk' rfl rfl rfl rfl rfl) (p29 g.A)) ?_
    refine Ocm ?_; refine S2 ?_
    refine CW.cond rfl (fun h1 => ?_) (fun h1 => ?_)
    ·
      replace h1 := nm h1
      refine S2 ?_
      refine OL.popC rfl rfl rfl (POp.call (.mk' rfl rfl rfl rfl rfl) (p21)) ?_
      refine Oas ?_; refine S4 ?_
      refine r1 2 (H) ?_
      exact ⟨by rfl, rfl⟩
    ·
      replace h1 := nm h1
      refine S4 ?_; refine Ofa ?_; refine Ola ?_; refine Ofa ?_; refine Ola ?_
      refine OL.popC rfl rfl rfl (POp.call (.mk' rfl rfl rfl rfl rfl) (p27c h)) ?_
      refine Omv ?_; refine Oex ?_; refine Oex ?_
      refine OL.alC rfl rfl rfl rfl (fun b0 => ?_)
      refine Sto ?_; refine Oas ?_; refine S3 ?_
      refine CW.dp mixed ?_
      refine DP.one (k := 0) (by decide +kernel) rfl ?_
      refine Omv ?_
      refine OL.nil (Done.dp ?_)
      refine DP.one (k := 1) (by decide +kernel) rfl ?_
      refine Ocm ?_
      refine OL.nil (Done.dp ?_)
      refine DP.one (k := 2) (by decide +kernel) rfl ?_
      refine Omv ?_
      refine OL.nil (Done.dp ?_)
      refine DP.anyC 3 9 64 rfl (by decide +kernel) rfl rfl (by decide +kernel) ?_
      refine AD.guardC rfl rfl rfl rfl rfl (fun hg => (by first | exact POp.ldA rfl rfl rfl rfl | (apply POp.ldAH rfl rfl rfl; (case hm => repeat (first | exact .head _ | refine .tail _ ?_)); (case hy => rfl); (case hn => rfl)))) ?_
      refine AD.guardC rfl rfl rfl rfl rfl (fun hg => (by first | exact POp.fa rfl rfl rfl rfl | exact POp.faP rfl rfl rfl rfl)) ?_
      refine AD.guardC rfl rfl rfl rfl rfl (fun hg => (by first | exact POp.ldA rfl rfl (gd hg) rfl | (apply POp.ldAH rfl rfl (gd hg); (case hm => repeat (first | exact .head _ | refine .tail _ ?_)); (case hy => rfl); (case hn => rfl)))) ?_
      refine AD.guardC rfl rfl rfl rfl rfl (fun hg => (by first | exact POp.fa rfl rfl rfl rfl | exact POp.faP rfl rfl rfl rfl)) ?_
      refine AD.guardC rfl rfl rfl rfl rfl (fun hg => (by first | exact POp.ldA rfl rfl (gd hg) rfl | (apply POp.ldAH rfl rfl (gd hg); (case hm => repeat (first | exact .head _ | refine .tail _ ?_)); (case hy => rfl); (case hn => rfl)))) ?_
      refine AD.guardC rfl rfl rfl rfl rfl (fun hg => POp.call (.mk' rfl rfl rfl rfl (by first | rfl | ((repeat (first | exact hg | rfl | refine Bool.and_eq_true_iff.2 ⟨?_, ?_⟩)); done) | simp_all [strip, constAV])) (p30 hG.1 hG.2.2.1 (by have := (nodes_w2 g.A).2; omega))) ?_
      refine AD.nil ?_
      refine DP.tailC 9 (by decide +kernel) rfl ?_
      refine OL.guardC rfl rfl rfl rfl rfl rfl (fun hg => POp.call (.mk' rfl rfl rfl rfl (by first | rfl | ((repeat (first | exact hg | rfl | refine Bool.and_eq_true_iff.2 ⟨?_, ?_⟩)); done) | simp_all [strip, constAV])) (p28 (shortF2 g.W g.A) (shortF2 g.W g.A))) ?_
      refine Opk ?_; refine Omv ?_
      refine OL.guardC rfl rfl rfl rfl rfl rfl (fun hg => POp.call (.mk' rfl rfl rfl rfl rfl) (p21)) ?_
      refine Opk ?_; refine Oas ?_; refine S3 ?_
      refine r1 2 (H) ?_
      exact ⟨retB (by simp), rfl⟩
theorem p5 (g : Gv) : PCall Tryz.prog 5 [AV.given g] (.b true) := by
  cases h : goodP g.W [g.A] with
  | true => exact p5g g h
  | false => exact p5n g h
end Go.Proofs.YtiljpbljebfhnaaGreat
