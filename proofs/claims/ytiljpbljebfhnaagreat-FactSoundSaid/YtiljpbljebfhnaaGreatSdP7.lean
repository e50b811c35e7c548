/- Part 7 of the proof: contracts of functions of the program and what they need. No condition beyond those that each theorem names. -/
import Derived.Test.YtiljpbljebfhnaaGreatSdP6
import Derived.Shelf.Sort.Plain
import Derived.Shelf.Slices.In.SortNone
import Derived.Sort.OwnSortedInts
set_option linter.unusedVariables false
set_option linter.unusedSimpArgs false
set_option maxRecDepth 10000
namespace Go.Proofs.YtiljpbljebfhnaaGreat
open Go.Eng
open Go.Eng.Fc
mutual
def casesP : Fact → Bool → List (List FLit)
 | .mk op arg path cls n kids, c =>
  if op = 1 then (if c then [] else [[]])
  else if op = 5 then (casesPs kids (!c)).getD 0 []
  else if leafP (.mk op arg path cls n kids) then [[⟨.mk op arg path cls n kids, c⟩]]
  else if c == (op == 6) then (casesPs kids c).getD 0 [] ++ (casesPs kids c).getD 1 []
  else ((casesPs kids c).getD 0 []).flatMap fun a => ((casesPs kids c).getD 1 []).map (joinedP a)
def casesPs : List Fact → Bool → List (List (List FLit))
 | [], _ => []
 | k :: r, c => casesP k c :: casesPs r c
end
theorem casesPs_at (c : Bool) : ∀ (l : List Fact) (i : Nat), i < l.length → (casesPs l c).getD i [] = casesP (l.getD i default) c
 | [], i, h => by simp at h
 | k :: r, 0, h => by rw [casesPs]; rfl
 | k :: r, i + 1, h => by rw [casesPs]; exact casesPs_at c r i (by simpa using h)
theorem cases_true {f : Fact} (h : f.op = 1) (c : Bool) : casesP f c = if c then [] else [[]] := by cases f; rw [casesP]; exact if_pos h
theorem cases_not {f : Fact} (h : f.op = 5) (hk : 0 < f.kids.length) (c : Bool) : casesP f c = casesP (f.kids.getD 0 default) (!c) := by
 rw [← casesPs_at (!c) f.kids 0 hk]
 cases f; rw [casesP]; simp only [Fact.op] at h; subst h; rfl
theorem cases_leaf {f : Fact} (h1 : ¬ f.op = 1) (h5 : ¬ f.op = 5) (hl : leafP f = true) (c : Bool) : casesP f c = [[⟨f, c⟩]] := by
 cases f; rw [casesP]; simp only [Fact.op] at h1 h5; rw [if_neg h1, if_neg h5, if_pos hl]
theorem cases_either {f : Fact} (h1 : ¬ f.op = 1) (h5 : ¬ f.op = 5) (hl : leafP f = false) {c : Bool} (hc : (c == (f.op == 6)) = true) (hk : 1 < f.kids.length) : casesP f c = casesP (f.kids.getD 0 default) c ++ casesP (f.kids.getD 1 default) c := by
 rw [← casesPs_at c f.kids 0 (by omega), ← casesPs_at c f.kids 1 hk]
 cases f; rw [casesP]; simp only [Fact.op] at h1 h5 hc; rw [if_neg h1, if_neg h5, if_neg (by simp [hl]), if_pos hc]; rfl
theorem cases_both {f : Fact} (h1 : ¬ f.op = 1) (h5 : ¬ f.op = 5) (hl : leafP f = false) {c : Bool} (hc : (c == (f.op == 6)) = false) (hk : 1 < f.kids.length) : casesP f c = (casesP (f.kids.getD 0 default) c).flatMap fun a => (casesP (f.kids.getD 1 default) c).map (joinedP a) := by
 rw [← casesPs_at c f.kids 0 (by omega), ← casesPs_at c f.kids 1 hk]
 cases f; rw [casesP]; simp only [Fact.op] at h1 h5 hc; rw [if_neg h1, if_neg h5, if_neg (by simp [hl]), if_neg (by simp [hc])]; rfl
/- what the walk over cases asks of a fact: a known operation, as many parts as it has, nothing too long -/
mutual
def okB : Fact → Bool
 | .mk op _ path _ _ kids => decide (1 ≤ op) && decide (op ≤ 7) && ((kids.length : Int) == kidsP op) && decide (path.length ≤ 1000) && okBs kids
def okBs : List Fact → Bool
 | [] => true
 | f :: r => okB f && okBs r
end
theorem okBs_mem : ∀ {l : List Fact}, okBs l = true → ∀ k ∈ l, okB k = true
 | [], _, k, hk => by cases hk
 | x :: r, h, k, hk => by
  rw [okBs, Bool.and_eq_true] at h
  rcases List.mem_cons.1 hk with e | hk
  ·rw [e]; exact h.1
  ·exact okBs_mem h.2 k hk
theorem ok_parts {f : Fact} (h : okB f = true) : 1 ≤ f.op ∧ f.op ≤ 7 ∧ (f.kids.length : Int) = kidsP f.op ∧ f.path.length ≤ 1000 ∧ ∀ k ∈ f.kids, okB k = true := by
 cases f; rw [okB] at h; simp only [Bool.and_eq_true, decide_eq_true_eq, beq_iff_eq] at h
 exact ⟨h.1.1.1.1, h.1.1.1.2, h.1.1.2, h.1.2, okBs_mem h.2⟩
mutual
def nodesN : Fact → Nat
 | .mk _ _ _ _ _ kids => 1 + nodesNs kids
def nodesNs : List Fact → Nat
 | [] => 0
 | f :: r => nodesN f + nodesNs r
end
theorem nodesNs_two : ∀ (l : List Fact), 1 < l.length → nodesN (l.getD 0 default) + nodesN (l.getD 1 default) ≤ nodesNs l
 | a :: b :: r, _ => by simp [nodesNs] <;> omega
 | [_], h => by simp at h
theorem nodesNs_one : ∀ (l : List Fact), 0 < l.length → nodesN (l.getD 0 default) ≤ nodesNs l
 | a :: r, _ => by simp [nodesNs]
theorem nodesN_eq (f : Fact) : nodesN f = 1 + nodesNs f.kids := by cases f; rw [nodesN]; rfl
theorem kids_two {f : Fact} (h : okB f = true) (h1 : ¬ f.op = 1) (h5 : ¬ f.op = 5) (hl : leafP f = false) : f.kids.length = 2 := by
 obtain ⟨a, b, c, _⟩ := ok_parts h
 simp only [leafP, Bool.and_eq_false_iff, decide_eq_false_iff_not] at hl
 have : f.op = 6 ∨ f.op = 7 := by omega
 rw [kidsP, if_neg h5, if_pos this] at c; omega
theorem kids_one {f : Fact} (h : okB f = true) (h5 : f.op = 5) : f.kids.length = 1 := by
 obtain ⟨a, b, c, _⟩ := ok_parts h
 rw [kidsP, if_pos h5] at c; omega
theorem cases_len : ∀ (f : Fact), okB f = true → ∀ c, ∀ l ∈ casesP f c, l.length ≤ nodesN f := by
 refine Fact.ind1 fun f ih hok c l hl => ?_
 have hp := ok_parts hok
 by_cases h1 : f.op = 1
 ·rw [cases_true h1] at hl
  cases c <;> simp at hl
  subst hl; simp
 by_cases h5 : f.op = 5
 ·have hk := kids_one hok h5
  rw [cases_not h5 (by omega)] at hl
  have := ih _ (getD_mem (by omega)) (hp.2.2.2.2 _ (getD_mem (by omega))) _ l hl
  have h2 := nodesNs_one f.kids (by omega)
  rw [nodesN_eq]; omega
 by_cases hlf : leafP f = true
 ·rw [cases_leaf h1 h5 hlf] at hl
  simp at hl; subst hl; rw [nodesN_eq]; simp
 ·have hlf' : leafP f = false := by simpa using hlf
  have hk := kids_two hok h1 h5 hlf'
  have n2 := nodesNs_two f.kids (by omega)
  have i0 := ih (f.kids.getD 0 default) (getD_mem (by omega)) (hp.2.2.2.2 _ (getD_mem (by omega))) c
  have i1 := ih (f.kids.getD 1 default) (getD_mem (by omega)) (hp.2.2.2.2 _ (getD_mem (by omega))) c
  rw [nodesN_eq]
  cases hc : (c == (f.op == 6)) with
  | true =>
   rw [cases_either h1 h5 hlf' hc (by omega)] at hl
   rcases List.mem_append.1 hl with h | h
   ·have := i0 l h; omega
   ·have := i1 l h; omega
  | false =>
   rw [cases_both h1 h5 hlf' hc (by omega)] at hl
   obtain ⟨a, ha, hl⟩ := List.mem_flatMap.1 hl
   obtain ⟨b, hb, rfl⟩ := List.mem_map.1 hl
   have := joined_len a b
   have := i0 a ha
   have := i1 b hb
   omega
def Ran {α : Type} (J Jx : List α → List Ent → Prop) (pre M : List α) (Hx : List Ent) (y : AV) (H' : List Ent) : Prop :=
 ∃ b H1, y = .b b ∧ H' = H1 ++ Hx ∧ (b = true → J (pre ++ M) H1) ∧ (b = false → ∃ q, q <+: M ∧ Jx (pre ++ q) H1)
theorem pre_map {α β : Type} {pre L : List β} {g : α → β} {M bs : List α} {b : α} (h : pre ++ M.map g <+: L) (hp : bs ++ [b] <+: M) : (pre ++ bs.map g) ++ [g b] <+: L := by
 refine List.IsPrefix.trans ?_ h
 rw [List.append_assoc]
 refine (List.prefix_append_right_inj pre).2 ?_
 have := hp.map g
 simpa using this
theorem pre_flat {α β : Type} {pre L : List β} {g : α → List β} {M bs : List α} {b : α} (h : pre ++ M.flatMap g <+: L) (hp : bs ++ [b] <+: M) : (pre ++ bs.flatMap g) ++ g b <+: L := by
 refine List.IsPrefix.trans ?_ h
 rw [List.append_assoc]
 refine (List.prefix_append_right_inj pre).2 ?_
 obtain ⟨t, rfl⟩ := hp
 exact ⟨t.flatMap g, by simp⟩
theorem pre_mem {α : Type} {bs M : List α} {b : α} (hp : bs ++ [b] <+: M) : b ∈ M := hp.subset (by simp)
theorem b136 {B : Nat} {g : Fn} {gs gc : List AV} {L : List (List FLit)} {F : List Ent → Prop} {J Jx : List (List FLit) → List Ent → Prop} (hg : CbOk B Tryz.prog (.fn g gs gc) AV.lits L F J Jx) (a b : List FLit) (ha : a.length ≤ 1000) (hb : b.length ≤ 1000) (pre : List (List FLit)) (hL : pre ++ [joinedP a b] <+: L) (H Hx : List Ent) (hF : F Hx) (hJ : J pre H) :
  BCall B Tryz.prog 136 [AV.lits b, .ptr [.fn g gs gc], .ptr [AV.lits a]] (H ++ Hx) (fun y H' => ∃ b' H1, y = .b b' ∧ H' = H1 ++ Hx ∧ (b' = true → J (pre ++ [joinedP a b]) H1) ∧ (b' = false → Jx (pre ++ [joinedP a b]) H1)) (fun _ => False) := by
 refine BCall.of (n := 10) Tryz.func136 rfl (by kernel_rfl) rfl rfl (fun I w0 => ?_)
 refine S2 ?_; refine Oas ?_; refine S3 ?_
 refine CW.dp mixed ?_
 refine DP.anyC 0 4 10 rfl (by decide +kernel) rfl rfl (by decide +kernel) ?_
 refine Ald ?_; refine Ald ?_; refine Amv ?_
 refine AD.popC rfl rfl rfl (POp.call (.mk' rfl rfl rfl rfl rfl) (p137 a b (by omega) (by omega))) ?_
 refine AD.nil ?_
 refine DP.tailC 4 (by decide +kernel) rfl ?_
 refine OL.vcallC rfl rfl rfl rfl rfl rfl rfl rfl (AVleL.refl _) (hg pre (joinedP a b) H Hx hL hF hJ) ?_
 rintro _ _ ⟨bb, H1, rfl, rfl, e1, e2⟩
 refine Oas ?_; refine S3 ?_
 refine Done.retR (rs := [.tmp 4]) rfl (.tmp rfl (.nil)) (AVleL.refl _) (by repeat (first | exact List.Sublist.refl _ | refine List.Sublist.cons _ ?_)) ?_
 exact ⟨bb, H1, rfl, rfl, e1, e2⟩
def WalkC (B : Nat) (f : Fact) (c : Bool) : Prop := ∀ (wb : Nat) (g : Fn) (gs gc : List AV) (L : List (List FLit)) (F : List Ent → Prop) (J Jx : List (List FLit) → List Ent → Prop), CbOk B Tryz.prog (.fn g gs gc) AV.lits L F J Jx → ∀ (pre : List (List FLit)), pre ++ casesP f c <+: L →
 ∀ (H Hx : List Ent), Ent.blk wb 170 [.fn (.func 133) [] [.p wb 0]] ∈ Hx → F Hx → J pre H → BCall B Tryz.prog 133 [AV.fact f, .b c, .fn g gs gc, .p wb 0] (H ++ Hx) (Ran J Jx pre (casesP f c) Hx) (fun _ => False)
theorem b135 {B : Nat} {f : Fact} {c : Bool} (hk : 1 < f.kids.length) (ih : WalkC B (f.kids.getD 1 default) c) (hlen : ∀ l ∈ casesP (f.kids.getD 1 default) c, l.length ≤ 1000) {wb : Nat} {g : Fn} {gs gc : List AV} {L : List (List FLit)} {F : List Ent → Prop} {J Jx : List (List FLit) → List Ent → Prop} (hg : CbOk B Tryz.prog (.fn g gs gc) AV.lits L F J Jx)
  (a : List FLit) (ha : a.length ≤ 1000) (pre : List (List FLit)) (hL : pre ++ (casesP (f.kids.getD 1 default) c).map (joinedP a) <+: L) (H Hx : List Ent) (hm : Ent.blk wb 170 [.fn (.func 133) [] [.p wb 0]] ∈ Hx) (hF : F Hx) (hJ : J pre H) :
  BCall B Tryz.prog 135 [AV.lits a, .p wb 0, .ptr (Fcells f), .ptr [.b c], .ptr [.fn g gs gc]] (H ++ Hx) (Ran J Jx pre ((casesP (f.kids.getD 1 default) c).map (joinedP a)) Hx) (fun _ => False) := by
 refine BCall.of (n := 15) Tryz.func135 rfl (by kernel_rfl) rfl rfl (fun I w0 => ?_)
 have hcb : CbOk B Tryz.prog (.fn (.func 136) [] [.ptr [.fn g gs gc], .ptr [AV.lits a]]) AV.lits (casesP (f.kids.getD 1 default) c) F (fun bs H => J (pre ++ bs.map (joinedP a)) H) (fun bs H => Jx (pre ++ bs.map (joinedP a)) H) := by
  intro bs b H1 Hy hp hF1 hJ1
  refine VCall.mono (VCall.fnB (b136 hg a b ha (hlen b (pre_mem hp)) (pre ++ bs.map (joinedP a)) (pre_map hL hp) H1 Hy hF1 hJ1)) ?_ (fun _ h => h)
  rintro _ _ ⟨bb, H2, rfl, rfl, e1, e2⟩
  exact ⟨bb, H2, rfl, rfl, fun h => by simpa using e1 h, fun h => by simpa using e2 h⟩
 refine S2 ?_; refine Obx ?_; refine Oas ?_; refine S3 ?_
 refine CW.dp mixed ?_
 refine DP.anyC 0 7 15 rfl (by decide +kernel) rfl rfl (by decide +kernel) ?_
 refine AD.popC rfl rfl rfl ((by first | exact POp.ld1 rfl rfl rfl rfl | (apply POp.ld1H rfl rfl rfl; (case hm => exact List.mem_append_right _ hm); (case hy => rfl)))) ?_
 refine Afa ?_; refine Ald ?_; refine Aix ?_; refine Ala ?_; refine Ald ?_; refine Amf ?_
 refine AD.nil ?_
 refine DP.tailC 7 (by decide +kernel) rfl ?_
 refine OL.bcallC rfl rfl rfl (.mk' rfl rfl rfl rfl rfl) (ih wb (.func 136) [] [.ptr [.fn g gs gc], .ptr [AV.lits a]] _ _ _ _ hcb [] (List.prefix_refl _) H Hx hm hF (by simpa using hJ)) ?_
 rintro _ _ ⟨bb, H1, rfl, rfl, e1, e2⟩
 refine Oas ?_; refine S3 ?_
 refine Done.retR (rs := [.tmp 6]) rfl (.tmp rfl (.nil)) (AVleL.refl _) (by repeat (first | exact List.Sublist.refl _ | refine List.Sublist.cons _ ?_)) ?_
 exact ⟨bb, H1, rfl, rfl, fun h => by simpa using e1 h, fun h => by obtain ⟨q, hq, hx⟩ := e2 h; exact ⟨q.map (joinedP a), hq.map _, by simpa using hx⟩⟩
theorem ran_nil {α : Type} {J Jx : List α → List Ent → Prop} {pre : List α} {Hx H : List Ent} (h : J pre H) : Ran J Jx pre [] Hx (.b true) (H ++ Hx) := ⟨true, H, rfl, rfl, fun _ => by simpa using h, fun h => by cases h⟩
theorem ran_one {α : Type} {J Jx : List α → List Ent → Prop} {pre : List α} {x : α} {Hx H' : List Ent} {y : AV} (h : ∃ b H1, y = .b b ∧ H' = H1 ++ Hx ∧ (b = true → J (pre ++ [x]) H1) ∧ (b = false → Jx (pre ++ [x]) H1)) : Ran J Jx pre [x] Hx y H' := by
 obtain ⟨b, H1, rfl, rfl, h1, h2⟩ := h
 exact ⟨b, H1, rfl, rfl, h1, fun h => ⟨[x], List.prefix_refl _, h2 h⟩⟩
theorem true_call {c : Bool} {J Jx : List (List FLit) → List Ent → Prop} {pre : List (List FLit)} {H Hx H' : List Ent} {y : AV} (hJ : J pre H) (h1 : (!c) = true → ∃ b H1, y = .b b ∧ H' = H1 ++ Hx ∧ (b = true → J (pre ++ [[]]) H1) ∧ (b = false → Jx (pre ++ [[]]) H1)) (h2 : (!c) = false → y = .b false ∧ H' = H ++ Hx) :
  ∃ bb H1, y = .b bb ∧ H' = H1 ++ Hx ∧ Ran J Jx pre (if c then [] else [[]]) Hx (.b (bif c then true else bb)) H' := by
 cases c with
 | true => obtain ⟨rfl, rfl⟩ := h2 rfl; exact ⟨false, H, rfl, rfl, ran_nil hJ⟩
 | false =>
  have h := h1 rfl
  obtain ⟨b, H1, rfl, rfl, e⟩ := h
  exact ⟨b, H1, rfl, rfl, ran_one ⟨b, H1, rfl, rfl, e⟩⟩
theorem ran_two {α : Type} {J Jx : List α → List Ent → Prop} {pre M N : List α} {Hx H1 H' : List Ent} {b1 : Bool} {y : AV} (e1 : b1 = true → J (pre ++ M) H1) (e2 : b1 = false → ∃ q, q <+: M ∧ Jx (pre ++ q) H1) (h1 : b1 = true → Ran J Jx (pre ++ M) N Hx y H') (h2 : b1 = false → y = .b false ∧ H' = H1 ++ Hx) :
  ∃ bb, y = .b bb ∧ Ran J Jx pre (M ++ N) Hx (.b (bif b1 then bb else false)) H' := by
 cases b1 with
 | true =>
  obtain ⟨b, H2, rfl, rfl, f1, f2⟩ := h1 rfl
  refine ⟨b, rfl, ⟨b, H2, rfl, rfl, fun h => by rw [← List.append_assoc]; exact f1 h, fun h => ?_⟩⟩
  obtain ⟨q, hq, hx⟩ := f2 h
  exact ⟨M ++ q, (List.prefix_append_right_inj M).2 hq, by rw [← List.append_assoc]; exact hx⟩
 | false =>
  obtain ⟨rfl, rfl⟩ := h2 rfl
  obtain ⟨q, hq, hx⟩ := e2 rfl
  exact ⟨false, rfl, ⟨false, H1, rfl, rfl, fun h => (by cases h), fun _ => ⟨q, hq.trans (List.prefix_append _ _), hx⟩⟩⟩
theorem ran_flat {α β : Type} {J Jx : List β → List Ent → Prop} {pre : List β} {M : List α} {g : α → List β} {Hx H' : List Ent} {y : AV} (h : Ran (fun bs H => J (pre ++ bs.flatMap g) H) (fun bs H => ∃ q, q <+: bs.flatMap g ∧ Jx (pre ++ q) H) [] M Hx y H') : Ran J Jx pre (M.flatMap g) Hx y H' := by
 obtain ⟨b, H1, rfl, rfl, e1, e2⟩ := h
 refine ⟨b, H1, rfl, rfl, fun h => by simpa using e1 h, fun h => ?_⟩
 obtain ⟨q, ⟨t, rfl⟩, q', hq', hx⟩ := e2 h
 exact ⟨q', hq'.trans ⟨t.flatMap g, by simp⟩, hx⟩
theorem b133_step {B : Nat} {f : Fact} (hok : okB f = true) (hn : nodesN f ≤ 1000) (ih : ∀ k ∈ f.kids, ∀ c, WalkC B k c) (c : Bool) : WalkC B f c := by
 intro wb g gs gc L F J Jx hg pre hL H Hx hm hF hJ
 refine BCall.of (n := 71) Tryz.func133 rfl (by kernel_rfl) rfl rfl (fun I w0 => ?_)
 have hp := ok_parts hok
 refine S2 ?_; refine Obx ?_; refine Obx ?_; refine Obx ?_; refine Oas ?_; refine S6 ?_; refine Ofa ?_; refine Old ?_; refine Ocm ?_; refine Oas ?_; refine S2 ?_
 refine CW.cond rfl (fun h0 => ?_) (fun h0 => ?_)
 ·
  replace h0 := nm h0
  rw [cases_true h0] at hL ⊢
  refine S2 ?_; refine Old ?_; refine Omv ?_; refine Pld ?_
  refine OL.vcallG rfl rfl rfl rfl rfl rfl rfl rfl (fun h => h) rfl (fun _ => rfl) (.cons (AVle.nil 7) .nil) (fun h => hg pre [] H Hx (by rw [Bool.not_eq_true'] at h; subst h; exact hL) hF hJ) ?_
  intro y H' hy1 hy2
  obtain ⟨bb, H1, rfl, rfl, hr⟩ := true_call hJ hy1 hy2
  refine Opk ?_; refine Oas ?_; refine S5 ?_
  refine Done.retR (rs := [.tmp 7]) rfl (.tmp rfl (.nil)) (AVleL.refl _) (by repeat (first | exact List.Sublist.refl _ | refine List.Sublist.cons _ ?_)) ?_
  exact hr
 ·
  replace h0 := nm h0
  refine S2 ?_; refine Ofa ?_; refine Old ?_; refine Ocm ?_; refine Oas ?_; refine S2 ?_
  refine CW.cond rfl (fun h1 => ?_) (fun h1 => ?_)
  ·
   replace h1 := nm h1
   have hk1 := kids_one hok h1
   rw [cases_not h1 (by omega)] at hL ⊢
   refine S1 ?_
   refine CW.dp mixed ?_
   refine DP.anyC 0 8 71 rfl (by decide +kernel) rfl rfl (by decide +kernel) ?_
   refine AD.popC rfl rfl rfl ((by first | exact POp.ld1 rfl rfl rfl rfl | (apply POp.ld1H rfl rfl rfl; (case hm => exact List.mem_append_right _ hm); (case hy => rfl)))) ?_
   refine Afa ?_; refine Ald ?_; refine Aix ?_; refine Ala ?_; refine Ald ?_; refine Ant ?_; refine Ald ?_
   refine AD.nil ?_
   refine DP.tailC 8 (by decide +kernel) rfl ?_
   refine OL.bcallC rfl rfl rfl (.mk' rfl rfl rfl rfl rfl) (ih _ (getD_mem (by omega)) (!c) wb g gs gc L F J Jx hg pre hL H Hx hm hF hJ) ?_
   intro y H' hr
   obtain ⟨bb, H1, rfl, rfl, hr⟩ := hr
   refine Oas ?_; refine S5 ?_
   refine Done.retR (rs := [.tmp 7]) rfl (.tmp rfl (.nil)) (AVleL.refl _) (by repeat (first | exact List.Sublist.refl _ | refine List.Sublist.cons _ ?_)) ?_
   exact ⟨bb, H1, rfl, rfl, hr⟩
  ·
   replace h1 := nm h1
   refine S2 ?_; refine Ola ?_
   refine OL.popC rfl rfl rfl (POp.call (.mk' rfl rfl rfl rfl rfl) ((p134 _))) ?_
   refine Oas ?_; refine S2 ?_
   refine CW.cond rfl (fun h2 => ?_) (fun h2 => ?_)
   ·
    have hlf : leafP f = true := h2
    rw [cases_leaf h0 h1 hlf] at hL ⊢
    refine S2 ?_; refine Old ?_; refine Ola ?_; refine Old ?_; refine Obd ?_
    refine OL.popC rfl rfl rfl (POp.row rfl rfl (by first | rfl | simp_all [strip]) rfl rfl rfl rfl rfl rfl) ?_
    refine OL.vcallC rfl rfl rfl rfl rfl rfl rfl rfl (.cons (.refl _) .nil) (hg pre [⟨f, c⟩] H Hx hL hF hJ) ?_
    intro y H' hr
    obtain ⟨bb, H1, rfl, rfl, hr⟩ := hr
    refine Oas ?_; refine S5 ?_
    refine Done.retR (rs := [.tmp 7]) rfl (.tmp rfl (.nil)) (AVleL.refl _) (by repeat (first | exact List.Sublist.refl _ | refine List.Sublist.cons _ ?_)) ?_
    exact ran_one ⟨bb, H1, rfl, rfl, hr⟩
   ·
    have hlf : leafP f = false := h2
    have hk2 := kids_two hok h0 h1 hlf
    refine S2 ?_; refine Old ?_; refine Ofa ?_; refine Old ?_; refine Ocm ?_; refine Oeb ?_; refine Oas ?_; refine S2 ?_
    refine CW.cond rfl (fun h3 => ?_) (fun h3 => ?_)
    ·
     rw [cases_either h0 h1 hlf h3 (by omega)] at hL ⊢
     refine S1 ?_
     refine CW.dp mixed ?_
     refine DP.anyC 0 7 71 rfl (by decide +kernel) rfl rfl (by decide +kernel) ?_
     refine AD.popC rfl rfl rfl ((by first | exact POp.ld1 rfl rfl rfl rfl | (apply POp.ld1H rfl rfl rfl; (case hm => exact List.mem_append_right _ hm); (case hy => rfl)))) ?_
     refine Afa ?_; refine Ald ?_; refine Aix ?_; refine Ala ?_; refine Ald ?_; refine Ald ?_
     refine AD.nil ?_
     refine DP.one (k := 7) (by decide +kernel) rfl ?_
     refine OL.bcallC rfl rfl rfl (.mk' rfl rfl rfl rfl rfl) (ih _ (getD_mem (by omega)) c wb g gs gc L F J Jx hg pre ((by rw [← List.append_assoc] at hL; exact (List.prefix_append _ _).trans hL)) H Hx hm hF hJ) ?_
     intro y H' hr
     obtain ⟨b1, H1, rfl, rfl, e1, e2⟩ := hr
     refine OL.nil (Done.dp ?_)
     refine DP.one (k := 8) (by decide +kernel) rfl ?_
     refine Omv ?_
     refine OL.nil (Done.dp ?_)
     refine DP.anyC 9 16 71 rfl (by decide +kernel) rfl rfl (by decide +kernel) ?_
     refine AD.guardC rfl rfl rfl rfl rfl (fun hg => (by first | exact POp.ld1 rfl rfl rfl rfl | (apply POp.ld1H rfl rfl rfl; (case hm => exact List.mem_append_right _ hm); (case hy => rfl)))) ?_
     refine AD.guardC rfl rfl rfl rfl rfl (fun hg => (by first | exact POp.fa rfl rfl rfl rfl | exact POp.faP rfl rfl rfl rfl)) ?_
     refine AD.guardC rfl rfl rfl rfl rfl (fun hg => (by first | exact POp.ld1 rfl rfl (gd hg) rfl | (apply POp.ld1H rfl rfl (gd hg); (case hm => repeat (first | exact .head _ | refine .tail _ ?_)); (case hy => rfl)))) ?_
     refine AD.guardC rfl rfl rfl rfl rfl (fun hg => (by first | exact POp.ixM rfl rfl (gd hg) rfl rfl (by omega) | exact POp.ixI rfl rfl (gd hg) rfl rfl (by omega))) ?_
     refine AD.guardC rfl rfl rfl rfl rfl (fun hg => (by first | exact POp.ldA rfl rfl (gd hg) rfl | (apply POp.ldAH rfl rfl (gd hg); (case hm => repeat (first | exact .head _ | refine .tail _ ?_)); (case hy => rfl); (case hn => rfl)))) ?_
     refine AD.guardC rfl rfl rfl rfl rfl (fun hg => (by first | exact POp.ld1 rfl rfl rfl rfl | (apply POp.ld1H rfl rfl rfl; (case hm => repeat (first | exact .head _ | refine .tail _ ?_)); (case hy => rfl)))) ?_
     refine AD.guardC rfl rfl rfl rfl rfl (fun hg => (by first | exact POp.ld1 rfl rfl rfl rfl | (apply POp.ld1H rfl rfl rfl; (case hm => repeat (first | exact .head _ | refine .tail _ ?_)); (case hy => rfl)))) ?_
     refine AD.nil ?_
     refine DP.tailC 16 (by decide +kernel) rfl ?_
     refine OL.bcallG rfl rfl rfl rfl rfl rfl (fun hg => .mk' rfl rfl hg rfl (by simp_all [strip])) (fun hg1 => ih _ (getD_mem (by omega)) c wb g gs gc L F J Jx hg _ (by rw [List.append_assoc]; exact hL) H1 Hx hm hF (e1 hg1)) ?_
     intro y H' hy1 hy2
     obtain ⟨bb, rfl, hr⟩ := ran_two e1 e2 hy1 hy2
     obtain ⟨b2, H2, hb2, rfl, hr2⟩ := hr
     refine Opk ?_; refine Oas ?_; refine S5 ?_
     refine Done.retR (rs := [.tmp 7]) rfl (.tmp rfl (.nil)) (AVleL.refl _) (by repeat (first | exact List.Sublist.refl _ | refine List.Sublist.cons _ ?_)) ?_
     exact ⟨b2, H2, hb2, rfl, hr2⟩
    ·
     rw [cases_both h0 h1 hlf h3 (by omega)] at hL ⊢
     refine S4 ?_
     have hcb : CbOk B Tryz.prog (.fn (.func 135) [] [.p wb 0, .ptr (Fcells f), .ptr [.b c], .ptr [.fn g gs gc]]) AV.lits (casesP (f.kids.getD 0 default) c) (fun Hx => F Hx ∧ Ent.blk wb 170 [.fn (.func 133) [] [.p wb 0]] ∈ Hx) (fun bs H => J (pre ++ bs.flatMap fun a => (casesP (f.kids.getD 1 default) c).map (joinedP a)) H) (fun bs H => ∃ q, q <+: (bs.flatMap fun a => (casesP (f.kids.getD 1 default) c).map (joinedP a)) ∧ Jx (pre ++ q) H) := by
      intro bs a H1 Hy hpx hF1 hJ1
      have l0 : ∀ i, i < 2 → ∀ l ∈ casesP (f.kids.getD i default) c, l.length ≤ 1000 := fun i hi l hl => by
       have h1 := cases_len _ (hp.2.2.2.2 _ (getD_mem (by omega))) c l hl
       have h2 := nodesNs_two f.kids (by omega)
       have h3 := nodesN_eq f
       have : i = 0 ∨ i = 1 := by omega
       rcases this with rfl | rfl <;> omega
      refine VCall.mono (VCall.fnB (b135 (by omega) (ih _ (getD_mem (by omega)) c) (l0 1 (by omega)) hg a (l0 0 (by omega) a (pre_mem hpx)) _ (pre_flat (g := fun a => (casesP (f.kids.getD 1 default) c).map (joinedP a)) hL hpx) H1 Hy hF1.2 hF1.1 hJ1)) ?_ (fun _ h => h)
      rintro _ _ ⟨bb, H2, rfl, rfl, e1, e2⟩
      refine ⟨bb, H2, rfl, rfl, fun h => by simpa using e1 h, fun h => ?_⟩
      obtain ⟨q, hq, hx⟩ := e2 h
      exact ⟨(bs.flatMap fun a => (casesP (f.kids.getD 1 default) c).map (joinedP a)) ++ q, by rw [List.flatMap_append]; exact (List.prefix_append_right_inj _).2 (by simpa using hq), by simpa using hx⟩
     refine CW.dp mixed ?_
     refine DP.anyC 0 7 71 rfl (by decide +kernel) rfl rfl (by decide +kernel) ?_
     refine AD.popC rfl rfl rfl ((by first | exact POp.ld1 rfl rfl rfl rfl | (apply POp.ld1H rfl rfl rfl; (case hm => exact List.mem_append_right _ hm); (case hy => rfl)))) ?_
     refine Afa ?_; refine Ald ?_; refine Aix ?_; refine Ala ?_; refine Ald ?_; refine Amf ?_
     refine AD.nil ?_
     refine DP.tailC 7 (by decide +kernel) rfl ?_
     refine OL.bcallC rfl rfl rfl (.mk' rfl rfl rfl rfl rfl) (ih _ (getD_mem (by omega)) c wb (.func 135) [] [.p wb 0, .ptr (Fcells f), .ptr [.b c], .ptr [.fn g gs gc]] _ _ _ _ hcb [] (List.prefix_refl _) H Hx hm ⟨hF, hm⟩ (by simpa using hJ)) ?_
     intro y Hn hr
     obtain ⟨bb, H1, rfl, rfl, e1, e2⟩ := ran_flat hr
     refine Oas ?_; refine S3 ?_
     refine Done.retR (rs := [.tmp 7]) rfl (.tmp rfl (.nil)) (AVleL.refl _) (by repeat (first | exact List.Sublist.refl _ | refine List.Sublist.cons _ ?_)) ?_
     exact ⟨bb, H1, rfl, rfl, e1, e2⟩
theorem b133 {B : Nat} (f : Fact) (hok : okB f = true) (hn : nodesN f ≤ 1000) (c : Bool) : WalkC B f c := by
 refine Fact.ind1 (P := fun f => okB f = true → nodesN f ≤ 1000 → ∀ c, WalkC B f c) (fun f ih hok hn c => ?_) f hok hn c
 refine b133_step hok hn (fun k hk c => ih k hk ((ok_parts hok).2.2.2.2 k hk) ?_ c) c
 have : ∀ l : List Fact, k ∈ l → nodesN k ≤ nodesNs l := by
  intro l
  induction l with
  | nil => intro h; cases h
  | cons x r ihl =>
   intro h
   rw [nodesNs]
   rcases List.mem_cons.1 h with e | h
   ·rw [e]; omega
   ·have := ihl h; omega
 have h1 := this f.kids hk
 have h2 := nodesN_eq f
 omega
theorem p81 (f : Fact) (c : Bool) : PCall Tryz.prog 81 [AV.fact f, .b c] (.fn (.func 132) [] [.ptr (Fcells f), .ptr [.b c]]) := by
 intro H
 refine ACall.mk' (n := 6) Tryz.func81 rfl (by kernel_rfl) rfl rfl (fun B I w0 => ?_)
 refine S2 ?_; refine Obx ?_; refine Obx ?_; refine Oas ?_; refine S4 ?_; refine Omf ?_; refine Oas ?_; refine S3 ?_
 refine r1 4 (H) ?_
 exact ⟨by first | rfl | exact retI (by simp_all) | exact retB (by simp_all) | simp_all, rfl⟩
theorem b132 {B : Nat} (f : Fact) (hok : okB f = true) (hn : nodesN f ≤ 1000) (c : Bool) {g : Fn} {gs gc : List AV} {J Jx : List (List FLit) → List Ent → Prop} (hg : CbOk B Tryz.prog (.fn g gs gc) AV.lits (casesP f c) (fun _ => True) J Jx) (H Hx : List Ent) (hJ : J [] H) :
  BCall B Tryz.prog 132 [.fn g gs gc, .ptr (Fcells f), .ptr [.b c]] (H ++ Hx) (fun _ H' => ∃ H1, H' = H1 ++ Hx ∧ (J (casesP f c) H1 ∨ ∃ pre, pre <+: casesP f c ∧ Jx pre H1)) (fun _ => False) := by
 refine BCall.of (n := 11) Tryz.func132 rfl (by kernel_rfl) rfl rfl (fun I w0 => ?_)
 refine S2 ?_
 refine OL.alC rfl rfl rfl rfl (fun b0 => ?_)
 refine S4 ?_; refine Omf ?_; refine Sto ?_; refine S2 ?_
 refine CW.perm (H' := H ++ (.blk b0 170 [.fn (.func 133) [] [.p b0 0]] :: Hx)) List.perm_middle.symm ?_
 refine S1 ?_
 refine OL.popC rfl rfl rfl ((by first | exact POp.ld1 rfl rfl rfl rfl | (apply POp.ld1H rfl rfl rfl; (case hm => exact List.mem_append_right _ (.head _)); (case hy => rfl)))) ?_
 refine Ola ?_; refine Old ?_; refine Omv ?_
 refine OL.bcallC rfl rfl rfl (.mk' rfl rfl rfl rfl rfl) (b133 f hok hn c b0 g gs gc _ _ _ _ hg [] (List.prefix_refl _) H (.blk b0 170 [.fn (.func 133) [] [.p b0 0]] :: Hx) (.head _) trivial hJ) ?_
 rintro _ _ ⟨bb, H1, rfl, rfl, e1, e2⟩
 refine S1 ?_
 refine Done.norR (rs := []) (H' := H1 ++ Hx) rfl (.nil) (AVleL.refl _) (by exact (List.Sublist.refl H1).append (List.sublist_cons_self _ _)) ?_
 exact ⟨H1, rfl, by cases bb with | true => exact .inl (e1 rfl) | false => exact .inr (e2 rfl)⟩
theorem seq132 {B : Nat} (f : Fact) (hok : okB f = true) (hn : nodesN f ≤ 1000) (c : Bool) : SeqOk B Tryz.prog (.fn (.func 132) [] [.ptr (Fcells f), .ptr [.b c]]) AV.lits (casesP f c) :=
 fun J Jx g gs gc hg H Hx hJ => VCall.fnB (b132 f hok hn c hg H Hx hJ)
def spotCells (arg : Int) (path : List Int) : List AV := [.i arg, .i path.length, .i (path.getD 0 0), .i (path.getD 1 0)]
abbrev AV.spot (arg : Int) (path : List Int) : AV := .agg (spotCells arg path)
theorem p171a (arg slot : Int) : PCall Tryz.prog 171 [AV.spot arg [], .i slot] (AV.spot arg [slot]) := by
 intro H
 refine ACall.mk' (n := 15) Tryz.func171 rfl (by kernel_rfl) rfl rfl (fun B I w0 => ?_)
 refine S2 ?_
 refine OL.boxC rfl rfl rfl rfl rfl rfl rfl (fun b0 => ?_)
 refine OL.alC rfl rfl rfl rfl (fun b1 => ?_)
 refine S4 ?_; refine Ofa ?_; refine Old ?_; refine Omv ?_; refine Ofa ?_
 refine OL.popC rfl rfl rfl ((by first | exact POp.ia rfl rfl rfl rfl rfl (by simp) | exact POp.iaP rfl rfl rfl rfl rfl (by simp))) ?_
 refine Sto ?_; refine S4 ?_; refine Ofa ?_; refine Old ?_
 refine OL.popC rfl rfl rfl (POp.arith rfl rfl rfl rfl rfl rfl (wrap64 (by simp))) ?_
 refine Ofa ?_; refine Sto ?_; refine S4 ?_; refine Ola ?_; refine Sto ?_; refine S3 ?_
 refine Done.retR (rs := [.cell 4 158]) (H' := H) rfl ((by first | exact .cellA inferInstance rfl (by repeat (first | exact .head _ | refine .tail _ ?_)) rfl rfl (.nil) | exact .ptrA inferInstance rfl rfl (.nil))) (AVleL.refl _) (by repeat (first | exact List.Sublist.refl _ | refine List.Sublist.cons _ ?_)) ?_
 exact ⟨by first | rfl | exact retI (by simp_all) | exact retB (by simp_all) | simp_all, rfl⟩
theorem p171b (arg a slot : Int) : PCall Tryz.prog 171 [AV.spot arg [a], .i slot] (AV.spot arg [a, slot]) := by
 intro H
 refine ACall.mk' (n := 15) Tryz.func171 rfl (by kernel_rfl) rfl rfl (fun B I w0 => ?_)
 refine S2 ?_
 refine OL.boxC rfl rfl rfl rfl rfl rfl rfl (fun b0 => ?_)
 refine OL.alC rfl rfl rfl rfl (fun b1 => ?_)
 refine S4 ?_; refine Ofa ?_; refine Old ?_; refine Omv ?_; refine Ofa ?_
 refine OL.popC rfl rfl rfl ((by first | exact POp.ia rfl rfl rfl rfl rfl (by simp) | exact POp.iaP rfl rfl rfl rfl rfl (by simp))) ?_
 refine Sto ?_; refine S4 ?_; refine Ofa ?_; refine Old ?_
 refine OL.popC rfl rfl rfl (POp.arith rfl rfl rfl rfl rfl rfl (wrap64 (by simp))) ?_
 refine Ofa ?_; refine Sto ?_; refine S4 ?_; refine Ola ?_; refine Sto ?_; refine S3 ?_
 refine Done.retR (rs := [.cell 4 158]) (H' := H) rfl ((by first | exact .cellA inferInstance rfl (by repeat (first | exact .head _ | refine .tail _ ?_)) rfl rfl (.nil) | exact .ptrA inferInstance rfl rfl (.nil))) (AVleL.refl _) (by repeat (first | exact List.Sublist.refl _ | refine List.Sublist.cons _ ?_)) ?_
 exact ⟨by first | rfl | exact retI (by simp_all) | exact retB (by simp_all) | simp_all, rfl⟩
theorem p171 (arg : Int) (path : List Int) (slot : Int) (h : path.length < 2) : PCall Tryz.prog 171 [AV.spot arg path, .i slot] (AV.spot arg (path ++ [slot])) := by
 match path, h with
 | [], _ => exact p171a arg slot
 | [a], _ => exact p171b arg a slot
structure Kn where
 low : Int
 high : Int
 nots : List Int
 must : Nat
 no : Nat
 whole : Bool
 needed : Bool
 slots : List Int
def Kcells (k : Kn) : List AV := [.i k.low, .i k.high, AV.ints k.nots, AV.set k.must, AV.set k.no, .b k.whole, .b k.needed, AV.ints k.slots]
def kn0 : Kn := ⟨-1000000000, 1000000000, [], 0, 0, false, false, []⟩
def keyV (arg : Int) (path : List Int) : List Value := [.int .i64 arg, .int .i64 path.length, .int .i64 (path.getD 0 0), .int .i64 (path.getD 1 0)]
abbrev keyS (arg : Int) (path : List Int) : Value := .agg (keyV arg path).toArray
abbrev sceneP (W : FW) (mb : Nat) : AV := .ptr [Wptr W, .val (.map (some mb))]
abbrev sceneH (mb : Nat) (kn : Value → Kn) : Ent := .lmap mb (goodKey Tryz.prog 158) (fun v => Kcells (kn v)) (Kcells kn0)
theorem kn0_le {kn : Value → Kn} {key : Value} (habs : (fun v => Kcells (kn v)) key = Kcells kn0) : AVle (.ptr [.i (-1000000000), .i 1000000000, .val (.slice none 0 0), .val (.int .u64 0), .val (.int .u64 0), .val (.bool false), .val (.bool false), .val (.slice none 0 0)]) (.ptr ((fun v => Kcells (kn v)) key)) := by
 rw [habs]
 exact AVle.ptr (.cons (.refl _) (.cons (.refl _) (.cons (AVle.nil _) (.cons (.refl _) (.cons (.refl _) (.cons (.refl _) (.cons (.refl _) (.cons (AVle.nil _) .nil))))))))
theorem p170 (W : FW) (mb : Nat) (kn : Value → Kn) (arg : Int) (path : List Int) (hgood : goodKey Tryz.prog 158 (keyS arg path)) :
  PCallIn Tryz.prog [sceneH mb kn] 170 [sceneP W mb, AV.spot arg path] (.ptr (Kcells (kn (keyS arg path)))) := by
 intro H hm
 replace hm := hm _ (.head _)
 refine ACall.mk' (n := 28) Tryz.func170 rfl (by kernel_rfl) rfl rfl (fun B I w0 => ?_)
 refine S2 ?_; refine Obx ?_; refine Oas ?_; refine S3 ?_
 refine CW.dp mixed ?_
 refine DP.anyC 0 5 28 rfl (by decide +kernel) rfl rfl (by decide +kernel) ?_
 refine Amv ?_; refine Anc ?_; refine Afa ?_; refine Ald ?_; refine Ala ?_
 refine AD.nil ?_
 refine DP.one (k := 5) (by decide +kernel) rfl ?_
 refine OL.lookupL (vs := keyV arg path) rfl rfl rfl rfl rfl rfl rfl rfl (AVle.refl _) hm hgood ?_ (fun habs => ?_)
 ·
  refine OL.nil (Done.dp ?_)
  refine DP.one (k := 6) (by decide +kernel) rfl ?_
  refine Omv ?_
  refine OL.nil (Done.dp ?_)
  refine DP.anyC 7 10 28 rfl (by decide +kernel) rfl rfl (by decide +kernel) ?_
  refine Aex ?_; refine Aex ?_; refine Aas ?_
  refine AD.nil ?_
  refine DP.tailC 10 (by decide +kernel) rfl ?_
  refine Oas ?_; refine S5 ?_; refine Omv ?_; refine Ont ?_; refine S2 ?_
  refine CW.cond rfl (fun h0 => ?_) (fun h0 => ?_)
  ·
   exact absurd h0 (by simp)
  ·
   replace h0 := nm h0
   refine S4 ?_; refine Omv ?_; refine Oas ?_; refine S3 ?_
   refine Done.retR (rs := [.tmp 4]) (H' := H) rfl (.tmp rfl (.nil)) (.cons (.refl _) .nil) (by repeat (first | exact List.Sublist.refl _ | refine List.Sublist.cons _ ?_)) ?_
   exact ⟨by first | rfl | exact retI (by simp_all) | exact retB (by simp_all) | simp_all, rfl⟩
 ·
  refine OL.nil (Done.dp ?_)
  refine DP.one (k := 6) (by decide +kernel) rfl ?_
  refine Omv ?_
  refine OL.nil (Done.dp ?_)
  refine DP.anyC 7 10 28 rfl (by decide +kernel) rfl rfl (by decide +kernel) ?_
  refine Aex ?_; refine Aex ?_; refine Aas ?_
  refine AD.nil ?_
  refine DP.tailC 10 (by decide +kernel) rfl ?_
  refine Oas ?_; refine S5 ?_; refine Omv ?_; refine Ont ?_; refine S2 ?_
  refine CW.cond rfl (fun h1 => ?_) (fun h1 => ?_)
  ·
   replace h1 := nm h1
   refine S2 ?_; refine Obd ?_; refine Obd ?_; refine Obx ?_; refine Oas ?_; refine S2 ?_
   refine CW.dp mixed ?_
   refine DP.anyC 0 6 28 rfl (by decide +kernel) rfl rfl (by decide +kernel) ?_
   refine Amv ?_; refine Anc ?_; refine Afa ?_; refine Ald ?_; refine Ala ?_; refine Amv ?_
   refine AD.nil ?_
   refine DP.tailC 6 (by decide +kernel) rfl ?_
   refine OL.mapUpdateL (κ := fun v => Kcells (kn v)) (dd := Kcells kn0) (vs := keyV arg path) rfl rfl rfl rfl rfl rfl rfl (AVle.refl _) rfl rfl (kn0_le habs) hm hgood ?_
   refine S4 ?_; refine Omv ?_; refine Oas ?_; refine S3 ?_
   refine Done.retR (rs := [.tmp 4]) (H' := H) rfl (.tmp rfl (.nil)) (.cons (kn0_le habs) .nil) (by repeat (first | exact List.Sublist.refl _ | refine List.Sublist.cons _ ?_)) ?_
   exact ⟨by first | rfl | exact retI (by simp_all) | exact retB (by simp_all) | simp_all, rfl⟩
  ·
   exact absurd h1 (by simp)
def goodSpot (arg : Int) (path : List Int) : Prop := 0 ≤ arg ∧ arg < 1000 ∧ path.length ≤ 2 ∧ ∀ s ∈ path, 0 ≤ s ∧ s < 1000
theorem getD_good {path : List Int} (h : ∀ s ∈ path, 0 ≤ s ∧ s < 1000) (i : Nat) : 0 ≤ path.getD i 0 ∧ path.getD i 0 < 1000 := by
 rw [List.getD_eq_getElem?_getD]
 by_cases hi : i < path.length
 ·rw [List.getElem?_eq_getElem hi]; exact h _ (List.getElem_mem hi)
 ·rw [List.getElem?_eq_none (by omega)]; decide
theorem wf_small {n : Int} (h : 0 ≤ n ∧ n < 1000) : (Go.Lit.int .i64 n).wf = true := by
 have e1 : IntKind.i64.min = -9223372036854775808 := by decide
 have e2 : IntKind.i64.max = 9223372036854775807 := by decide
 simp only [Go.Lit.wf, e1, e2, Bool.and_eq_true, decide_eq_true_eq]
 omega
theorem goodKey_of {arg : Int} {path : List Int} (h : goodSpot arg path) : goodKey Tryz.prog 158 (keyS arg path) :=
 goodKey_spot (i := 3) (ar := 156) (m := Tryz.prog.types.size - 2) (by kernel_rfl) (by kernel_rfl) (by kernel_rfl) (by kernel_rfl) (by kernel_rfl) (by kernel_rfl) (by kernel_rfl) (by kernel_rfl) (wf_small ⟨h.1, h.2.1⟩) (wf_small ⟨by omega, by have := h.2.2.1; omega⟩) (wf_small (getD_good h.2.2.2 0)) (wf_small (getD_good h.2.2.2 1))
theorem good_next {arg : Int} {path : List Int} {s : Int} (h : goodSpot arg path) (hl : path.length < 2) (hs : 0 ≤ s ∧ s < 1000) : goodSpot arg (path ++ [s]) := by
 refine ⟨h.1, h.2.1, by simp; omega, fun x hx => ?_⟩
 rcases List.mem_append.1 hx with hx | hx
 ·exact h.2.2.2 x hx
 ·simp at hx; subst hx; exact hs
structure KnOk (W : FW) (kn : Value → Kn) : Prop where
 slot : ∀ arg path, goodSpot arg path → ∀ s ∈ (kn (keyS arg path)).slots, 0 ≤ s ∧ s < W.owner.length
 deep : ∀ arg path, goodSpot arg path → path.length = 2 → (kn (keyS arg path)).slots = []
 must : ∀ v, (kn v).must < 18446744073709551616
 no : ∀ v, (kn v).no < 18446744073709551616
 low : ∀ v, -2000000000 ≤ (kn v).low ∧ (kn v).low ≤ 2000000000
 nots : ∀ v, (kn v).nots.length ≤ 1000
theorem kn_next {W : FW} {kn : Value → Kn} (K : KnOk W kn) (hW : W.owner.length ≤ 40) {arg : Int} {path : List Int} (h : goodSpot arg path) {s : Int} (hs : s ∈ (kn (keyS arg path)).slots) : path.length < 2 ∧ goodSpot arg (path ++ [s]) := by
 have h1 := K.slot arg path h s hs
 have hl : path.length < 2 := by
  have := h.2.2.1
  rcases Nat.lt_or_ge path.length 2 with h2 | h2
  ·exact h2
  ·rw [K.deep arg path h (by omega)] at hs; cases hs
 exact ⟨hl, good_next h hl ⟨h1.1, by omega⟩⟩
theorem p225 (W : FW) (mb : Nat) (kn : Value → Kn) (arg : Int) (path : List Int) (slot : Int) (hl : path.length < 2) (h : goodSpot arg (path ++ [slot])) :
  PCallIn Tryz.prog [sceneH mb kn] 225 [.i slot, .ptr [sceneP W mb], .ptr (spotCells arg path)] (.b (!(kn (keyS arg (path ++ [slot]))).needed)) := by
 intro H hm
 refine ACall.mk' (n := 14) Tryz.func225 rfl (by kernel_rfl) rfl rfl (fun B I w0 => ?_)
 refine S2 ?_; refine Oas ?_; refine S3 ?_
 refine CW.dp mixed ?_
 refine DP.anyC 0 4 14 rfl (by decide +kernel) rfl rfl (by decide +kernel) ?_
 refine Ald ?_; refine Ala ?_; refine Amv ?_
 refine AD.popC rfl rfl rfl (POp.call (.mk' rfl rfl rfl rfl rfl) (p171 arg path slot hl)) ?_
 refine AD.nil ?_
 refine DP.tailC 4 (by decide +kernel) rfl ?_
 refine OL.popC rfl rfl rfl (POp.callIn (.mk' rfl rfl rfl rfl rfl) (AVleL.refl _) (p170 W mb kn arg (path ++ [slot]) (goodKey_of h)) (fun e he => by repeat (first | exact hm e he | apply List.mem_cons_of_mem))) ?_
 refine Onc ?_; refine Ofa ?_; refine Old ?_; refine Ont ?_; refine Oas ?_; refine S3 ?_
 refine r1 4 (H) ?_
 exact ⟨by first | rfl | exact retI (by simp_all) | exact retB (by simp_all) | simp_all, rfl⟩
theorem p220 {W : FW} {mb : Nat} {kn : Value → Kn} (K : KnOk W kn) (hW : W.owner.length ≤ 40) {arg : Int} {path : List Int} (h : goodSpot arg path) :
  PCallIn Tryz.prog [sceneH mb kn] 220 [sceneP W mb, AV.spot arg path] (.b ((kn (keyS arg path)).slots.all fun s => !(kn (keyS arg (path ++ [s]))).needed)) := by
 intro H hm
 refine ACall.mk' (n := 13) Tryz.func220 rfl (by kernel_rfl) rfl rfl (fun B I w0 => ?_)
 refine S2 ?_; refine Obx ?_; refine Obx ?_; refine Oas ?_; refine S4 ?_; refine Old ?_; refine Ola ?_
 refine OL.popC rfl rfl rfl (POp.callIn (.mk' rfl rfl rfl rfl rfl) (AVleL.refl _) (p170 W mb kn arg path (goodKey_of h)) (fun e he => by repeat (first | exact hm e he | apply List.mem_cons_of_mem))) ?_
 refine Onc ?_; refine Ofa ?_; refine Old ?_; refine Omf ?_
 refine OL.popC rfl rfl rfl (POp.callIn (.mk' rfl rfl rfl rfl rfl) (AVleL.refl _) (pi152 (.of (fun s hs => p225 W mb kn arg path s (kn_next K hW h hs).1 (kn_next K hW h hs).2))) (fun e he => by repeat (first | exact hm e he | apply List.mem_cons_of_mem))) ?_
 refine Oas ?_; refine S3 ?_
 refine r1 4 (H) ?_
 exact ⟨by first | rfl | exact retI (by simp_all) | exact retB (by simp_all) | simp_all, rfl⟩
def endsK (kn : Value → Kn) (arg : Int) (path : List Int) : Bool := (kn (keyS arg path)).slots.all fun s => !(kn (keyS arg (path ++ [s]))).needed
def upK (cls : Int) : Nat := 1 ||| 2 ^ cls.toNat
def plainK (kn : Value → Kn) (arg : Int) (path : List Int) (cls : Int) : Bool := ((andNotP (kn (keyS arg path)).must (upK cls) : Int) == 0) && ((((kn (keyS arg path)).no &&& upK cls : Nat) : Int) == 0) && endsK kn arg path
theorem upK_lt {cls : Int} (h : 0 ≤ cls ∧ cls < 64) : upK cls < 18446744073709551616 := or64 (by omega) (pow64 (by omega))
theorem p202 {W : FW} {mb : Nat} {kn : Value → Kn} (K : KnOk W kn) (hW : W.owner.length ≤ 40) {arg : Int} {path : List Int} (h : goodSpot arg path) (cls : Int) (hc : 0 ≤ cls ∧ cls < 64) :
  PCallIn Tryz.prog [sceneH mb kn] 202 [sceneP W mb, AV.spot arg path, .i cls] (.b (plainK kn arg path cls)) := by
 intro H hm
 refine ACall.mk' (n := 35) Tryz.func202 rfl (by kernel_rfl) rfl rfl (fun B I w0 => ?_)
 refine S2 ?_; refine Obx ?_; refine Oas ?_; refine S4 ?_; refine Omv ?_; refine Ola ?_
 refine OL.popC rfl rfl rfl (POp.callIn (.mk' rfl rfl rfl rfl rfl) (AVleL.refl _) (p170 W mb kn arg path (goodKey_of h)) (fun e he => by repeat (first | exact hm e he | apply List.mem_cons_of_mem))) ?_
 refine Oas ?_; refine S4 ?_; refine Omv ?_
 refine OL.popC rfl rfl rfl (POp.call (.mk' rfl rfl rfl rfl rfl) (p151 1 cls hc (by omega))) ?_
 refine Oas ?_; refine S4 ?_; refine Omv ?_; refine Onc ?_; refine Ofa ?_; refine Old ?_; refine Omv ?_
 refine OL.popC rfl rfl rfl (POp.bits rfl rfl rfl rfl rfl (bit_andNot _ (upK cls))) ?_
 refine Ocm ?_; refine Omv ?_; refine Pmv ?_; refine Pnc ?_; refine Pfa ?_; refine Pld ?_; refine Pmv ?_
 refine OL.guardC rfl rfl rfl rfl rfl rfl (fun hg => POp.bits rfl rfl rfl (by first | rfl | exact hg) (by first | rfl | exact hg) (bit_and _ (upK cls) (K.no _) (upK_lt hc))) ?_
 refine Pcm ?_; refine Opk ?_; refine Omv ?_; refine Pmv ?_; refine Pla ?_
 refine OL.guardC rfl rfl rfl rfl rfl rfl (fun hg => POp.callIn (.mk' rfl rfl rfl rfl (by first | rfl | ((repeat (first | exact hg | rfl | refine Bool.and_eq_true_iff.2 ⟨?_, ?_⟩)); done) | simp_all [strip, constAV])) (AVleL.refl _) (p220 K hW h) (fun e he => by repeat (first | exact hm e he | apply List.mem_cons_of_mem))) ?_
 refine Opk ?_; refine Oas ?_; refine S3 ?_
 refine r1 6 (H) ?_
 exact ⟨retB (by rw [plainK]; simp only [bif_and]; rfl), rfl⟩
theorem p167 {W : FW} {mb : Nat} {kn : Value → Kn} (K : KnOk W kn) (hW : W.owner.length ≤ 40) {arg : Int} {path : List Int} (h : goodSpot arg path) :
  PCallIn Tryz.prog [sceneH mb kn] 167 [sceneP W mb, AV.spot arg path] (.b (!(kn (keyS arg path)).whole && plainK kn arg path 2)) := by
 intro H hm
 refine ACall.mk' (n := 17) Tryz.func167 rfl (by kernel_rfl) rfl rfl (fun B I w0 => ?_)
 refine S2 ?_; refine Obx ?_; refine Oas ?_; refine S4 ?_; refine Omv ?_; refine Ola ?_
 refine OL.popC rfl rfl rfl (POp.callIn (.mk' rfl rfl rfl rfl rfl) (AVleL.refl _) (p170 W mb kn arg path (goodKey_of h)) (fun e he => by repeat (first | exact hm e he | apply List.mem_cons_of_mem))) ?_
 refine Onc ?_; refine Ofa ?_; refine Old ?_; refine Ont ?_; refine Omv ?_; refine Pmv ?_; refine Pla ?_
 refine OL.guardC rfl rfl rfl rfl rfl rfl (fun hg => POp.callIn (.mk' rfl rfl rfl rfl (by first | rfl | ((repeat (first | exact hg | rfl | refine Bool.and_eq_true_iff.2 ⟨?_, ?_⟩)); done) | simp_all [strip, constAV])) (AVleL.refl _) (p202 K hW h 2 (by omega)) (fun e he => by repeat (first | exact hm e he | apply List.mem_cons_of_mem))) ?_
 refine Opk ?_; refine Oas ?_; refine S3 ?_
 refine r1 4 (H) ?_
 exact ⟨retB (by simp only [bif_and]), rfl⟩
def freeF (nots : List Int) : Nat → Int → Int
 | 0, n => n
 | f + 1, n => if nots.contains n then freeF nots f (n + 1) else n
def aboveN (nots : List Int) (n : Int) : Nat := (nots.filter fun x => decide (n ≤ x)).length
def freeK (nots : List Int) (n : Int) : Int := freeF nots (aboveN nots n + 1) n
theorem above_step {nots : List Int} {n : Int} (h : nots.contains n = true) : aboveN nots (n + 1) + 1 ≤ aboveN nots n := by
 have hm : n ∈ nots := by simpa using h
 clear h
 induction nots with
 | nil => cases hm
 | cons x r ih =>
  have sub : ∀ l : List Int, aboveN l (n + 1) ≤ aboveN l n := by
   intro l
   induction l with
   | nil => simp [aboveN]
   | cons y s ihs =>
    unfold aboveN at ihs ⊢
    by_cases h1 : n + 1 ≤ y
    ·have h2 : n ≤ y := by omega
     simp [List.filter_cons, h1, h2]; exact ihs
    ·by_cases h2 : n ≤ y
     ·simp only [List.filter_cons, h1, h2, decide_true, decide_false, if_true]; simp; omega
     ·simp only [List.filter_cons, h1, h2, decide_false]; simpa using ihs
  rcases List.mem_cons.1 hm with e | hm
  ·subst e
   have := sub r
   unfold aboveN at this ⊢
   have h1 : ¬ n + 1 ≤ n := by omega
   simp only [List.filter_cons, h1, Int.le_refl, decide_true, decide_false, if_true]; simp; omega
  ·have := ih hm
   unfold aboveN at this ⊢
   by_cases h1 : n + 1 ≤ x
   ·have h2 : n ≤ x := by omega
    simp [List.filter_cons, h1, h2]; omega
   ·by_cases h2 : n ≤ x
    ·simp only [List.filter_cons, h1, h2, decide_true, decide_false, if_true]; simp; omega
    ·simp only [List.filter_cons, h1, h2, decide_false]; simp; omega
theorem freeF_more {nots : List Int} : ∀ (f g : Nat) (n : Int), aboveN nots n + 1 ≤ f → aboveN nots n + 1 ≤ g → freeF nots f n = freeF nots g n := by
 intro f
 induction f with
 | zero => intro g n h _; omega
 | succ f ih =>
  intro g n h hg
  obtain ⟨g, rfl⟩ : ∃ q, g = q + 1 := ⟨g - 1, by omega⟩
  rw [freeF, freeF]
  by_cases hc : nots.contains n = true
  ·rw [if_pos hc, if_pos hc]
   have h1 := above_step hc
   exact ih g (n + 1) (by omega) (by omega)
  ·rw [if_neg hc, if_neg hc]
theorem freeK_step {nots : List Int} {n : Int} (h : nots.contains n = true) : freeK nots n = freeK nots (n + 1) := by
 have h1 := above_step h
 show freeF nots (aboveN nots n + 1) n = _
 rw [freeF, if_pos h]
 exact freeF_more _ _ _ h1 (Nat.le_refl _)
theorem freeK_done {nots : List Int} {n : Int} (h : nots.contains n = false) : freeK nots n = n := by
 show freeF nots (aboveN nots n + 1) n = _
 rw [freeF, if_neg (fun e => by rw [h] at e; cases e)]
theorem above_le (nots : List Int) (n : Int) : aboveN nots n ≤ nots.length := List.length_filter_le _ _
theorem p166 {W : FW} {mb : Nat} {kn : Value → Kn} (K : KnOk W kn) (hW : W.owner.length ≤ 40) {arg : Int} {path : List Int} (h : goodSpot arg path) :
  PCallIn Tryz.prog [sceneH mb kn] 166 [sceneP W mb, AV.spot arg path] (.tup [.i (freeK (kn (keyS arg path)).nots (kn (keyS arg path)).low), .b (decide (freeK (kn (keyS arg path)).nots (kn (keyS arg path)).low ≤ (kn (keyS arg path)).high) && plainK kn arg path 1)]) := by
 intro H hm
 refine ACall.mk' (n := 38) Tryz.func166 rfl (by kernel_rfl) rfl rfl (fun B I w0 => ?_)
 have hlow := K.low (keyS arg path)
 have hnots := K.nots (keyS arg path)
 have hab := above_le (kn (keyS arg path)).nots (kn (keyS arg path)).low
 refine S2 ?_; refine Obx ?_; refine Oas ?_; refine Oas ?_; refine S4 ?_; refine Omv ?_; refine Ola ?_
 refine OL.popC rfl rfl rfl (POp.callIn (.mk' rfl rfl rfl rfl rfl) (AVleL.refl _) (p170 W mb kn arg path (goodKey_of h)) (fun e he => by repeat (first | exact hm e he | apply List.mem_cons_of_mem))) ?_
 refine Oas ?_; refine S4 ?_; refine Omv ?_; refine Onc ?_; refine Ofa ?_; refine Ofa ?_; refine Old ?_; refine Oas ?_; refine S4 ?_
 refine lj (fun m st => ∃ n : Int, st = ⟨[(7, .i n), (6, .ptr (Kcells (kn (keyS arg path)))), (0, sceneP W mb), (3, .ptr (spotCells arg path))], H⟩ ∧ m = aboveN (kn (keyS arg path)).nots n ∧ freeK (kn (keyS arg path)).nots n = freeK (kn (keyS arg path)).nots (kn (keyS arg path)).low ∧ (kn (keyS arg path)).low ≤ n ∧ n - (kn (keyS arg path)).low + aboveN (kn (keyS arg path)).nots n ≤ 1000) (⟨(kn (keyS arg path)).low, rfl, rfl, rfl, Int.le_refl _, by omega⟩) ?_
 rintro m _ ⟨n, rfl, rfl, hf, hge, hlen⟩
 refine S3 ?_; refine Omv ?_; refine Onc ?_; refine Ofa ?_; refine Ofa ?_; refine Old ?_; refine Omv ?_
 refine OL.popC rfl rfl rfl (POp.call (.mk' rfl rfl rfl rfl rfl) ((p33 _ _))) ?_
 refine S2 ?_
 refine CW.cond rfl (fun h0 => ?_) (fun h0 => ?_)
 ·
  replace h0 := nm h0
  have hstep := above_step (show (kn (keyS arg path)).nots.contains n = true from h0)
  have hfs := freeK_step (show (kn (keyS arg path)).nots.contains n = true from h0)
  refine S4 ?_; refine Omv ?_; refine Oar ?_; refine Oas ?_; refine S2 ?_
  exact ag (⟨n + 1, rfl, rfl, by rw [← hfs]; exact hf, by omega, by omega⟩)
 ·
  have hfd := freeK_done (show (kn (keyS arg path)).nots.contains n = false from h0)
  refine S7 ?_; refine Omv ?_; refine Omv ?_; refine Omv ?_; refine Onc ?_; refine Ofa ?_; refine Ofa ?_; refine Old ?_; refine Ocm ?_; refine Omv ?_; refine Pmv ?_; refine Pla ?_
  refine OL.guardC rfl rfl rfl rfl rfl rfl (fun hg => POp.callIn (.mk' rfl rfl rfl rfl (by first | rfl | ((repeat (first | exact hg | rfl | refine Bool.and_eq_true_iff.2 ⟨?_, ?_⟩)); done) | simp_all [strip, constAV])) (AVleL.refl _) (p202 K hW h 1 (by omega)) (fun e he => by repeat (first | exact hm e he | apply List.mem_cons_of_mem))) ?_
  refine Opk ?_; refine Oas ?_; refine Oas ?_; refine S3 ?_
  refine Done.retR (rs := [.tmp 4, .tmp 5]) (H' := H) rfl (.tmp rfl (.tmp rfl (.nil))) (AVleL.refl _) (by repeat (first | exact List.Sublist.refl _ | refine List.Sublist.cons _ ?_)) ?_
  exact ⟨by rw [← hf, hfd, ← bif_and]; rfl, rfl⟩
def integerOk (kn : Value → Kn) (arg : Int) (path : List Int) : Bool := decide (freeK (kn (keyS arg path)).nots (kn (keyS arg path)).low ≤ (kn (keyS arg path)).high) && plainK kn arg path 1
def noneOk (kn : Value → Kn) (arg : Int) (path : List Int) : Bool := !(kn (keyS arg path)).whole && plainK kn arg path 2
def slotsK (W : FW) (kn : Value → Kn) (can : List Int → Bool) (arg : Int) (path : List Int) : List Int → Nat → Nat → Option (Nat × Nat)
 | [], must, no => some (must, no)
 | s :: r, must, no =>
  let needed := (kn (keyS arg (path ++ [s]))).needed
  let is := can (path ++ [s])
  if needed && !is then none
  else if needed then slotsK W kn can arg path r (must ||| 2 ^ (W.owner.getD s.toNat default).toNat) no
  else if !is then slotsK W kn can arg path r must (no ||| 2 ^ (W.owner.getD s.toNat default).toNat)
  else slotsK W kn can arg path r must no
def closeK (W : FW) : Nat → Nat → Nat → Nat
 | 0, _, must => must
 | f + 1, c, must => closeK W f (c + 1) (if must.testBit c then must ||| (upsP W).getD c 0 else must)
def objectK (W : FW) (kn : Value → Kn) (can : List Int → Bool) (arg : Int) (path : List Int) : Nat × Bool :=
 let k := kn (keyS arg path)
 if k.whole || k.must.testBit 1 || k.must.testBit 2 || k.no.testBit 0 then (0, false)
 else match slotsK W kn can arg path k.slots k.must k.no with
  | none => (0, false)
  | some (must, no) => (andNotP (closeK W W.parents.length 3 must) 1, ((andNotP (closeK W W.parents.length 3 must) 1 &&& no : Nat) : Int) == 0)
def canK (W : FW) (kn : Value → Kn) : Nat → Int → List Int → Bool
 | 0, arg, path => integerOk kn arg path || noneOk kn arg path || (objectK W kn (fun _ => false) arg path).2
 | d + 1, arg, path => integerOk kn arg path || noneOk kn arg path || (objectK W kn (canK W kn d arg) arg path).2
theorem slotsK_step {W : FW} {kn : Value → Kn} {can : List Int → Bool} {arg : Int} {path : List Int} {l : List Int} {k must no : Nat} (hk : k < l.length) : slotsK W kn can arg path (l.drop k) must no = slotsK W kn can arg path (l.getD k default :: l.drop (k + 1)) must no := by
 rw [List.drop_eq_getElem_cons hk, getD_lt hk]
theorem slotsK_need {W : FW} {kn : Value → Kn} {can : List Int → Bool} {arg : Int} {path r : List Int} {s : Int} {must no : Nat} (h : (bif (kn (keyS arg (path ++ [s]))).needed then !can (path ++ [s]) else false) = false) (h1 : (kn (keyS arg (path ++ [s]))).needed = true) : slotsK W kn can arg path r (must ||| 2 ^ (W.owner.getD s.toNat default).toNat) no = slotsK W kn can arg path (s :: r) must no := by
 have hc : can (path ++ [s]) = true := by rw [h1] at h; simpa using h
 rw [slotsK]; simp [h1, hc]
theorem slotsK_not {W : FW} {kn : Value → Kn} {can : List Int → Bool} {arg : Int} {path r : List Int} {s : Int} {must no : Nat} (h1 : (kn (keyS arg (path ++ [s]))).needed = false) (h2 : can (path ++ [s]) = false) : slotsK W kn can arg path r must (no ||| 2 ^ (W.owner.getD s.toNat default).toNat) = slotsK W kn can arg path (s :: r) must no := by
 rw [slotsK]; simp [h1, h2]
theorem slotsK_free {W : FW} {kn : Value → Kn} {can : List Int → Bool} {arg : Int} {path r : List Int} {s : Int} {must no : Nat} (h1 : (kn (keyS arg (path ++ [s]))).needed = false) (h2 : can (path ++ [s]) = true) : slotsK W kn can arg path r must no = slotsK W kn can arg path (s :: r) must no := by
 rw [slotsK]; simp [h1, h2]
theorem closeK_step {W : FW} {c mu r : Nat} (hc : c < 3 + W.parents.length) (h : closeK W (3 + W.parents.length - c) c mu = r) : closeK W (3 + W.parents.length - (c + 1)) (c + 1) (if mu.testBit c then mu ||| (upsP W).getD c 0 else mu) = r := by
 obtain ⟨q, hq⟩ : ∃ q, 3 + W.parents.length - c = q + 1 := ⟨3 + W.parents.length - c - 1, by omega⟩
 rw [hq, closeK] at h
 rw [show 3 + W.parents.length - (c + 1) = q from by omega]
 exact h
theorem slotsK_fail {W : FW} {kn : Value → Kn} {can : List Int → Bool} {arg : Int} {path r : List Int} {s : Int} {must no : Nat} (h : (bif (kn (keyS arg (path ++ [s]))).needed then !can (path ++ [s]) else false) = true) : slotsK W kn can arg path (s :: r) must no = none := by
 rw [bif_and] at h
 rw [slotsK]; exact if_pos h
theorem objectK_no {W : FW} {kn : Value → Kn} {can : List Int → Bool} {arg : Int} {path : List Int} (h : (bif bif bif (kn (keyS arg path)).whole then true else (kn (keyS arg path)).must.testBit (Int.toNat 1) then true else (kn (keyS arg path)).must.testBit (Int.toNat 2) then true else (kn (keyS arg path)).no.testBit (Int.toNat 0)) = true) : objectK W kn can arg path = (0, false) := by
 simp only [bif_or] at h
 rw [objectK]; exact if_pos h
theorem objectK_none {W : FW} {kn : Value → Kn} {can : List Int → Bool} {arg : Int} {path : List Int} (h : slotsK W kn can arg path (kn (keyS arg path)).slots (kn (keyS arg path)).must (kn (keyS arg path)).no = none) : objectK W kn can arg path = (0, false) := by
 rw [objectK, h]; simp
theorem objectK_some {W : FW} {kn : Value → Kn} {can : List Int → Bool} {arg : Int} {path : List Int} {must no : Nat} (h : (bif bif bif (kn (keyS arg path)).whole then true else (kn (keyS arg path)).must.testBit (Int.toNat 1) then true else (kn (keyS arg path)).must.testBit (Int.toNat 2) then true else (kn (keyS arg path)).no.testBit (Int.toNat 0)) = false)
  (hs : some (must, no) = slotsK W kn can arg path (kn (keyS arg path)).slots (kn (keyS arg path)).must (kn (keyS arg path)).no) : objectK W kn can arg path = (andNotP (closeK W W.parents.length 3 must) 1, ((andNotP (closeK W W.parents.length 3 must) 1 &&& no : Nat) : Int) == 0) := by
 simp only [bif_or] at h
 rw [objectK, ← hs]; exact if_neg (by simpa using h)
theorem andNot_lt (a b : Nat) : andNotP a b < 18446744073709551616 := BitVec.isLt (w := 64) _
theorem owner_ok {W : FW} (hw : worldP W = true) {i : Nat} (hi : i < W.owner.length) : 3 ≤ W.owner.getD i default ∧ W.owner.getD i default < 3 + W.parents.length := by
 simp only [worldP, Bool.and_eq_true, List.all_eq_true] at hw
 have := hw.2 _ (getD_mem hi)
 simpa [ownP] using this
theorem upsFrom_len : ∀ (l : List (List Int)) (i : Nat) (U : List Nat), (upsFrom l i U).length = U.length
 | [], _, _ => rfl
 | x :: r, i, U => by rw [upsFrom, upsFrom_len r]; simp
theorem ups_len (W : FW) : (upsP W).length = 63 := by rw [upsP, upsFrom_len]; rfl
theorem upFold_lt {U : List Nat} (hU : ∀ x ∈ U, x < 18446744073709551616) {i : Nat} (hi : i < 61) (l : List Int) : upFold U i l < 18446744073709551616 := by
 unfold upFold
 have : ∀ (l : List Int) (s : Nat), s < 18446744073709551616 → l.foldl (fun s (p : Int) => s ||| U.getD p.toNat 0) s < 18446744073709551616 := by
  intro l
  induction l with
  | nil => intro s hs; exact hs
  | cons p r ih => intro s hs; exact ih _ (or64 hs (u_get hU _))
 exact this l _ (or64 (by omega) (pow64 (by omega)))
theorem upsFrom_lt : ∀ (l : List (List Int)) (i : Nat) (U : List Nat), i + l.length ≤ 61 → (∀ x ∈ U, x < 18446744073709551616) → ∀ x ∈ upsFrom l i U, x < 18446744073709551616
 | [], _, _, _, h => h
 | y :: r, i, U, hi, h => by
  rw [upsFrom]
  simp only [List.length_cons] at hi
  exact upsFrom_lt r (i + 1) _ (by omega) (u_set h (upFold_lt h (by omega) y))
theorem ups_lt {W : FW} (h : W.parents.length ≤ 60) : ∀ x ∈ upsP W, x < 18446744073709551616 := upsFrom_lt _ _ _ (by omega) (by decide)
theorem up_drop {W : FW} {U : List Nat} {c : Nat} {q : Nat} (hq : q = c) (h : c < U.length) : (List.drop q (List.drop 2 (Wcells W ++ U.map fun s => AV.set s)))[0]? = some (AV.set (U.getD c 0)) := by
 subst hq
 rw [List.drop_drop, List.getElem?_drop]
 have := up_get (W := W) (U := U) (i := q) h
 rw [show 2 + q + 0 = 2 + q from rfl]
 exact this
theorem p168_step {W : FW} {mb : Nat} {kn : Value → Kn} (K : KnOk W kn) (hw : worldP W = true) {arg : Int} {path : List Int} (h : goodSpot arg path) (can : List Int → Bool) (ih : ∀ s ∈ (kn (keyS arg path)).slots, PCallIn Tryz.prog [sceneH mb kn] 186 [sceneP W mb, AV.spot arg (path ++ [s])] (.b (can (path ++ [s])))) :
  PCallIn Tryz.prog [sceneH mb kn] 168 [sceneP W mb, AV.spot arg path] (.tup [AV.set (objectK W kn can arg path).1, .b (objectK W kn can arg path).2]) := by
 intro H hm
 refine ACall.mk' (n := 136) Tryz.func168 rfl (by kernel_rfl) rfl rfl (fun B I w0 => ?_)
 have hW := world_own hw
 have hP := world_len hw
 refine S2 ?_; refine Obx ?_; refine Oas ?_; refine Oas ?_; refine S4 ?_; refine Omv ?_; refine Ola ?_
 refine OL.popC rfl rfl rfl (POp.callIn (.mk' rfl rfl rfl rfl rfl) (AVleL.refl _) (p170 W mb kn arg path (goodKey_of h)) (fun e he => by repeat (first | exact hm e he | apply List.mem_cons_of_mem))) ?_
 refine Oas ?_; refine S3 ?_
 refine CW.dp mixed ?_
 refine DP.anyC 0 9 136 rfl (by decide +kernel) rfl rfl (by decide +kernel) ?_
 refine Amv ?_; refine Anc ?_; refine Afa ?_; refine Ald ?_; refine Amv ?_; refine Anc ?_; refine Afa ?_; refine Ald ?_; refine Aas ?_
 refine AD.nil ?_
 refine DP.tailC 9 (by decide +kernel) rfl ?_
 refine Oas ?_; refine S5 ?_; refine Omv ?_; refine Onc ?_; refine Ofa ?_; refine Old ?_; refine Omv ?_; refine Pmv ?_
 refine OL.guardC rfl rfl rfl rfl rfl rfl (fun hg => POp.call (.mk' rfl rfl rfl rfl (by first | rfl | ((repeat (first | exact hg | rfl | refine Bool.and_eq_true_iff.2 ⟨?_, ?_⟩)); done) | simp_all [strip, constAV])) (p107 _ 1 (by omega) (K.must _))) ?_
 refine Opk ?_; refine Omv ?_; refine Pmv ?_
 refine OL.guardC rfl rfl rfl rfl rfl rfl (fun hg => POp.call (.mk' rfl rfl rfl rfl (by first | rfl | ((repeat (first | exact hg | rfl | refine Bool.and_eq_true_iff.2 ⟨?_, ?_⟩)); done) | simp_all [strip, constAV])) (p107 _ 2 (by omega) (K.must _))) ?_
 refine Opk ?_; refine Omv ?_; refine Pmv ?_
 refine OL.guardC rfl rfl rfl rfl rfl rfl (fun hg => POp.call (.mk' rfl rfl rfl rfl (by first | rfl | ((repeat (first | exact hg | rfl | refine Bool.and_eq_true_iff.2 ⟨?_, ?_⟩)); done) | simp_all [strip, constAV])) (p107 _ 0 (by omega) (K.no _))) ?_
 refine Opk ?_; refine S2 ?_
 refine CW.cond rfl (fun h0 => ?_) (fun h0 => ?_)
 ·
  have hob := objectK_no (W := W) (can := can) h0
  refine S2 ?_; refine Oas ?_; refine Oas ?_; refine S4 ?_
  refine Done.retR (rs := [.tmp 4, .tmp 5]) (H' := H) rfl (.tmp rfl (.tmp rfl (.nil))) (AVleL.refl _) (by repeat (first | exact List.Sublist.refl _ | refine List.Sublist.cons _ ?_)) ?_
  exact ⟨by rw [hob]; rfl, rfl⟩
 ·
  have h0 := h0
  refine S5 ?_; refine Omv ?_; refine Onc ?_; refine Ofa ?_; refine Old ?_; refine Oln ?_; refine Omv ?_; refine S3 ?_
  refine lj (fun m st => ∃ (k must no : Nat), st = ⟨[(47, .i k), (46, .i (kn (keyS arg path)).slots.length), (45, AV.ints (kn (keyS arg path)).slots), (7, AV.set must), (8, AV.set no), (0, sceneP W mb), (3, .ptr (spotCells arg path))], H⟩ ∧ m = (kn (keyS arg path)).slots.length - k ∧ k ≤ (kn (keyS arg path)).slots.length ∧ must < 18446744073709551616 ∧ no < 18446744073709551616 ∧ slotsK W kn can arg path ((kn (keyS arg path)).slots.drop k) must no = slotsK W kn can arg path (kn (keyS arg path)).slots (kn (keyS arg path)).must (kn (keyS arg path)).no) (⟨0, _, _, rfl, rfl, Nat.zero_le _, K.must _, K.no _, rfl⟩) ?_
  rintro m _ ⟨k, must, no, rfl, rfl, hk, hmu, hno, hs⟩
  refine CW.boundM (t := 45) rfl (fun hbs => ?_)
  refine S2 ?_; refine Ocm ?_; refine S3 ?_
  refine CW.cond rfl (fun h1 => ?_) (fun h1 => ?_)
  ·
   replace h1 := nm h1
   refine S6 ?_; refine Oix ?_; refine Old ?_; refine Oas ?_; refine S3 ?_
   have hsm : (kn (keyS arg path)).slots.getD k default ∈ (kn (keyS arg path)).slots := getD_mem (by omega)
   have hn2 := kn_next K hW h hsm
   have hsl := K.slot arg path h _ hsm
   have how := owner_ok hw (i := ((kn (keyS arg path)).slots.getD k default).toNat) (by omega)
   refine S1 ?_; refine Ola ?_; refine Omv ?_
   refine OL.popC rfl rfl rfl (POp.call (.mk' rfl rfl rfl rfl rfl) (p171 arg path ((kn (keyS arg path)).slots.getD k default) hn2.1)) ?_
   refine OL.alC rfl rfl rfl rfl (fun b0 => ?_)
   refine Sto ?_; refine S3 ?_
   refine CW.dp mixed ?_
   refine DP.anyC 0 9 136 rfl (by decide +kernel) rfl rfl (by decide +kernel) ?_
   refine Amv ?_; refine Ala ?_
   refine AD.popC rfl rfl rfl (POp.callIn (.mk' rfl rfl rfl rfl rfl) (AVleL.refl _) (p170 W mb kn arg (path ++ [(kn (keyS arg path)).slots.getD k default]) (goodKey_of hn2.2)) (fun e he => by repeat (first | exact hm e he | apply List.mem_cons_of_mem))) ?_
   refine Anc ?_; refine Afa ?_; refine Ald ?_; refine Amv ?_; refine Ala ?_
   refine AD.popC rfl rfl rfl (POp.callIn (.mk' rfl rfl rfl rfl rfl) (AVleL.refl _) (ih _ hsm) (fun e he => by repeat (first | exact hm e he | apply List.mem_cons_of_mem))) ?_
   refine AD.nil ?_
   refine DP.tailC 9 (by decide +kernel) rfl ?_
   refine Oas ?_; refine Oas ?_; refine S5 ?_; refine Omv ?_; refine Omv ?_; refine Pmv ?_; refine Pnt ?_; refine Opk ?_; refine Oas ?_; refine S2 ?_
   refine CW.cond rfl (fun h2 => ?_) (fun h2 => ?_)
   ·
    have hob := objectK_none (W := W) (can := can) (by rw [← hs, slotsK_step (l := (kn (keyS arg path)).slots) (k := k) (by omega)]; exact slotsK_fail h2)
    refine S2 ?_; refine Oas ?_; refine Oas ?_; refine S9 ?_
    refine Done.retR (rs := [.tmp 4, .tmp 5]) (H' := H) rfl (.tmp rfl (.tmp rfl (.nil))) (AVleL.refl _) (by repeat (first | exact List.Sublist.refl _ | refine List.Sublist.cons _ ?_)) ?_
    exact ⟨by rw [hob]; rfl, rfl⟩
   ·
    have h2 := h2
    refine S2 ?_; refine Omv ?_; refine Oas ?_; refine S2 ?_
    refine CW.cond rfl (fun h3 => ?_) (fun h3 => ?_)
    ·
     replace h3 := nm h3
     refine S1 ?_; refine Omv ?_; refine Omv ?_; refine Onc ?_; refine Ofa ?_; refine Old ?_; refine Onc ?_; refine Ofa ?_; refine Ofa ?_; refine Old ?_; refine Omv ?_; refine Oix ?_
     refine Old ?_
     refine OL.popC rfl rfl rfl (POp.call (.mk' rfl rfl rfl rfl rfl) ((p151 _ _ (by omega) (by omega)))) ?_
     refine Oas ?_; refine S5 ?_; refine Oar ?_; refine Omv ?_; refine S1 ?_
     exact ag (⟨k + 1, must ||| 2 ^ (W.owner.getD ((kn (keyS arg path)).slots.getD k default).toNat default).toNat, no, rfl, rfl, by omega, or64 hmu (pow64 (by omega)), hno, by rw [← hs, slotsK_step (l := (kn (keyS arg path)).slots) (k := k) (by omega)]; exact slotsK_need h2 h3⟩)
    ·
     replace h3 := nm h3
     refine S2 ?_; refine Omv ?_; refine Ont ?_; refine Oas ?_; refine S2 ?_
     refine CW.cond rfl (fun h4 => ?_) (fun h4 => ?_)
     ·
      replace h4 := nm h4
      refine S1 ?_; refine Omv ?_; refine Omv ?_; refine Onc ?_; refine Ofa ?_; refine Old ?_; refine Onc ?_; refine Ofa ?_; refine Ofa ?_; refine Old ?_; refine Omv ?_; refine Oix ?_
      refine Old ?_
      refine OL.popC rfl rfl rfl (POp.call (.mk' rfl rfl rfl rfl rfl) ((p151 _ _ (by omega) (by omega)))) ?_
      refine Oas ?_; refine S5 ?_; refine Oar ?_; refine Omv ?_; refine S1 ?_
      exact ag (⟨k + 1, must, no ||| 2 ^ (W.owner.getD ((kn (keyS arg path)).slots.getD k default).toNat default).toNat, rfl, rfl, by omega, hmu, or64 hno (pow64 (by omega)), by rw [← hs, slotsK_step (l := (kn (keyS arg path)).slots) (k := k) (by omega)]; exact slotsK_not (by simpa using h3) (by simpa using h4)⟩)
     ·
      replace h4 := nm h4
      refine S5 ?_; refine Oar ?_; refine Omv ?_; refine S1 ?_
      exact ag (⟨k + 1, must, no, rfl, rfl, by omega, hmu, hno, by rw [← hs, slotsK_step (l := (kn (keyS arg path)).slots) (k := k) (by omega)]; exact slotsK_free (by simpa using h3) (by simpa using h4)⟩)
  ·
   replace h1 := nm h1
   obtain rfl : k = (kn (keyS arg path)).slots.length := by omega
   rw [List.drop_length, slotsK] at hs
   have hob := objectK_some (W := W) (can := can) h0 hs
   refine S8 ?_; refine Oas ?_; refine S3 ?_
   refine lj (fun m st => ∃ (c mu : Nat), st = ⟨[(14, .i c), (7, AV.set mu), (8, AV.set no), (0, sceneP W mb), (3, .ptr (spotCells arg path))], H⟩ ∧ m = 3 + W.parents.length - c ∧ 3 ≤ c ∧ c ≤ 3 + W.parents.length ∧ mu < 18446744073709551616 ∧ closeK W (3 + W.parents.length - c) c mu = closeK W W.parents.length 3 must) (⟨3, must, rfl, rfl, by omega, by omega, hmu, by rw [Nat.add_sub_cancel_left]⟩) ?_
   rintro m _ ⟨c, mu, rfl, rfl, hc3, hc, hmu2, hcl⟩
   refine S3 ?_; refine Omv ?_; refine Omv ?_; refine Onc ?_; refine Ofa ?_; refine Old ?_; refine Onc ?_; refine Ofa ?_; refine Ofa ?_; refine Old ?_; refine Oln ?_; refine Oar ?_
   refine Ocm ?_; refine S2 ?_
   refine CW.cond rfl (fun h5 => ?_) (fun h5 => ?_)
   ·
    replace h5 := nm h5
    refine S6 ?_; refine Omv ?_; refine Omv ?_
    refine OL.popC rfl rfl rfl (POp.call (.mk' rfl rfl rfl rfl rfl) ((p107 _ _ (by omega) (by assumption)))) ?_
    refine S2 ?_
    refine CW.cond rfl (fun h6 => ?_) (fun h6 => ?_)
    ·
     replace h6 := nm h6
     refine S1 ?_; refine Omv ?_; refine Omv ?_; refine Onc ?_; refine Ofa ?_; refine Old ?_; refine Omv ?_; refine Onc ?_; refine Ofa ?_; refine Oia ?_
     refine OL.popC rfl rfl rfl (POp.ld1 rfl rfl rfl (up_drop (c := c) (by simp) (by rw [ups_len]; omega))) ?_
     refine OL.popC rfl rfl rfl (POp.bits rfl rfl rfl rfl rfl (bit_or _ _ hmu2 (u_get (ups_lt hP) _))) ?_
     refine Oas ?_; refine S4 ?_; refine Omv ?_; refine Oar ?_; refine Oas ?_; refine S1 ?_
     exact ag (⟨c + 1, mu ||| (upsP W).getD c 0, rfl, rfl, by omega, by omega, or64 hmu2 (u_get (ups_lt hP) _), by have := closeK_step (by omega) hcl; rwa [if_pos (by simpa using h6)] at this⟩)
    ·
     replace h6 := nm h6
     refine S4 ?_; refine Omv ?_; refine Oar ?_; refine Oas ?_; refine S1 ?_
     exact ag (⟨c + 1, mu, rfl, rfl, by omega, by omega, hmu2, by have := closeK_step (by omega) hcl; rwa [if_neg (by simpa using h6)] at this⟩)
   ·
    replace h5 := nm h5
    obtain rfl : c = 3 + W.parents.length := by omega
    rw [Nat.sub_self, closeK] at hcl
    refine S7 ?_; refine Omv ?_
    refine OL.popC rfl rfl rfl (POp.bits rfl rfl rfl rfl rfl (bit_andNot _ 1)) ?_
    refine Oas ?_; refine S4 ?_; refine Omv ?_; refine Omv ?_; refine Omv ?_
    refine OL.popC rfl rfl rfl (POp.bits rfl rfl rfl rfl rfl (bit_and _ _ (andNot_lt _ _) hno)) ?_
    refine Ocm ?_; refine Oas ?_; refine Oas ?_; refine S3 ?_
    refine Done.retR (rs := [.tmp 4, .tmp 5]) (H' := H) rfl (.tmp rfl (.tmp rfl (.nil))) (AVleL.refl _) (by repeat (first | exact List.Sublist.refl _ | refine List.Sublist.cons _ ?_)) ?_
    exact ⟨by rw [hob, ← hcl]; rfl, rfl⟩
theorem p186_step {W : FW} {mb : Nat} {kn : Value → Kn} (K : KnOk W kn) (hw : worldP W = true) {arg : Int} {path : List Int} (h : goodSpot arg path) (can : List Int → Bool) (ih : ∀ s ∈ (kn (keyS arg path)).slots, PCallIn Tryz.prog [sceneH mb kn] 186 [sceneP W mb, AV.spot arg (path ++ [s])] (.b (can (path ++ [s])))) :
  PCallIn Tryz.prog [sceneH mb kn] 186 [sceneP W mb, AV.spot arg path] (.b (integerOk kn arg path || noneOk kn arg path || (objectK W kn can arg path).2)) := by
 intro H hm
 refine ACall.mk' (n := 28) Tryz.func186 rfl (by kernel_rfl) rfl rfl (fun B I w0 => ?_)
 have hW := world_own hw
 refine S2 ?_; refine Obx ?_; refine Oas ?_; refine S5 ?_; refine Omv ?_; refine Ola ?_
 refine OL.popC rfl rfl rfl (POp.callIn (.mk' rfl rfl rfl rfl rfl) (AVleL.refl _) (p166 K hW h) (fun e he => by repeat (first | exact hm e he | apply List.mem_cons_of_mem))) ?_
 refine Omv ?_; refine Oex ?_; refine Oex ?_; refine Oas ?_; refine Oas ?_; refine S4 ?_; refine Omv ?_; refine Omv ?_; refine Pmv ?_; refine Pla ?_
 refine OL.guardC rfl rfl rfl rfl rfl rfl (fun hg => POp.callIn (.mk' rfl rfl rfl rfl (by first | rfl | ((repeat (first | exact hg | rfl | refine Bool.and_eq_true_iff.2 ⟨?_, ?_⟩)); done) | simp_all [strip, constAV])) (AVleL.refl _) (p167 K hW h) (fun e he => by repeat (first | exact hm e he | apply List.mem_cons_of_mem))) ?_
 refine Opk ?_; refine S2 ?_
 refine CW.cond rfl (fun h0 => ?_) (fun h0 => ?_)
 ·
  have hr : (integerOk kn arg path || noneOk kn arg path) = true := by rw [bif_or] at h0; exact h0
  refine S2 ?_; refine Oas ?_; refine S4 ?_
  refine r1 4 (H) ?_
  exact ⟨retB (by rw [hr]; rfl), rfl⟩
 ·
  have hr : (integerOk kn arg path || noneOk kn arg path) = false := by rw [bif_or] at h0; exact h0
  refine S4 ?_; refine Omv ?_; refine Ola ?_
  refine OL.popC rfl rfl rfl (POp.callIn (.mk' rfl rfl rfl rfl rfl) (AVleL.refl _) (p168_step K hw h can ih) (fun e he => by repeat (first | exact hm e he | apply List.mem_cons_of_mem))) ?_
  refine Omv ?_; refine Oex ?_; refine Oex ?_; refine Oas ?_; refine Oas ?_; refine S4 ?_; refine Omv ?_; refine Oas ?_; refine S3 ?_
  refine r1 4 (H) ?_
  exact ⟨retB (by rw [hr]; rfl), rfl⟩
theorem p186 {W : FW} {mb : Nat} {kn : Value → Kn} (K : KnOk W kn) (hw : worldP W = true) {arg : Int} : ∀ (d : Nat) (path : List Int), goodSpot arg path → path.length + d = 2 → PCallIn Tryz.prog [sceneH mb kn] 186 [sceneP W mb, AV.spot arg path] (.b (canK W kn d arg path))
 | 0, path, h, hd => p186_step K hw h (fun _ => false) (fun s hs => by rw [K.deep arg path h (by omega)] at hs; cases hs)
 | d + 1, path, h, hd => p186_step K hw h (canK W kn d arg) (fun s hs => p186 K hw d (path ++ [s]) (kn_next K (world_own hw) h hs).2 (by simp; omega))
abbrev intEls (l : List Int) : List (List AV) := l.map fun n => [AV.i n]
def KBcells (k : Kn) (vn vs : Value) : List AV := [.i k.low, .i k.high, .val vn, AV.set k.must, AV.set k.no, .b k.whole, .b k.needed, .val vs]
structure KB where
 key : Value
 blk : Nat
 kn : Kn
 vn : Value
 vs : Value
def rowE (vs : Value) (slots : List Int) : Ent := .row 3 1 vs (intEls slots).length (intEls slots).flatten
def KB.ents (e : KB) : List Ent := [.blk e.blk 209 (KBcells e.kn e.vn e.vs), rowE e.vn e.kn.nots, rowE e.vs e.kn.slots]
def askK (k : Kn) (l : FLit) : Kn :=
 if l.f.op = 2 then (if l.neg then { k with no := k.no ||| 2 ^ l.f.cls.toNat } else { k with must := k.must ||| 2 ^ l.f.cls.toNat })
 else if l.f.op = 3 then (if l.neg then { k with low := (if l.f.n > k.low then l.f.n else k.low) } else { k with high := (if l.f.n - 1 < k.high then l.f.n - 1 else k.high), whole := true })
 else if l.neg then { k with nots := k.nots ++ [l.f.n] }
 else { k with low := (if l.f.n > k.low then l.f.n else k.low), high := (if l.f.n < k.high then l.f.n else k.high), whole := true }
theorem rowE_snoc (v : Value) (l : List Int) (n : Int) : rowE v (l ++ [n]) = .row 3 1 v ((intEls l).length + 1) ((intEls l).flatten ++ [AV.i n]) := by
 simp [rowE, intEls]
structure LitOk (W : FW) (l : FLit) : Prop where
 op : 2 ≤ l.f.op ∧ l.f.op ≤ 4
 cls : l.f.op = 2 → 0 ≤ l.f.cls ∧ l.f.cls < 63
 n : -1000000000 ≤ l.f.n ∧ l.f.n ≤ 1000000000
 arg : 0 ≤ l.f.arg ∧ l.f.arg < 3
 path : l.f.path.length ≤ 2
 slot : ∀ s ∈ l.f.path, 0 ≤ s ∧ s < W.owner.length
 kids : l.f.kids = []
theorem p201 {W : FW} {l : FLit} (hl : LitOk W l) (B blk : Nat) (k : Kn) (vn vs : Value) (hm : k.must < 18446744073709551616) (hno : k.no < 18446744073709551616) (hns : k.nots.length ≤ 1000) (Hx : List Ent) :
  BCall B Tryz.prog 201 [.p blk 0, AV.lit l] (.blk blk 209 (KBcells k vn vs) :: rowE vn k.nots :: Hx) (fun y H' => ∃ vn', y = .tup [] ∧ H' = .blk blk 209 (KBcells (askK k l) vn' vs) :: rowE vn' (askK k l).nots :: Hx) (fun _ => False) := by
 refine BCall.of (n := 130) Tryz.func201 rfl (by kernel_rfl) rfl rfl (fun I w0 => ?_)
 have hcls := hl.cls
 have hn := hl.n
 refine S2 ?_; refine Obx ?_; refine S5 ?_; refine Ofa ?_; refine Ofa ?_; refine Old ?_; refine Ocm ?_; refine Omv ?_; refine Pfa ?_; refine Pld ?_; refine Opk ?_; refine Oas ?_
 refine S2 ?_
 refine CW.cond rfl (fun h0 => ?_) (fun h0 => ?_)
 ·
  replace h0 := nm h0
  refine CW.dp mixed ?_
  refine DP.anyC 0 9 130 rfl (by decide +kernel) rfl rfl (by decide +kernel) ?_
  refine Amv ?_; refine Amv ?_; refine Anc ?_; refine Afa ?_; refine Ald ?_; refine Afa ?_; refine Afa ?_; refine Ald ?_
  refine AD.popC rfl rfl rfl (POp.call (.mk' rfl rfl rfl rfl rfl) (p151 _ l.f.cls (by simp_all; omega) hno)) ?_
  refine AD.nil ?_
  refine DP.tailC 9 (by decide +kernel) rfl ?_
  refine Onc ?_; refine Ofa ?_; refine Sto ?_; refine S2 ?_
  refine Done.norR (rs := []) rfl (.nil) (AVleL.refl _) (by repeat (first | exact List.Sublist.refl _ | refine List.Sublist.cons _ ?_)) ?_
  exact ⟨vn, rfl, by rw [show askK k l = { k with no := k.no ||| 2 ^ l.f.cls.toNat } by simp_all [askK]]; rfl⟩
 ·
  replace h0 := nm h0
  refine S2 ?_; refine Ofa ?_; refine Ofa ?_; refine Old ?_; refine Ocm ?_; refine Oas ?_; refine S2 ?_
  refine CW.cond rfl (fun h1 => ?_) (fun h1 => ?_)
  ·
   replace h1 := nm h1
   refine CW.dp mixed ?_
   refine DP.anyC 0 9 130 rfl (by decide +kernel) rfl rfl (by decide +kernel) ?_
   refine Amv ?_; refine Amv ?_; refine Anc ?_; refine Afa ?_; refine Ald ?_; refine Afa ?_; refine Afa ?_; refine Ald ?_
   refine AD.popC rfl rfl rfl (POp.call (.mk' rfl rfl rfl rfl rfl) (p151 _ l.f.cls (by simp_all; omega) hm)) ?_
   refine AD.nil ?_
   refine DP.tailC 9 (by decide +kernel) rfl ?_
   refine Onc ?_; refine Ofa ?_; refine Sto ?_; refine S2 ?_
   refine Done.norR (rs := []) rfl (.nil) (AVleL.refl _) (by repeat (first | exact List.Sublist.refl _ | refine List.Sublist.cons _ ?_)) ?_
   exact ⟨vn, rfl, by rw [show askK k l = { k with must := k.must ||| 2 ^ l.f.cls.toNat } by simp_all [askK]]; rfl⟩
  ·
   replace h1 := nm h1
   refine S2 ?_; refine Ofa ?_; refine Ofa ?_; refine Old ?_; refine Ocm ?_; refine Omv ?_; refine Pfa ?_; refine Pld ?_; refine Opk ?_; refine Oas ?_; refine S2 ?_
   refine CW.cond rfl (fun h2 => ?_) (fun h2 => ?_)
   ·
    replace h2 := nm h2
    refine CW.dp mixed ?_
    refine DP.anyC 0 10 130 rfl (by decide +kernel) rfl rfl (by decide +kernel) ?_
    refine Amv ?_; refine Amv ?_; refine Anc ?_; refine Afa ?_; refine Afa ?_; refine Ald ?_; refine Afa ?_; refine Afa ?_; refine Ald ?_
    refine AD.popC rfl rfl rfl (POp.max2 rfl rfl rfl rfl rfl rfl) ?_
    refine AD.nil ?_
    refine DP.tailC 10 (by decide +kernel) rfl ?_
    refine Onc ?_; refine Ofa ?_; refine Ofa ?_; refine Sto ?_; refine S2 ?_
    refine Done.norR (rs := []) rfl (.nil) (AVleL.refl _) (by repeat (first | exact List.Sublist.refl _ | refine List.Sublist.cons _ ?_)) ?_
    exact ⟨vn, rfl, by rw [show askK k l = { k with low := if l.f.n > k.low then l.f.n else k.low } by simp_all [askK]]; rfl⟩
   ·
    replace h2 := nm h2
    refine S2 ?_; refine Ofa ?_; refine Ofa ?_; refine Old ?_; refine Ocm ?_; refine Oas ?_; refine S2 ?_
    refine CW.cond rfl (fun h3 => ?_) (fun h3 => ?_)
    ·
     replace h3 := nm h3
     refine CW.dp mixed ?_
     refine DP.anySC (fun sj => match sj with | 0 => (.blk blk 209 (KBcells k vn vs) :: rowE vn k.nots :: Hx) | _ => (.blk blk 209 (KBcells { k with high := (if l.f.n - 1 < k.high then l.f.n - 1 else k.high) } vn vs) :: rowE vn k.nots :: Hx)) [15] 0 16 130 rfl (by decide +kernel) rfl rfl rfl (by decide +kernel) rfl ?_
     refine TD.popC 0 0 (by decide +kernel) (by decide +kernel) (by decide +kernel) rfl rfl rfl (fun j hj1 hj2 => by rcases (show j = 0 by omega) with rfl <;> exact (POp.move rfl rfl rfl)) ?_
     refine TD.popC 0 1 (by decide +kernel) (by decide +kernel) (by decide +kernel) rfl rfl rfl (fun j hj1 hj2 => by rcases (show j = 0 ∨ j = 1 by omega) with rfl | rfl <;> exact (POp.move rfl rfl rfl)) ?_
     refine TD.popC 0 0 (by decide +kernel) (by decide +kernel) (by decide +kernel) rfl rfl rfl (fun j hj1 hj2 => by rcases (show j = 0 by omega) with rfl <;> exact (POp.move rfl rfl rfl)) ?_
     refine TD.popC 0 0 (by decide +kernel) (by decide +kernel) (by decide +kernel) rfl rfl rfl (fun j hj1 hj2 => by rcases (show j = 0 by omega) with rfl <;> exact ((by first | exact POp.nilCheck rfl rfl rfl | exact POp.nilCheckP rfl rfl rfl | exact POp.nilCheckF rfl rfl rfl))) ?_
     refine TD.popC 0 0 (by decide +kernel) (by decide +kernel) (by decide +kernel) rfl rfl rfl (fun j hj1 hj2 => by rcases (show j = 0 by omega) with rfl <;> exact ((by first | exact POp.fa rfl rfl rfl rfl | exact POp.faP rfl rfl rfl rfl))) ?_
     refine TD.popC 0 0 (by decide +kernel) (by decide +kernel) (by decide +kernel) rfl rfl rfl (fun j hj1 hj2 => by rcases (show j = 0 by omega) with rfl <;> exact ((by first | exact POp.fa rfl rfl rfl rfl | exact POp.faP rfl rfl rfl rfl))) ?_
     refine TD.popC 0 0 (by decide +kernel) (by decide +kernel) (by decide +kernel) rfl rfl rfl (fun j hj1 hj2 => by rcases (show j = 0 by omega) with rfl <;> exact ((by first | exact POp.ld1 rfl rfl rfl rfl | (apply POp.ld1H rfl rfl rfl; (case hm => repeat (first | exact .head _ | refine .tail _ ?_)); (case hy => rfl))))) ?_
     refine TD.popC 0 0 (by decide +kernel) (by decide +kernel) (by decide +kernel) rfl rfl rfl (fun j hj1 hj2 => by rcases (show j = 0 by omega) with rfl <;> exact ((by first | exact POp.fa rfl rfl rfl rfl | exact POp.faP rfl rfl rfl rfl))) ?_
     refine TD.popC 0 0 (by decide +kernel) (by decide +kernel) (by decide +kernel) rfl rfl rfl (fun j hj1 hj2 => by rcases (show j = 0 by omega) with rfl <;> exact ((by first | exact POp.fa rfl rfl rfl rfl | exact POp.faP rfl rfl rfl rfl))) ?_
     refine TD.popC 0 0 (by decide +kernel) (by decide +kernel) (by decide +kernel) rfl rfl rfl (fun j hj1 hj2 => by rcases (show j = 0 by omega) with rfl <;> exact ((by first | exact POp.ld1 rfl rfl rfl rfl | (apply POp.ld1H rfl rfl rfl; (case hm => repeat (first | exact .head _ | refine .tail _ ?_)); (case hy => rfl))))) ?_
     refine TD.popC 0 0 (by decide +kernel) (by decide +kernel) (by decide +kernel) rfl rfl rfl (fun j hj1 hj2 => by rcases (show j = 0 by omega) with rfl <;> exact (POp.arith rfl rfl rfl rfl rfl rfl (wrap64 (by omega)))) ?_
     refine TD.popC 0 0 (by decide +kernel) (by decide +kernel) (by decide +kernel) rfl rfl rfl (fun j hj1 hj2 => by rcases (show j = 0 by omega) with rfl <;> exact (POp.min2 rfl rfl rfl rfl rfl rfl)) ?_
     refine TD.popC 0 0 (by decide +kernel) (by decide +kernel) (by decide +kernel) rfl rfl rfl (fun j hj1 hj2 => by rcases (show j = 0 by omega) with rfl <;> exact ((by first | exact POp.nilCheck rfl rfl rfl | exact POp.nilCheckP rfl rfl rfl | exact POp.nilCheckF rfl rfl rfl))) ?_
     refine TD.popC 0 0 (by decide +kernel) (by decide +kernel) (by decide +kernel) rfl rfl rfl (fun j hj1 hj2 => by rcases (show j = 0 by omega) with rfl <;> exact ((by first | exact POp.fa rfl rfl rfl rfl | exact POp.faP rfl rfl rfl rfl))) ?_
     refine TD.popC 0 0 (by decide +kernel) (by decide +kernel) (by decide +kernel) rfl rfl rfl (fun j hj1 hj2 => by rcases (show j = 0 by omega) with rfl <;> exact ((by first | exact POp.fa rfl rfl rfl rfl | exact POp.faP rfl rfl rfl rfl))) ?_
     refine TD.stoC 0 (by decide +kernel) (by decide +kernel) (by decide +kernel) rfl rfl (.store rfl rfl rfl rfl rfl rfl rfl rfl (by repeat (first | exact Upd.head _ _ _ | apply Upd.tail)) (by exact rfl) (by exact rfl)) ?_
     refine TD.nil ?_
     refine DP.tailC 16 (by decide +kernel) rfl ?_
     refine Onc ?_; refine Ofa ?_; refine Sto ?_; refine S2 ?_
     refine Done.norR (rs := []) rfl (.nil) (AVleL.refl _) (by repeat (first | exact List.Sublist.refl _ | refine List.Sublist.cons _ ?_)) ?_
     exact ⟨vn, rfl, by rw [show askK k l = { k with high := if l.f.n - 1 < k.high then l.f.n - 1 else k.high, whole := true } by simp_all [askK]]; rfl⟩
    ·
     replace h3 := nm h3
     refine S2 ?_; refine Ofa ?_; refine Old ?_; refine Oas ?_; refine S2 ?_
     refine CW.cond rfl (fun h4 => ?_) (fun h4 => ?_)
     ·
      replace h4 := nm h4
      refine CW.dp mixed ?_
      refine DP.anyGC (fun v => .blk blk 209 (KBcells k vn vs) :: .row 3 1 v ((intEls k.nots).length + 1) ((intEls k.nots).flatten ++ [AV.i l.f.n]) :: Hx) 126 10 0 11 130 rfl (by decide +kernel) rfl rfl rfl (by decide +kernel) ?_
      refine TD.popG (by decide +kernel) rfl rfl rfl rfl (fun _ => POp.move rfl rfl rfl) ?_
      refine TD.popG0 (by decide +kernel) (by decide +kernel) rfl rfl rfl (POp.move rfl rfl rfl) ?_
      refine TD.popG0 (by decide +kernel) (by decide +kernel) rfl rfl rfl ((by first | exact POp.nilCheck rfl rfl rfl | exact POp.nilCheckP rfl rfl rfl | exact POp.nilCheckF rfl rfl rfl)) ?_
      refine TD.popG0 (by decide +kernel) (by decide +kernel) rfl rfl rfl ((by first | exact POp.fa rfl rfl rfl rfl | exact POp.faP rfl rfl rfl rfl)) ?_
      refine TD.popG0 (by decide +kernel) (by decide +kernel) rfl rfl rfl ((by first | exact POp.fa rfl rfl rfl rfl | exact POp.faP rfl rfl rfl rfl)) ?_
      refine TD.popG0 (by decide +kernel) (by decide +kernel) rfl rfl rfl ((by first | exact POp.ld1 rfl rfl rfl rfl | (apply POp.ld1H rfl rfl rfl; (case hm => repeat (first | exact .head _ | refine .tail _ ?_)); (case hy => rfl)))) ?_
      refine TD.popG0 (by decide +kernel) (by decide +kernel) rfl rfl rfl ((by first | exact POp.fa rfl rfl rfl rfl | exact POp.faP rfl rfl rfl rfl)) ?_
      refine TD.popG0 (by decide +kernel) (by decide +kernel) rfl rfl rfl ((by first | exact POp.fa rfl rfl rfl rfl | exact POp.faP rfl rfl rfl rfl)) ?_
      refine TD.popG0 (by decide +kernel) (by decide +kernel) rfl rfl rfl ((by first | exact POp.ld1 rfl rfl rfl rfl | (apply POp.ld1H rfl rfl rfl; (case hm => repeat (first | exact .head _ | refine .tail _ ?_)); (case hy => rfl)))) ?_
      refine TD.popG0 (by decide +kernel) (by decide +kernel) rfl rfl rfl (POp.row rfl rfl (by first | rfl | simp_all [strip]) rfl rfl rfl rfl rfl rfl) ?_
      refine TD.effG (by decide +kernel) (by decide +kernel) rfl rfl rfl (fun B I w r a hw hh ho => appendRow_runs (H' := fun v => .blk blk 209 (KBcells k vn vs) :: .row 3 1 v ((intEls k.nots).length + 1) ((intEls k.nots).flatten ++ [AV.i l.f.n]) :: Hx) (news := [[AV.i l.f.n]]) rfl rfl rfl rfl rfl (AVle.refl _) (by simp) rfl (fun v => .tail _ _ _ _ _ (.head _ _ _)) (by simp; omega) (by simp; omega) hw hh ho) ?_
      refine TD.nil (fun v126 => ?_)
      refine DP.tailC 11 (by decide +kernel) rfl ?_
      refine Onc ?_; refine Ofa ?_; refine Ofa ?_
      refine OL.rowOne (v := v126) (.tail _ (.head _)) (fun hv126 => ?_)
      apply OL.stoC rfl rfl rfl rfl rfl rfl rfl (one_bOk hv126) (one_all hv126) rfl
      (case hu => repeat (first | exact Upd.head _ _ _ | apply Upd.tail)); (case hfit => rfl); (case hds => rfl)
      refine S2 ?_
      refine Done.norR (rs := []) rfl (.nil) (AVleL.refl _) (by repeat (first | exact List.Sublist.refl _ | refine List.Sublist.cons _ ?_)) ?_
      exact ⟨_, rfl, by rw [show askK k l = { k with nots := k.nots ++ [l.f.n] } by simp_all [askK], rowE_snoc]; rfl⟩
     ·
      replace h4 := nm h4
      refine CW.dp mixed ?_
      refine DP.anySC (fun sj => match sj with | 0 => (.blk blk 209 (KBcells k vn vs) :: rowE vn k.nots :: Hx) | 1 => (.blk blk 209 (KBcells { k with low := (if l.f.n > k.low then l.f.n else k.low) } vn vs) :: rowE vn k.nots :: Hx) | _ => (.blk blk 209 (KBcells { k with low := (if l.f.n > k.low then l.f.n else k.low), high := (if l.f.n < k.high then l.f.n else k.high) } vn vs) :: rowE vn k.nots :: Hx)) [24, 28] 0 29 130 rfl (by decide +kernel) rfl rfl rfl (by decide +kernel) rfl ?_
      refine TD.popC 0 0 (by decide +kernel) (by decide +kernel) (by decide +kernel) rfl rfl rfl (fun j hj1 hj2 => by rcases (show j = 0 by omega) with rfl <;> exact (POp.move rfl rfl rfl)) ?_
      refine TD.popC 0 1 (by decide +kernel) (by decide +kernel) (by decide +kernel) rfl rfl rfl (fun j hj1 hj2 => by rcases (show j = 0 ∨ j = 1 by omega) with rfl | rfl <;> exact (POp.move rfl rfl rfl)) ?_
      refine TD.popC 0 2 (by decide +kernel) (by decide +kernel) (by decide +kernel) rfl rfl rfl (fun j hj1 hj2 => by rcases (show j = 0 ∨ j = 1 ∨ j = 2 by omega) with rfl | rfl | rfl <;> exact (POp.move rfl rfl rfl)) ?_
      refine TD.popC 0 0 (by decide +kernel) (by decide +kernel) (by decide +kernel) rfl rfl rfl (fun j hj1 hj2 => by rcases (show j = 0 by omega) with rfl <;> exact (POp.move rfl rfl rfl)) ?_
      refine TD.popC 0 0 (by decide +kernel) (by decide +kernel) (by decide +kernel) rfl rfl rfl (fun j hj1 hj2 => by rcases (show j = 0 by omega) with rfl <;> exact ((by first | exact POp.nilCheck rfl rfl rfl | exact POp.nilCheckP rfl rfl rfl | exact POp.nilCheckF rfl rfl rfl))) ?_
      refine TD.popC 0 0 (by decide +kernel) (by decide +kernel) (by decide +kernel) rfl rfl rfl (fun j hj1 hj2 => by rcases (show j = 0 by omega) with rfl <;> exact ((by first | exact POp.fa rfl rfl rfl rfl | exact POp.faP rfl rfl rfl rfl))) ?_
      refine TD.popC 0 0 (by decide +kernel) (by decide +kernel) (by decide +kernel) rfl rfl rfl (fun j hj1 hj2 => by rcases (show j = 0 by omega) with rfl <;> exact ((by first | exact POp.fa rfl rfl rfl rfl | exact POp.faP rfl rfl rfl rfl))) ?_
      refine TD.popC 0 0 (by decide +kernel) (by decide +kernel) (by decide +kernel) rfl rfl rfl (fun j hj1 hj2 => by rcases (show j = 0 by omega) with rfl <;> exact ((by first | exact POp.ld1 rfl rfl rfl rfl | (apply POp.ld1H rfl rfl rfl; (case hm => repeat (first | exact .head _ | refine .tail _ ?_)); (case hy => rfl))))) ?_
      refine TD.popC 0 0 (by decide +kernel) (by decide +kernel) (by decide +kernel) rfl rfl rfl (fun j hj1 hj2 => by rcases (show j = 0 by omega) with rfl <;> exact ((by first | exact POp.fa rfl rfl rfl rfl | exact POp.faP rfl rfl rfl rfl))) ?_
      refine TD.popC 0 0 (by decide +kernel) (by decide +kernel) (by decide +kernel) rfl rfl rfl (fun j hj1 hj2 => by rcases (show j = 0 by omega) with rfl <;> exact ((by first | exact POp.fa rfl rfl rfl rfl | exact POp.faP rfl rfl rfl rfl))) ?_
      refine TD.popC 0 0 (by decide +kernel) (by decide +kernel) (by decide +kernel) rfl rfl rfl (fun j hj1 hj2 => by rcases (show j = 0 by omega) with rfl <;> exact ((by first | exact POp.ld1 rfl rfl rfl rfl | (apply POp.ld1H rfl rfl rfl; (case hm => repeat (first | exact .head _ | refine .tail _ ?_)); (case hy => rfl))))) ?_
      refine TD.popC 0 0 (by decide +kernel) (by decide +kernel) (by decide +kernel) rfl rfl rfl (fun j hj1 hj2 => by rcases (show j = 0 by omega) with rfl <;> exact (POp.max2 rfl rfl rfl rfl rfl rfl)) ?_
      refine TD.popC 0 0 (by decide +kernel) (by decide +kernel) (by decide +kernel) rfl rfl rfl (fun j hj1 hj2 => by rcases (show j = 0 by omega) with rfl <;> exact (POp.move rfl rfl rfl)) ?_
      refine TD.popC 0 0 (by decide +kernel) (by decide +kernel) (by decide +kernel) rfl rfl rfl (fun j hj1 hj2 => by rcases (show j = 0 by omega) with rfl <;> exact ((by first | exact POp.nilCheck rfl rfl rfl | exact POp.nilCheckP rfl rfl rfl | exact POp.nilCheckF rfl rfl rfl))) ?_
      refine TD.popC 0 0 (by decide +kernel) (by decide +kernel) (by decide +kernel) rfl rfl rfl (fun j hj1 hj2 => by rcases (show j = 0 by omega) with rfl <;> exact ((by first | exact POp.fa rfl rfl rfl rfl | exact POp.faP rfl rfl rfl rfl))) ?_
      refine TD.popC 0 0 (by decide +kernel) (by decide +kernel) (by decide +kernel) rfl rfl rfl (fun j hj1 hj2 => by rcases (show j = 0 by omega) with rfl <;> exact ((by first | exact POp.fa rfl rfl rfl rfl | exact POp.faP rfl rfl rfl rfl))) ?_
      refine TD.popC 0 0 (by decide +kernel) (by decide +kernel) (by decide +kernel) rfl rfl rfl (fun j hj1 hj2 => by rcases (show j = 0 by omega) with rfl <;> exact ((by first | exact POp.ld1 rfl rfl rfl rfl | (apply POp.ld1H rfl rfl rfl; (case hm => repeat (first | exact .head _ | refine .tail _ ?_)); (case hy => rfl))))) ?_
      refine TD.popC 0 1 (by decide +kernel) (by decide +kernel) (by decide +kernel) rfl rfl rfl (fun j hj1 hj2 => by rcases (show j = 0 ∨ j = 1 by omega) with rfl | rfl <;> exact ((by first | exact POp.fa rfl rfl rfl rfl | exact POp.faP rfl rfl rfl rfl))) ?_
      refine TD.popC 0 1 (by decide +kernel) (by decide +kernel) (by decide +kernel) rfl rfl rfl (fun j hj1 hj2 => by rcases (show j = 0 ∨ j = 1 by omega) with rfl | rfl <;> exact ((by first | exact POp.fa rfl rfl rfl rfl | exact POp.faP rfl rfl rfl rfl))) ?_
      refine TD.popC 0 1 (by decide +kernel) (by decide +kernel) (by decide +kernel) rfl rfl rfl (fun j hj1 hj2 => by rcases (show j = 0 ∨ j = 1 by omega) with rfl | rfl <;> exact ((by first | exact POp.ld1 rfl rfl rfl rfl | (apply POp.ld1H rfl rfl rfl; (case hm => repeat (first | exact .head _ | refine .tail _ ?_)); (case hy => rfl))))) ?_
      refine TD.popC 0 1 (by decide +kernel) (by decide +kernel) (by decide +kernel) rfl rfl rfl (fun j hj1 hj2 => by rcases (show j = 0 ∨ j = 1 by omega) with rfl | rfl <;> exact (POp.min2 rfl rfl rfl rfl rfl rfl)) ?_
      refine TD.popC 0 0 (by decide +kernel) (by decide +kernel) (by decide +kernel) rfl rfl rfl (fun j hj1 hj2 => by rcases (show j = 0 by omega) with rfl <;> exact ((by first | exact POp.nilCheck rfl rfl rfl | exact POp.nilCheckP rfl rfl rfl | exact POp.nilCheckF rfl rfl rfl))) ?_
      refine TD.popC 0 0 (by decide +kernel) (by decide +kernel) (by decide +kernel) rfl rfl rfl (fun j hj1 hj2 => by rcases (show j = 0 by omega) with rfl <;> exact ((by first | exact POp.fa rfl rfl rfl rfl | exact POp.faP rfl rfl rfl rfl))) ?_
      refine TD.popC 0 0 (by decide +kernel) (by decide +kernel) (by decide +kernel) rfl rfl rfl (fun j hj1 hj2 => by rcases (show j = 0 by omega) with rfl <;> exact ((by first | exact POp.fa rfl rfl rfl rfl | exact POp.faP rfl rfl rfl rfl))) ?_
      refine TD.stoC 0 (by decide +kernel) (by decide +kernel) (by decide +kernel) rfl rfl (.store rfl rfl rfl rfl rfl rfl rfl rfl (by repeat (first | exact Upd.head _ _ _ | apply Upd.tail)) (by exact rfl) (by exact rfl)) ?_
      refine TD.popC 1 1 (by decide +kernel) (by decide +kernel) (by decide +kernel) rfl rfl rfl (fun j hj1 hj2 => by rcases (show j = 1 by omega) with rfl <;> exact ((by first | exact POp.nilCheck rfl rfl rfl | exact POp.nilCheckP rfl rfl rfl | exact POp.nilCheckF rfl rfl rfl))) ?_
      refine TD.popC 1 1 (by decide +kernel) (by decide +kernel) (by decide +kernel) rfl rfl rfl (fun j hj1 hj2 => by rcases (show j = 1 by omega) with rfl <;> exact ((by first | exact POp.fa rfl rfl rfl rfl | exact POp.faP rfl rfl rfl rfl))) ?_
      refine TD.popC 1 1 (by decide +kernel) (by decide +kernel) (by decide +kernel) rfl rfl rfl (fun j hj1 hj2 => by rcases (show j = 1 by omega) with rfl <;> exact ((by first | exact POp.fa rfl rfl rfl rfl | exact POp.faP rfl rfl rfl rfl))) ?_
      refine TD.stoC 1 (by decide +kernel) (by decide +kernel) (by decide +kernel) rfl rfl (.store rfl rfl rfl rfl rfl rfl rfl rfl (by repeat (first | exact Upd.head _ _ _ | apply Upd.tail)) (by exact rfl) (by exact rfl)) ?_
      refine TD.nil ?_
      refine DP.tailC 29 (by decide +kernel) rfl ?_
      refine Onc ?_; refine Ofa ?_; refine Sto ?_; refine S2 ?_
      refine Done.norR (rs := []) rfl (.nil) (AVleL.refl _) (by repeat (first | exact List.Sublist.refl _ | refine List.Sublist.cons _ ?_)) ?_
      exact ⟨vn, rfl, by rw [show askK k l = { k with low := if l.f.n > k.low then l.f.n else k.low, high := if l.f.n < k.high then l.f.n else k.high, whole := true } by simp_all [askK]]; rfl⟩
open Go.Eng.Fc Go.Shelf Go.Sort
def ren189 : Ren := { f := fun x => match x with | 189 => 60 | 125 => 114 | 257 => 113 | 128 => 163 | 129 => 164 | 294 => 154 | 295 => 155 | 296 => 156 | 297 => 157 | 298 => 158 | 299 => 159 | 216 => 160 | 300 => 161 | 301 => 162 | 328 => 195 | 329 => 196 | 330 => 197 | 331 => 198 | 332 => 199 | 215 => 200 | 343 => 219 | n => n, t := fun x => match x with | 28 => 23 | 3 => 3 | 46 => 148 | 0 => 0 | 51 => 195 | 53 => 134 | 4 => 4 | 183 => 187 | 182 => 186 | 131 => 192 | 5 => 5 | 9 => 9 | 218 => 227 | 222 => 219 | 228 => 242 | 229 => 243 | n => n, g := fun x => x }
theorem lays189 : Lays.n189 Tryz.prog ren189 where
 mixed := by kernel_rfl
 f125 := Tryz.func114.trans (congrArg some (by kernel_rfl))
 f128 := Tryz.func163.trans (congrArg some (by kernel_rfl))
 f129 := Tryz.func164.trans (congrArg some (by kernel_rfl))
 f189 := Tryz.func60.trans (congrArg some (by kernel_rfl))
 f215 := Tryz.func200.trans (congrArg some (by kernel_rfl))
 f216 := Tryz.func160.trans (congrArg some (by kernel_rfl))
 f257 := Tryz.func113.trans (congrArg some (by kernel_rfl))
 f294 := Tryz.func154.trans (congrArg some (by kernel_rfl))
 f295 := Tryz.func155.trans (congrArg some (by kernel_rfl))
 f296 := Tryz.func156.trans (congrArg some (by kernel_rfl))
 f297 := Tryz.func157.trans (congrArg some (by kernel_rfl))
 f298 := Tryz.func158.trans (congrArg some (by kernel_rfl))
 f299 := Tryz.func159.trans (congrArg some (by kernel_rfl))
 f300 := Tryz.func161.trans (congrArg some (by kernel_rfl))
 f301 := Tryz.func162.trans (congrArg some (by kernel_rfl))
 f328 := Tryz.func195.trans (congrArg some (by kernel_rfl))
 f329 := Tryz.func196.trans (congrArg some (by kernel_rfl))
 f330 := Tryz.func197.trans (congrArg some (by kernel_rfl))
 f331 := Tryz.func198.trans (congrArg some (by kernel_rfl))
 f332 := Tryz.func199.trans (congrArg some (by kernel_rfl))
 f343 := Tryz.func219.trans (congrArg some (by kernel_rfl))
 t0 := Tryz.underlying0
 a0 := Tryz.isAgg0
 z0 := Tryz.sizeOf0
 v0 := Tryz.zeroValue0
 t3 := Tryz.underlying3
 a3 := Tryz.isAgg3
 z3 := Tryz.sizeOf3
 v3 := Tryz.zeroValue3
 t4 := Tryz.underlying4
 a4 := Tryz.isAgg4
 z4 := Tryz.sizeOf4
 v4 := Tryz.zeroValue4
 t5 := Tryz.underlying5
 a5 := Tryz.isAgg5
 z5 := Tryz.sizeOf5
 v5 := Tryz.zeroValue5
 t9 := Tryz.underlying9
 a9 := Tryz.isAgg9
 z9 := Tryz.sizeOf9
 v9 := Tryz.zeroValue9
 t28 := Tryz.underlying23
 a28 := Tryz.isAgg23
 z28 := Tryz.sizeOf23
 v28 := Tryz.zeroValue23
 t46 := Tryz.underlying148
 a46 := Tryz.isAgg148
 z46 := Tryz.sizeOf148
 v46 := Tryz.zeroValue148
 t51 := Tryz.underlying195
 a51 := Tryz.isAgg195
 z51 := Tryz.sizeOf195
 v51 := Tryz.zeroValue195
 t53 := Tryz.underlying134
 a53 := Tryz.isAgg134
 z53 := Tryz.sizeOf134
 v53 := Tryz.zeroValue134
 t131 := Tryz.underlying192
 a131 := Tryz.isAgg192
 z131 := Tryz.sizeOf192
 v131 := Tryz.zeroValue192
 t182 := Tryz.underlying186
 a182 := Tryz.isAgg186
 z182 := Tryz.sizeOf186
 v182 := Tryz.zeroValue186
 t183 := Tryz.underlying187
 a183 := Tryz.isAgg187
 z183 := Tryz.sizeOf187
 v183 := Tryz.zeroValue187
 t218 := Tryz.underlying227
 a218 := Tryz.isAgg227
 z218 := Tryz.sizeOf227
 v218 := Tryz.zeroValue227
 t222 := Tryz.underlying219
 a222 := Tryz.isAgg219
 z222 := Tryz.sizeOf219
 v222 := Tryz.zeroValue219
 t228 := Tryz.underlying242
 a228 := Tryz.isAgg242
 z228 := Tryz.sizeOf242
 v228 := Tryz.zeroValue242
 t229 := Tryz.underlying243
 a229 := Tryz.isAgg243
 z229 := Tryz.sizeOf243
 v229 := Tryz.zeroValue243
def sortI (l : List Int) : List Int := l.mergeSort fun x y => decide (x ≤ y)
theorem intEls_flat (l : List Int) : (intEls l).flatten = (l.map (Value.int .i64)).map .val := by
 induction l with
 | nil => rfl
 | cons x r ih => simp only [intEls, List.map_cons, List.flatten_cons] at ih ⊢; rw [ih]; rfl
theorem p60 (B : Nat) (v : Value) (l : List Int) (hl : l.length ≤ 1000) (Hx : List Ent) : BCall B Tryz.prog 60 [.val v] (rowE v l :: Hx) (fun y H' => y = .tup [] ∧ H' = rowE v (sortI l) :: Hx) (fun _ => False) := by
 refine ⟨by kernel_rfl, fun I w vs hw hh hv => ?_⟩
 obtain ⟨u, rfl⟩ : ∃ u, vs = [u] := by cases hv with | cons _ u _ _ _ ht => cases ht; exact ⟨u, rfl⟩
 have hu : u = v := by cases hv with | cons _ u _ _ hx _ => exact rel_val hx
 subst hu
 obtain ⟨xs, hrow, hrx, hni⟩ := hh.ok _ (.head _)
 have hxs : xs = l.map (Value.int .i64) := by
  rw [intEls_flat] at hrx
  exact rel_vals hrx
 subst hxs
 rcases hrow.2 with ⟨rfl, hn⟩ | ⟨g, cap, cur, rfl, hBg, hg, hnc, hcm, hcs, htk⟩
 ·have : l = [] := by cases l with | nil => rfl | cons x r => simp [intEls] at hn
  subst this
  refine (Any.slices_Sort_int_none lays189 none 0 w).mono fun e w' ⟨he, hw'⟩ => ?_
  subst hw'
  exact ⟨I, _, hw, Ext.refl _ _ _, hh, .inl ⟨_, _, he, .tup _ _ .nil, rfl, by simp [sortI]⟩⟩
 ·have hlen : (intEls l).length = l.length := by simp [intEls]
  rw [hlen] at hnc htk
  rw [Nat.mul_one] at htk
  have hlen2 : (sortI l).length = l.length := List.length_mergeSort _
  refine ((hlen ▸ Any.slices_Sort_int lays189 g 0 cap l w (holds_of_blockI hg htk) (Array.getElem?_eq_some_iff.1 hg).1 (by omega) : Calls Tryz.prog 60 #[.slice (some ⟨g, 0, none⟩) (intEls l).length cap] w _)).mono fun e w' ⟨he, n, os, hw'⟩ => ?_
  have e3 : w.grownBy w' (some g) := by subst hw'; exact grownBy_sortedI _
  have e2 : w'.ownsRow B 3 1 (.slice (some ⟨g, 0, none⟩) l.length cap) l.length ((sortI l).map (Value.int .i64)) := by
   subst hw'; exact ownsRow_sortedI (ss := l) hlen2 hBg hg hnc hcm hcs
  have hbel : Go.RowKit.Below B w w' := (Go.RowKit.Below.refl B w).grown e3 hw.base (fun j hj => by cases hj; exact hBg)
  have hcell : ∀ b i, I b i → w'.cell? ⟨b, i, none⟩ = w.cell? ⟨b, i, none⟩ := fun b i hI =>
   World.cell?_of_block (a := ⟨b, i, none⟩) (e3.block b (hw.lt hI) (fun e => by cases e; exact hni _ rfl i hI))
  have hkk : Keeps I w I w' := ⟨fun _ _ x => x, hcell⟩
  refine ⟨I, rowE (.slice (some ⟨g, 0, none⟩) (intEls l).length cap) (sortI l) :: Hx, ⟨Nat.le_trans hw.base hbel.size, fun b o hI => by rw [hcell b o hI]; exact hw.there b o hI⟩, ⟨hkk.imm, hkk.cell, hbel⟩, ?_, .inl ⟨_, _, he, .tup _ _ .nil, rfl, rfl⟩⟩
  refine hh.upd (.head _ _ _) hkk (fun b hlt hne => e3.block b hlt (fun e => hne (by cases e; rfl))) (fun b o hx => .inl hx) ⟨(sortI l).map (Value.int .i64), ?_, ?_, hni⟩ (fun b hb => .inl hb)
  ·rw [hlen, show (intEls (sortI l)).length = l.length by simp [intEls, hlen2]]; exact e2
  ·rw [intEls_flat]; exact relL_val _
def KBmap (K : List KB) : List (Value × AV) := K.map fun e => (e.key, .p e.blk 0)
def KBents (K : List KB) : List Ent := K.flatMap KB.ents
def SentsAt (mb : Nat) (K1 : List KB) (e : KB) (K2 : List KB) (Hx : List Ent) : List Ent := e.ents ++ (.map mb (KBmap (K1 ++ e :: K2)) :: (KBents (K1 ++ K2) ++ Hx))
def Sents (mb : Nat) (K : List KB) (Hx : List Ent) : List Ent := .map mb (KBmap K) :: (KBents K ++ Hx)
theorem permPick (mb : Nat) (K1 : List KB) (e : KB) (K2 : List KB) (Hx : List Ent) : (Sents mb (K1 ++ e :: K2) Hx).Perm (SentsAt mb K1 e K2 Hx) := by
 unfold Sents SentsAt KBents
 simp only [List.flatMap_append, List.flatMap_cons]
 generalize e.ents = E
 generalize Ent.map mb _ = m
 classical
 exact List.perm_iff_count.2 fun a => by simp only [List.count_append, List.count_cons]; omega
structure KRep (K : List KB) (kn : Value → Kn) : Prop where
 has : ∀ e ∈ K, kn e.key = e.kn
 none : ∀ v, (∀ e ∈ K, e.key ≠ v) → kn v = kn0
 good : ∀ e ∈ K, goodKey Tryz.prog 158 e.key
 nodup : K.Pairwise fun a b => a.key ≠ b.key
structure AtR (K : List KB) (kn : Value → Kn) (key : Value) (K1 : List KB) (e : KB) (K2 : List KB) : Prop where
 ek : e.key = key
 ekn : e.kn = kn key
 rep : KRep (K1 ++ e :: K2) kn
theorem KRep.found {K1 K2 : List KB} {e : KB} {kn : Value → Kn} (h : KRep (K1 ++ e :: K2) kn) : AtR (K1 ++ e :: K2) kn e.key K1 e K2 := ⟨rfl, (h.has e (by simp)).symm, h⟩
theorem KRep.new {K : List KB} {kn : Value → Kn} {key : Value} (h : KRep K kn) (hg : goodKey Tryz.prog 158 key) (hn : ∀ e ∈ K, e.key ≠ key) (e : KB) (h1 : e.key = key) (h2 : e.kn = kn0) : AtR K kn key K e [] := by
 have h0 : kn key = kn0 := h.none key hn
 refine ⟨h1, h2.trans h0.symm, ⟨fun x hx => ?_, fun v hv => h.none v fun x hx => hv x (by simp [hx]), fun x hx => ?_, ?_⟩⟩
 ·rcases List.mem_append.1 hx with hx | hx
  ·exact h.has x hx
  ·simp at hx; subst hx; rw [h1, h2, h0]
 ·rcases List.mem_append.1 hx with hx | hx
  ·exact h.good x hx
  ·simp at hx; subst hx; rw [h1]; exact hg
 ·rw [List.pairwise_append]
  refine ⟨h.nodup, by simp, fun a ha b hb => ?_⟩
  simp at hb; subst hb; rw [h1]; exact hn a ha
open Classical in
noncomputable def updK (kn : Value → Kn) (key : Value) (k : Kn) : Value → Kn := fun v => if v = key then k else kn v
theorem KRep.upd {K1 K2 : List KB} {e e' : KB} {kn : Value → Kn} (h : KRep (K1 ++ e :: K2) kn) (hk : e'.key = e.key) : KRep (K1 ++ e' :: K2) (updK kn e.key e'.kn) := by
 have hp := List.pairwise_append.1 h.nodup
 have hp2 := List.pairwise_cons.1 hp.2.1
 refine ⟨fun x hx => ?_, fun v hv => ?_, fun x hx => ?_, ?_⟩
 ·unfold updK
  rcases List.mem_append.1 hx with hx | hx
  ·rw [if_neg (hp.2.2 x hx e (.head _))]; exact h.has x (by simp [hx])
  ·rcases List.mem_cons.1 hx with rfl | hx
   ·rw [if_pos hk]
   ·rw [if_neg (fun q => hp2.1 x hx q.symm)]; exact h.has x (by simp [hx])
 ·unfold updK
  rw [if_neg (fun q => hv e' (by simp) (hk.trans q.symm))]
  refine h.none v fun x hx => ?_
  rcases List.mem_append.1 hx with hx | hx
  ·exact hv x (by simp [hx])
  ·rcases List.mem_cons.1 hx with rfl | hx
   ·rw [← hk]; exact hv e' (by simp)
   ·exact hv x (by simp [hx])
 ·rcases List.mem_append.1 hx with hx | hx
  ·exact h.good x (by simp [hx])
  ·rcases List.mem_cons.1 hx with rfl | hx
   ·rw [hk]; exact h.good e (by simp)
   ·exact h.good x (by simp [hx])
 ·rw [List.pairwise_append]
  refine ⟨hp.1, List.pairwise_cons.2 ⟨fun x hx => by rw [hk]; exact hp2.1 x hx, hp2.2⟩, fun a ha b hb => ?_⟩
  rcases List.mem_cons.1 hb with rfl | hb
  ·rw [hk]; exact hp.2.2 a ha e (.head _)
  ·exact hp.2.2 a ha b (.tail _ hb)
theorem KBmap_good {K : List KB} {kn : Value → Kn} (h : KRep K kn) : ∀ p ∈ KBmap K, goodKey Tryz.prog 158 p.1 := fun p hp => by
 obtain ⟨e, he, rfl⟩ := List.mem_map.1 hp
 exact h.good e he
theorem KBmap_mem {K : List KB} {key : Value} {u : AV} (h : (key, u) ∈ KBmap K) : ∃ K1 e K2, K = K1 ++ e :: K2 ∧ e.key = key ∧ u = .p e.blk 0 := by
 obtain ⟨e, he, h2⟩ := List.mem_map.1 h
 obtain ⟨K1, K2, hK⟩ := List.append_of_mem he
 cases h2
 exact ⟨K1, e, K2, hK, rfl, rfl⟩
theorem perm3 (a b c : Ent) (R : List Ent) : (a :: b :: c :: R).Perm (c :: a :: b :: R) := (List.perm_middle (l₁ := [a, b]) (a := c) (l₂ := R))
theorem pb170 (B : Nat) (W : FW) (mb : Nat) {K : List KB} {kn : Value → Kn} (hK : KRep K kn) (arg : Int) (path : List Int) (hgood : goodKey Tryz.prog 158 (keyS arg path)) (Hx : List Ent) :
  BCall B Tryz.prog 170 [sceneP W mb, AV.spot arg path] (Sents mb K Hx) (fun y H' => ∃ K1 e K2, y = .p e.blk 0 ∧ AtR K kn (keyS arg path) K1 e K2 ∧ H' = SentsAt mb K1 e K2 Hx) (fun _ => False) := by
 refine BCall.of (n := 28) Tryz.func170 rfl (by kernel_rfl) rfl rfl (fun I w0 => ?_)
 refine S2 ?_; refine Obx ?_; refine Oas ?_; refine S3 ?_
 refine CW.dp mixed ?_
 refine DP.anyC 0 5 28 rfl (by decide +kernel) rfl rfl (by decide +kernel) ?_
 refine Amv ?_; refine Anc ?_; refine Afa ?_; refine Ald ?_; refine Ala ?_
 refine AD.nil ?_
 refine DP.one (k := 5) (by decide +kernel) rfl ?_
 refine OL.lookupM (es := KBmap K) (vs := keyV arg path) rfl rfl rfl rfl rfl rfl rfl rfl (AVle.refl _) (.head _) hgood (KBmap_good hK) (fun u hu => ?_) (fun habs => ?_)
 ·
  obtain ⟨K1, e, K2, rfl, hek, rfl⟩ := KBmap_mem hu
  refine OL.nil (Done.dp ?_)
  refine DP.one (k := 6) (by decide +kernel) rfl ?_
  refine Omv ?_
  refine OL.nil (Done.dp ?_)
  refine DP.anyC 7 10 28 rfl (by decide +kernel) rfl rfl (by decide +kernel) ?_
  refine Aex ?_; refine Aex ?_; refine Aas ?_
  refine AD.nil ?_
  refine DP.tailC 10 (by decide +kernel) rfl ?_
  refine Oas ?_; refine S5 ?_; refine Omv ?_; refine Ont ?_; refine S2 ?_
  refine CW.cond rfl (fun h0 => ?_) (fun h0 => ?_)
  ·
   exact absurd h0 (by simp)
  ·
   replace h0 := nm h0
   refine S4 ?_; refine Omv ?_; refine Oas ?_; refine S3 ?_
   refine Done.perm (permPick mb K1 e K2 Hx) ?_
   refine Done.retR (rs := [.tmp 4]) rfl (.tmp rfl (.nil)) (AVleL.refl _) (by exact List.Sublist.refl _) ?_
   exact ⟨K1, e, K2, rfl, (show keyS arg path = e.key from hek.symm) ▸ hK.found, rfl⟩
 ·
  refine OL.nil (Done.dp ?_)
  refine DP.one (k := 6) (by decide +kernel) rfl ?_
  refine Omv ?_
  refine OL.nil (Done.dp ?_)
  refine DP.anyC 7 10 28 rfl (by decide +kernel) rfl rfl (by decide +kernel) ?_
  refine Aex ?_; refine Aex ?_; refine Aas ?_
  refine AD.nil ?_
  refine DP.tailC 10 (by decide +kernel) rfl ?_
  refine Oas ?_; refine S5 ?_; refine Omv ?_; refine Ont ?_; refine S2 ?_
  refine CW.cond rfl (fun h1 => ?_) (fun h1 => ?_)
  ·
   replace h1 := nm h1
   refine S2 ?_; refine Obd ?_; refine Obd ?_
   refine OL.boxC rfl rfl rfl rfl rfl rfl rfl (fun nb => ?_)
   refine Oas ?_; refine S2 ?_
   refine CW.dp mixed ?_
   refine DP.anyC 0 6 28 rfl (by decide +kernel) rfl rfl (by decide +kernel) ?_
   refine Amv ?_; refine Anc ?_; refine Afa ?_; refine Ald ?_; refine Ala ?_; refine Amv ?_
   refine AD.nil ?_
   refine DP.tailC 6 (by decide +kernel) rfl ?_
   refine OL.mapUpdateM (es := KBmap K) (vs := keyV arg path) rfl rfl rfl rfl rfl rfl rfl (AVle.refl _) rfl rfl (.tail _ _ _ _ _ (.head _ _ _)) hgood (KBmap_good hK) habs ?_
   refine S4 ?_; refine Omv ?_; refine Oas ?_; refine S3 ?_
   refine Done.rowNil 3 1 ?_
   refine Done.rowNil 3 1 ?_
   refine Done.perm (perm3 _ _ _ _) ?_
   refine Done.retR (rs := [.tmp 4]) rfl (.tmp rfl (.nil)) (AVleL.refl _) (by exact List.Sublist.refl _) ?_
   exact ⟨K, ⟨keyS arg path, nb, kn0, .slice none 0 0, .slice none 0 0⟩, [], rfl, hK.new hgood (fun e he hk => habs (e.key, .p e.blk 0) (List.mem_map_of_mem he) hk) _ rfl rfl, by simp only [SentsAt, KBmap, List.map_append, List.map_cons, List.map_nil, List.append_nil]; rfl⟩
  ·
   exact absurd h1 (by simp)
end Go.Proofs.YtiljpbljebfhnaaGreat
