/- Part 13 of the proof: contracts of functions of the program and what they need. No condition beyond those that each theorem names. -/
import Derived.Test.YtiljpbljebfhnaaGreatSdP12
set_option linter.unusedVariables false
set_option linter.unusedSimpArgs false
set_option maxRecDepth 10000
namespace Go.Proofs.YtiljpbljebfhnaaGreat
open Go.Eng
open Go.Eng.Fc
theorem cases_half : ∀ (f : Fact), okB f = true → ∀ c, ∀ l ∈ casesP f c, 2 * l.length ≤ nodesN f + 1 := by
 refine Fact.ind1 fun f ih hok c l hl => ?_
 have hp := ok_parts hok
 by_cases h1 : f.op = 1
 ·rw [cases_true h1] at hl
  cases c <;> simp at hl
  subst hl; simp
 by_cases h5 : f.op = 5
 ·have hk := kids_one hok h5
  rw [cases_not h5 (by omega)] at hl
  have := ih _ (getD_mem (by omega)) (hp.2.2.2.2 _ (getD_mem (by omega))) _ l hl
  have h2 := nodesNs_one f.kids (by omega)
  rw [nodesN_eq]; omega
 by_cases hlf : leafP f = true
 ·rw [cases_leaf h1 h5 hlf] at hl
  simp at hl; subst hl; rw [nodesN_eq]; simp only [List.length_singleton]; omega
 ·have hlf' : leafP f = false := by simpa using hlf
  have hk := kids_two hok h1 h5 hlf'
  have n2 := nodesNs_two f.kids (by omega)
  have i0 := ih (f.kids.getD 0 default) (getD_mem (by omega)) (hp.2.2.2.2 _ (getD_mem (by omega))) c
  have i1 := ih (f.kids.getD 1 default) (getD_mem (by omega)) (hp.2.2.2.2 _ (getD_mem (by omega))) c
  rw [nodesN_eq]
  cases hc : (c == (f.op == 6)) with
  | true =>
   rw [cases_either h1 h5 hlf' hc (by omega)] at hl
   rcases List.mem_append.1 hl with h | h
   ·have := i0 l h; omega
   ·have := i1 l h; omega
  | false =>
   rw [cases_both h1 h5 hlf' hc (by omega)] at hl
   obtain ⟨a, ha, hl⟩ := List.mem_flatMap.1 hl
   obtain ⟨b, hb, rfl⟩ := List.mem_map.1 hl
   have := joined_len a b
   have := i0 a ha
   have := i1 b hb
   omega
theorem spots_lit {W : FW} {kn : Value → Kn} {a : Int} {c : List FLit} (hs : ∀ p s, p.length ≤ 2 → s ∈ (kn (keyS a p)).slots → ∃ l ∈ c, l.f.arg = a ∧ (p ++ [s]) <+: l.f.path) :
  ∀ (d : Nat) (p : List Int), p.length + d ≤ 2 → ∀ x ∈ spotsK W kn a d p, x.2.length ≤ 2 ∧ (x.2 = p ∨ ∃ l ∈ c, l.f.arg = a ∧ x.2 <+: l.f.path) := by
 intro d
 induction d with
 | zero => intro p hd x hx; rw [spotsK, List.mem_singleton] at hx; subst hx; exact ⟨by simpa using hd, .inl rfl⟩
 | succ d ih =>
  intro p hd x hx
  rw [spotsK] at hx
  rcases List.mem_cons.1 hx with rfl | hx
  ·exact ⟨by show p.length ≤ 2; omega, .inl rfl⟩
  ·obtain ⟨k, hk, hx⟩ := List.mem_flatMap.1 hx
   obtain ⟨h1, h2⟩ := ih (p ++ [(k : Int)]) (by simp; omega) x hx
   refine ⟨h1, .inr ?_⟩
   rcases h2 with h2 | h2
   ·rw [h2]; exact hs p k (by omega) (List.contains_iff_mem.1 (List.mem_filter.1 hk).2)
   ·exact h2
def allSpots (W : FW) (kn : Value → Kn) (n : Nat) : List (Int × List Int) := (List.range n).flatMap fun (a : Nat) => spotsK W kn (a : Int) 2 []
theorem all_nodup (W : FW) (kn : Value → Kn) (n : Nat) : (allSpots W kn n).Nodup := by
 refine nodup_fm (fun a _ => spots_nodup 2 []) (List.nodup_range.imp fun {i j} hij x hx y hy e => ?_)
 subst e
 have h1 := (spots_in 2 [] _ hx).1
 have h2 := (spots_in 2 [] _ hy).1
 omega
theorem args_few {W : FW} {kn : Value → Kn} (K : KnOk W kn) (hW : W.owner.length ≤ 40) : ∀ k, k ≤ 3 → (argsV W kn k).2.1.length ≤ (allSpots W kn k).length ∧ (argsV W kn k).2.2.length ≤ (allSpots W kn k).length
 | 0, _ => ⟨Nat.zero_le _, Nat.zero_le _⟩
 | k + 1, hk => by
  obtain ⟨h1, h2⟩ := args_few K hW k (by omega)
  rw [argsV_succ]
  have e : allSpots W kn (k + 1) = allSpots W kn k ++ spotsK W kn (k : Int) 2 [] := by
   rw [allSpots, List.range_succ, List.flatMap_append]; simp [allSpots]
  rw [e, List.length_append]
  generalize argsV W kn k = acc at *
  obtain ⟨g1, g2, g3⟩ := value_few K hW 2 [] (spot_root (a := k) (by omega)) rfl acc.2
  exact ⟨by show (valueP W kn (k : Int) 2 acc.2 []).2.1.length ≤ _; omega, by show (valueP W kn (k : Int) 2 acc.2 []).2.2.length ≤ _; omega⟩
theorem all_few {W : FW} {kn : Value → Kn} {c : List FLit} (hs : ∀ a p s, p.length ≤ 2 → s ∈ (kn (keyS a p)).slots → ∃ l ∈ c, l.f.arg = a ∧ (p ++ [s]) <+: l.f.path) : (allSpots W kn 3).length ≤ 3 + 2 * c.length := by
 have h := sub_len (allSpots W kn 3) ([((0 : Int), []), (1, []), (2, [])] ++ c.flatMap fun l => [(l.f.arg, l.f.path.take 1), (l.f.arg, l.f.path.take 2)]) (all_nodup W kn 3) fun x hx => by
  obtain ⟨a, ha, hx⟩ := List.mem_flatMap.1 hx
  have ha := List.mem_range.1 ha
  have h1 := (spots_in 2 [] _ hx).1
  obtain ⟨h2, h3⟩ := spots_lit (hs (a : Int)) 2 [] (by simp) x hx
  have root : x.2 = [] → x ∈ [((0 : Int), ([] : List Int)), (1, []), (2, [])] ++ c.flatMap fun l => [(l.f.arg, l.f.path.take 1), (l.f.arg, l.f.path.take 2)] := fun e => by
   obtain ⟨y, q⟩ := x
   simp only at e h1
   subst e; subst h1
   have : a = 0 ∨ a = 1 ∨ a = 2 := by omega
   rcases this with rfl | rfl | rfl <;> simp
  rcases h3 with h3 | ⟨l, hl, h4, h5⟩
  ·exact root h3
  ·have h6 := List.prefix_iff_eq_take.1 h5
   have h7 : x.2.length = 0 ∨ x.2.length = 1 ∨ x.2.length = 2 := by omega
   obtain ⟨y, q⟩ := x
   simp only at h1 h2 h5 h6 h7
   rcases h7 with e | e | e
   ·exact root (List.eq_nil_of_length_eq_zero e)
   ·refine List.mem_append_right _ (List.mem_flatMap.2 ⟨l, hl, ?_⟩)
    rw [h6, e, h1, ← h4]; simp
   ·refine List.mem_append_right _ (List.mem_flatMap.2 ⟨l, hl, ?_⟩)
    rw [h6, e, h1, ← h4]; simp
 have e : ∀ c : List FLit, (c.flatMap fun l => [(l.f.arg, l.f.path.take 1), (l.f.arg, l.f.path.take 2)]).length = 2 * c.length := fun c => by
  induction c with
  | nil => rfl
  | cons x r ih => rw [List.flatMap_cons, List.length_append, ih]; simp; omega
 rw [List.length_append, e] at h
 simpa [Nat.add_comm] using h
theorem stage_slot {W : FW} {c : List FLit} (h : LsOk W c) {a : Int} {p : List Int} {s : Int} (hp : p.length ≤ 2) (hs : s ∈ (stageK c (keyS a p)).slots) : ∃ l ∈ c, l.f.arg = a ∧ (p ++ [s]) <+: l.f.path := by
 rw [stage_rep (W := W) h.ok a p hp, h.slots] at hs
 obtain ⟨l, hl, hw⟩ := List.any_eq_true.1 hs
 rw [wayL, Bool.and_eq_true, beq_iff_eq] at hw
 exact ⟨l, hl, hw.1, beg_iff.1 hw.2⟩
theorem model_few {W : FW} {c : List FLit} (h : LsOk W c) (K : KnOk W (stageK c)) : (argsV W (stageK c) 3).2.1.length ≤ 3 + 2 * c.length ∧ (argsV W (stageK c) 3).2.2.length ≤ 3 + 2 * c.length := by
 have h1 := args_few K (world_own h.w) 3 (by omega)
 have h2 := all_few (W := W) (kn := stageK c) (c := c) (fun a p s hp hs => stage_slot h hp hs)
 omega
theorem parents_of {i : Nat} : ∀ (l seen : List Int), (seen ++ l).Nodup → (∀ x ∈ l, 3 ≤ x ∧ x < 3 + i) → parentsP i seen l = true
 | [], seen, _, _ => rfl
 | p :: r, seen, hn, hr => by
  have h1 := hr p (.head _)
  have hp : seen.contains p = false := by
   cases hc : seen.contains p with
   | false => rfl
   | true =>
    have := (List.nodup_append.1 hn).2.2 p (List.contains_iff_mem.1 hc) p (.head _)
    exact absurd rfl this
  rw [parentsP, hp, parents_of r (seen ++ [p]) (by rw [List.append_assoc]; exact hn) (fun x hx => hr x (.tail _ hx)), decide_eq_false (by omega), decide_eq_false (by omega)]; rfl
theorem upto_pw (s c : Nat) : (uptoP s c).Pairwise (· < ·) := by
 rw [uptoP, List.pairwise_map]
 exact (List.pairwise_lt_range.filter _).imp fun h => by omega
theorem upto_rng {s c : Nat} : ∀ x ∈ uptoP s c, 3 ≤ x ∧ x < c := fun x hx => by
 obtain ⟨b, hb, rfl⟩ := List.mem_map.1 hx
 obtain ⟨h1, h2⟩ := List.mem_filter.1 hb
 have := List.mem_range.1 h1
 simp only [Bool.and_eq_true, decide_eq_true_eq] at h2
 omega
theorem newP_ok {n i : Nat} (s : Nat) (h : n ≤ i) : parentsP i [] (newP n s) = true := by
 refine parents_of _ _ ?_ fun x hx => ?_
 ·rw [List.nil_append]; exact (upto_pw s _).imp fun h => by omega
 ·have := upto_rng x hx; omega
theorem parentss_more {W : FW} (hw : worldP W = true) : ∀ (bits : List Nat), parentssP 0 (W.parents ++ bits.map (newP W.parents.length)) = true := by
 have h0 : parentssP 0 W.parents = true := by simp only [worldP, Bool.and_eq_true] at hw; exact hw.1.2
 have : ∀ (bits : List Nat) (P : List (List Int)), parentssP 0 P = true → W.parents.length ≤ P.length → parentssP 0 (P ++ bits.map (newP W.parents.length)) = true := by
  intro bits
  induction bits with
  | nil => intro P hP _; rw [List.map_nil, List.append_nil]; exact hP
  | cons s r ih =>
   intro P hP hl
   have := ih (P ++ [newP W.parents.length s]) (by rw [parentss_snoc, hP, Nat.zero_add, newP_ok s hl]; rfl) (by simp; omega)
   rwa [List.append_assoc] at this
 exact fun bits => this bits _ h0 (Nat.le_refl _)
theorem own_more {W : FW} (bits : List Nat) {c : Int} (h : ownP W c = true) : ownP (moreW W bits) c = true := by
 simp only [ownP, Bool.and_eq_true, decide_eq_true_eq, moreW, List.length_append, List.length_map] at h ⊢
 omega
theorem world_more {W : FW} (hw : worldP W = true) {bits : List Nat} (hl : W.parents.length + bits.length ≤ 60) : worldP (moreW W bits) = true := by
 have hp := parentss_more hw bits
 have ho := world_own hw
 simp only [worldP, Bool.and_eq_true, List.all_eq_true] at hw
 rw [worldP, decide_eq_true (by show (W.parents ++ _).length ≤ 60; simpa using hl), decide_eq_true (show (moreW W bits).owner.length ≤ 40 from ho), show parentssP 0 (moreW W bits).parents = true from hp]
 simp only [Bool.true_and, List.all_eq_true]
 exact fun c hc => own_more bits (hw.2 c hc)
theorem bigger_more (W : FW) (bits : List Nat) : biggerP (moreW W bits) W = true := by
 have h1 : W.parents.length ≤ (moreW W bits).parents.length := by show _ ≤ (W.parents ++ _).length; simp
 rw [biggerP, decide_eq_true h1, decide_eq_true (show W.owner.length ≤ (moreW W bits).owner.length from Nat.le_refl _), sameW]
 have e1 : (moreW W bits).parents.take W.parents.length = W.parents := List.take_left
 have e2 : (moreW W bits).owner.take W.owner.length = W.owner := List.take_length
 rw [e1, e2]; simp
theorem big_more {W : FW} (hw : worldP W = true) {bits : List Nat} (hl : W.parents.length + bits.length ≤ 60) : BigW W (moreW W bits) := ⟨hw, world_more hw hl, List.prefix_append _ _, List.prefix_refl _⟩
theorem spkNs_max {m : Int} : ∀ (l : List Fact) (a : Int), (∀ k ∈ l, spkN k ≤ m) → a ≤ m → spkNs l a ≤ m
 | [], a, _, h => by rw [spkNs]; exact h
 | k :: r, a, hk, h => by
  rw [spkNs]
  refine spkNs_max r _ (fun x hx => hk x (.tail _ hx)) ?_
  split
  ·exact hk k (.head _)
  ·exact h
theorem spk_three {W : FW} : ∀ f : Fact, wfB W f = true → spkN f ≤ 3 := by
 refine Fact.ind1 fun f ih h => ?_
 obtain ⟨hn, hk⟩ := wfB_iff.1 h
 rw [spkN_eq]
 refine spkNs_max _ _ (fun k hkm => ih k hkm (hk k hkm)) ?_
 split
 ·rename_i hl
  simp only [nodeOkB, Bool.and_eq_true] at hn
  have h3 := hn.2
  rw [if_pos hl] at h3
  simp only [argP, Bool.and_eq_true, Bool.not_eq_true', Bool.or_eq_false_iff, decide_eq_false_iff_not] at h3
  omega
 ·omega
theorem snd_of {W : FW} {a b : Fact} {bits : List Nat} {os : Obs} {vs : List (Int × Int)} (h : goodP W [a, b] = true) (hl : W.parents.length + bits.length ≤ 60) (M : MdlOk W (andN a b) (moreW W bits, os, vs)) (ha : spkN a ≤ 3) (hb : spkN b ≤ 3) : SndOk a b (moreW W bits, os, vs) := by
 have hB := big_more (good_w h) hl
 have hg : goodP W [a] = true ∧ goodP W [b] = true := by
  simp only [goodP, List.all_cons, List.all_nil, Bool.and_true, Bool.and_eq_true] at h ⊢
  exact ⟨⟨h.1, h.2.1⟩, h.1, h.2.2⟩
 have hh : handedP (moreW W bits) os vs = true := by rw [handedP, M.things, M.args]; rfl
 have h3 : vs.length = 3 := M.three
 have he := M.holds
 rw [show andN a b = andF a (notF b) from rfl, ev_andF, ev_notF, Bool.and_eq_true, Bool.not_eq_true'] at he
 exact ⟨by rw [takesP, hB.good hg.1, hh, decide_eq_true (by show spkN a ≤ (vs.length : Int); omega)]; rfl, by rw [takesP, hB.good hg.2, hh, decide_eq_true (by show spkN b ≤ (vs.length : Int); omega)]; rfl, he.1, he.2⟩
def IsCls (W : FW) (bits : List Nat) (s : Nat) (c : Int) : Prop := (3 ≤ c ∧ c < 3 + W.parents.length ∧ isUp W s c.toNat = true) ∨ ∃ j : Nat, bits[j]? = some s ∧ c = 3 + W.parents.length + j
theorem IsCls.mono {W : FW} {bits bits' : List Nat} {s : Nat} {c : Int} (h : IsCls W bits s c) (hp : bits <+: bits') : IsCls W bits' s c := by
 rcases h with h | ⟨j, h1, h2⟩
 ·exact .inl h
 ·obtain ⟨r, rfl⟩ := hp
  have hj := (List.getElem?_eq_some_iff.1 h1).1
  exact .inr ⟨j, by rw [List.getElem?_append_left hj]; exact h1, h2⟩
theorem class_is (W : FW) (bits : List Nat) (s : Nat) : IsCls W (classP W bits s).2 s (classP W bits s).1 ∧ bits <+: (classP W bits s).2 := by
 unfold classP
 cases ho : oldC W s with
 | some c =>
  have h1 := List.find?_some ho
  have h2 := List.mem_range.1 (List.mem_of_find?_eq_some ho)
  simp only [Bool.and_eq_true, decide_eq_true_eq] at h1
  exact ⟨.inl ⟨by simp only; omega, by simp only; omega, by simpa using h1.2⟩, List.prefix_refl _⟩
 | none =>
  simp only
  cases hb : bits.contains s with
  | true =>
   rw [if_pos rfl]
   refine ⟨.inr ?_, List.prefix_refl _⟩
   have hi : ¬ idxN bits s < 0 := fun e => by rw [idxN_lt.1 e] at hb; cases hb
   unfold idxN at hi ⊢
   cases hf : bits.findIdx? (fun x => x == s) with
   | none => rw [hf] at hi; simp at hi
   | some i =>
    obtain ⟨h1, h2, _⟩ := List.findIdx?_eq_some_iff_getElem.1 hf
    exact ⟨i, by rw [List.getElem?_eq_getElem h1]; simpa using h2, rfl⟩
  | false =>
   rw [if_neg (by simp)]
   exact ⟨.inr ⟨bits.length, by simp, rfl⟩, List.prefix_append _ _⟩
def ownsK (W : FW) (s : Nat) (n : Nat) : List Nat := (List.range n).filter fun k => s.testBit (W.owner.getD k default).toNat
def Stands (W : FW) (kn : Value → Kn) (a : Int) (bits : List Nat) (os : Obs) (lo : Nat) : Nat → List Int → Int × Int → Prop
 | d, p, v =>
  (integerOk kn a p = true ∧ v = (1, freeK (kn (keyS a p)).nots (kn (keyS a p)).low)) ∨ (integerOk kn a p = false ∧ noneOk kn a p = true ∧ v = (2, 0)) ∨
  (integerOk kn a p = false ∧ noneOk kn a p = false ∧ ∃ (i : Nat) (c : Int) (sl : List (Int × Int)), v = (3, (i : Int)) ∧ lo ≤ i ∧ os[i]? = some (c, sl) ∧ IsCls W bits (objectK W kn (childCan W kn a d) a p).1 c ∧
   sl.length = (ownsK W (objectK W kn (childCan W kn a d) a p).1 W.owner.length).length ∧
   ∀ (j k : Nat) (u : Int × Int), (ownsK W (objectK W kn (childCan W kn a d) a p).1 W.owner.length)[j]? = some k → sl[j]? = some u →
    match d with
    | 0 => u = (2, 0)
    | d + 1 => if (kn (keyS a p)).slots.contains (k : Int) then Stands W kn a bits os lo d (p ++ [(k : Int)]) u else u = (2, 0))
theorem Stands.mono {W : FW} {kn : Value → Kn} {a : Int} {bits bits' : List Nat} {os os' : Obs} {lo lo' : Nat} (hlo : lo' ≤ lo) (hb : bits <+: bits') (ho : os <+: os') : ∀ (d : Nat) (p : List Int) (v : Int × Int), Stands W kn a bits os lo d p v → Stands W kn a bits' os' lo' d p v := by
 intro d
 induction d with
 | zero =>
  intro p v h
  unfold Stands at h ⊢
  rcases h with h | h | ⟨h1, h2, i, c, sl, h3, hi, h4, h5, h6, h7⟩
  ·exact .inl h
  ·exact .inr (.inl h)
  ·obtain ⟨r, rfl⟩ := ho
   exact .inr (.inr ⟨h1, h2, i, c, sl, h3, by omega, by rw [List.getElem?_append_left (List.getElem?_eq_some_iff.1 h4).1]; exact h4, h5.mono hb, h6, h7⟩)
 | succ d ih =>
  intro p v h
  unfold Stands at h ⊢
  rcases h with h | h | ⟨h1, h2, i, c, sl, h3, hi, h4, h5, h6, h7⟩
  ·exact .inl h
  ·exact .inr (.inl h)
  ·refine .inr (.inr ⟨h1, h2, i, c, sl, h3, by omega, ?_, h5.mono hb, h6, fun j k u e1 e2 => ?_⟩)
   ·obtain ⟨r, rfl⟩ := ho
    rw [List.getElem?_append_left (List.getElem?_eq_some_iff.1 h4).1]; exact h4
   ·have := h7 j k u e1 e2
    simp only at this ⊢
    split
    ·rename_i hc; rw [if_pos hc] at this; exact ih _ _ this
    ·rename_i hc; rw [if_neg hc] at this; exact this
theorem Stands.set {W : FW} {kn : Value → Kn} {a : Int} {bits : List Nat} {os : Obs} {lo q : Nat} {x : Int × List (Int × Int)} (hq : q < lo) : ∀ (d : Nat) (p : List Int) (v : Int × Int), Stands W kn a bits os lo d p v → Stands W kn a bits (os.set q x) lo d p v := by
 intro d
 induction d with
 | zero =>
  intro p v h
  unfold Stands at h ⊢
  rcases h with h | h | ⟨h1, h2, i, c, sl, h3, hi, h4, h5, h6, h7⟩
  ·exact .inl h
  ·exact .inr (.inl h)
  ·exact .inr (.inr ⟨h1, h2, i, c, sl, h3, hi, by rw [List.getElem?_set_ne (by omega)]; exact h4, h5, h6, h7⟩)
 | succ d ih =>
  intro p v h
  unfold Stands at h ⊢
  rcases h with h | h | ⟨h1, h2, i, c, sl, h3, hi, h4, h5, h6, h7⟩
  ·exact .inl h
  ·exact .inr (.inl h)
  ·refine .inr (.inr ⟨h1, h2, i, c, sl, h3, hi, by rw [List.getElem?_set_ne (by omega)]; exact h4, h5, h6, fun j k u e1 e2 => ?_⟩)
   have := h7 j k u e1 e2
   simp only at this ⊢
   split
   ·rename_i hc; rw [if_pos hc] at this; exact ih _ _ this
   ·rename_i hc; rw [if_neg hc] at this; exact this
theorem owns_succ (W : FW) (s n : Nat) : ownsK W s (n + 1) = ownsK W s n ++ (if s.testBit (W.owner.getD n default).toNat then [n] else []) := by
 rw [ownsK, List.range_succ, List.filter_append]
 cases h : s.testBit (W.owner.getD n default).toNat with
 | true => rw [List.filter_cons_of_pos (by exact h)]; rfl
 | false => rw [List.filter_cons_of_neg (by rw [h]; simp)]; rfl
theorem slots_stand {W : FW} {kn : Value → Kn} {a : Int} {rec : MSt → List Int → (Int × Int) × MSt} {s : Nat} {p : List Int} {st : MSt} {G : MSt → Nat → Int × Int → Prop} (hG : ∀ st st' k u, st.1 <+: st'.1 → st.2 <+: st'.2 → G st k u → G st' k u)
  (hr : ∀ k : Nat, (kn (keyS a p)).slots.contains (k : Int) = true → ∀ st', st.2 <+: st'.2 → st'.1 <+: (rec st' (p ++ [(k : Int)])).2.1 ∧ st'.2 <+: (rec st' (p ++ [(k : Int)])).2.2 ∧ G (rec st' (p ++ [(k : Int)])).2 k (rec st' (p ++ [(k : Int)])).1) :
  ∀ n, st.1 <+: (slotsV W kn a rec s p st n).2.1 ∧ st.2 <+: (slotsV W kn a rec s p st n).2.2 ∧ (slotsV W kn a rec s p st n).1.length = (ownsK W s n).length ∧
   ∀ (j k : Nat) (u : Int × Int), (ownsK W s n)[j]? = some k → (slotsV W kn a rec s p st n).1[j]? = some u → if (kn (keyS a p)).slots.contains (k : Int) then G (slotsV W kn a rec s p st n).2 k u else u = (2, 0)
 | 0 => ⟨List.prefix_refl _, List.prefix_refl _, rfl, fun j k u h => by simp [ownsK] at h⟩
 | n + 1 => by
  obtain ⟨h1, h2, h3, h4⟩ := slots_stand hG hr n
  rw [slotsV_succ, owns_succ]
  generalize slotsV W kn a rec s p st n = acc at *
  unfold slotV
  cases hb : s.testBit (W.owner.getD n default).toNat with
  | false => simp only [Bool.false_eq_true, if_false, List.append_nil]; exact ⟨h1, h2, h3, h4⟩
  | true =>
   simp only [if_true]
   by_cases hc : (kn (keyS a p)).slots.contains (n : Int) = true
   ·rw [if_pos hc]
    obtain ⟨g1, g2, g3⟩ := hr n hc acc.2 h2
    refine ⟨h1.trans g1, h2.trans g2, by simp [h3], fun j k u e1 e2 => ?_⟩
    rcases Nat.lt_or_ge j (ownsK W s n).length with hj | hj
    ·rw [List.getElem?_append_left hj] at e1
     rw [List.getElem?_append_left (by omega)] at e2
     have := h4 j k u e1 e2
     split
     ·rename_i hk; rw [if_pos hk] at this; exact hG _ _ _ _ g1 g2 this
     ·rename_i hk; rw [if_neg hk] at this; exact this
    ·have hjl := (List.getElem?_eq_some_iff.1 e1).1
     simp only [List.length_append, List.length_singleton] at hjl
     obtain rfl : j = (ownsK W s n).length := by omega
     simp at e1
     rw [← h3] at e2
     simp at e2
     subst e1; subst e2
     rw [if_pos hc]; exact g3
   ·rw [if_neg hc]
    refine ⟨h1, h2, by simp [h3], fun j k u e1 e2 => ?_⟩
    rcases Nat.lt_or_ge j (ownsK W s n).length with hj | hj
    ·rw [List.getElem?_append_left hj] at e1
     rw [List.getElem?_append_left (by omega)] at e2
     exact h4 j k u e1 e2
    ·have hjl := (List.getElem?_eq_some_iff.1 e1).1
     simp only [List.length_append, List.length_singleton] at hjl
     obtain rfl : j = (ownsK W s n).length := by omega
     simp at e1
     rw [← h3] at e2
     simp at e2
     subst e1; subst e2
     rw [if_neg hc]
theorem value_core {W : FW} {kn : Value → Kn} {a : Int} {d : Nat} {rec : MSt → List Int → (Int × Int) × MSt} {p : List Int} {st : MSt} {G : MSt → Nat → Int × Int → Prop} (hG : ∀ st st' k u, st.1 <+: st'.1 → st.2 <+: st'.2 → G st k u → G st' k u)
  (hset : ∀ (bits : List Nat) (os : Obs) q x k u, q < st.2.length + 1 → G (bits, os) k u → G (bits, os.set q x) k u)
  (hr : ∀ k : Nat, (kn (keyS a p)).slots.contains (k : Int) = true → ∀ st' : MSt, st.2.length + 1 ≤ st'.2.length → st'.1 <+: (rec st' (p ++ [(k : Int)])).2.1 ∧ st'.2 <+: (rec st' (p ++ [(k : Int)])).2.2 ∧ G (rec st' (p ++ [(k : Int)])).2 k (rec st' (p ++ [(k : Int)])).1)
  (hi : integerOk kn a p = false) (hn : noneOk kn a p = false) :
  ∃ c sl, (valueS W kn a d rec st p).1 = (3, (st.2.length : Int)) ∧ st.1 <+: (valueS W kn a d rec st p).2.1 ∧ st.2 <+: (valueS W kn a d rec st p).2.2 ∧ (valueS W kn a d rec st p).2.2[st.2.length]? = some (c, sl) ∧
   IsCls W (valueS W kn a d rec st p).2.1 (objectK W kn (childCan W kn a d) a p).1 c ∧ sl.length = (ownsK W (objectK W kn (childCan W kn a d) a p).1 W.owner.length).length ∧
   ∀ (j k : Nat) (u : Int × Int), (ownsK W (objectK W kn (childCan W kn a d) a p).1 W.owner.length)[j]? = some k → sl[j]? = some u → if (kn (keyS a p)).slots.contains (k : Int) then G (valueS W kn a d rec st p).2 k u else u = (2, 0) := by
 rw [value_obj (d := d) (rec := rec) (st := st) hi hn rfl rfl]
 generalize (objectK W kn (childCan W kn a d) a p).1 = s
 obtain ⟨hc1, hc2⟩ := class_is W st.1 s
 have hss := slots_stand (W := W) (rec := rec) (s := s) (p := p) (st := ((classP W st.1 s).2, st.2 ++ [((classP W st.1 s).1, [])])) hG (fun k hk st' hp => hr k hk st' (by have := hp.length_le; simpa using this)) W.owner.length
 generalize slotsV W kn a rec s p ((classP W st.1 s).2, st.2 ++ [((classP W st.1 s).1, [])]) W.owner.length = acc at hss ⊢
 obtain ⟨h1, h2, h3, h4⟩ := hss
 obtain ⟨t, ht⟩ := h2
 simp only at ht h1
 have e1 : acc.2.2.getD st.2.length default = ((classP W st.1 s).1, []) := by
  rw [← ht, List.getD_eq_getElem?_getD, List.append_assoc, List.getElem?_append_right (Nat.le_refl _)]; simp
 have e2 : ∀ y, acc.2.2.set st.2.length y = st.2 ++ y :: t := fun y => by
  rw [← ht, List.append_assoc, List.set_append_right _ _ (Nat.le_refl _)]; simp
 refine ⟨(classP W st.1 s).1, acc.1, rfl, hc2.trans h1, ?_, ?_, hc1.mono h1, h3, fun j k u e3 e4 => ?_⟩
 ·show st.2 <+: acc.2.2.set st.2.length _
  rw [e2]; exact List.prefix_append _ _
 ·show (acc.2.2.set st.2.length _)[st.2.length]? = _
  rw [e2, List.getElem?_append_right (Nat.le_refl _), e1]; simp
 ·have := h4 j k u e3 e4
  split
  ·rename_i hk; rw [if_pos hk] at this; exact hset _ _ _ _ _ _ (by omega) this
  ·rename_i hk; rw [if_neg hk] at this; exact this
theorem value_stands {W : FW} {kn : Value → Kn} (K : KnOk W kn) (hW : W.owner.length ≤ 40) {a : Int} : ∀ (d : Nat) (p : List Int), goodSpot a p → p.length + d = 2 → ∀ st : MSt,
  st.1 <+: (valueP W kn a d st p).2.1 ∧ st.2 <+: (valueP W kn a d st p).2.2 ∧ Stands W kn a (valueP W kn a d st p).2.1 (valueP W kn a d st p).2.2 st.2.length d p (valueP W kn a d st p).1 := by
 intro d
 induction d with
 | zero =>
  intro p h hd st
  show _ <+: (valueS W kn a 0 _ st p).2.1 ∧ _ <+: (valueS W kn a 0 _ st p).2.2 ∧ Stands W kn a (valueS W kn a 0 _ st p).2.1 (valueS W kn a 0 _ st p).2.2 st.2.length 0 p (valueS W kn a 0 _ st p).1
  cases hi : integerOk kn a p with
  | true => rw [value_int hi]; exact ⟨List.prefix_refl _, List.prefix_refl _, by unfold Stands; exact .inl ⟨hi, rfl⟩⟩
  | false =>
   cases hn : noneOk kn a p with
   | true => rw [value_none hi hn]; exact ⟨List.prefix_refl _, List.prefix_refl _, by unfold Stands; exact .inr (.inl ⟨hi, hn, rfl⟩)⟩
   | false =>
    have hno : ∀ k : Nat, ¬ (kn (keyS a p)).slots.contains (k : Int) = true := fun k hk => by
     have := List.contains_iff_mem.1 hk
     rw [K.deep a p h (by omega)] at this; cases this
    obtain ⟨c, sl, q1, q2, q3, q4, q5, q6, q7⟩ := value_core (W := W) (d := 0) (rec := fun st _ => ((2, 0), st)) (st := st) (G := fun _ _ _ => True) (fun _ _ _ _ _ _ _ => trivial) (fun _ _ _ _ _ _ _ _ => trivial) (fun k hk => absurd hk (hno k)) hi hn
    refine ⟨q2, q3, ?_⟩
    unfold Stands
    refine .inr (.inr ⟨hi, hn, st.2.length, c, sl, q1, Nat.le_refl _, q4, q5, q6, fun j k u e1 e2 => ?_⟩)
    have := q7 j k u e1 e2
    rw [if_neg (hno k)] at this; exact this
 | succ d ih =>
  intro p h hd st
  show _ <+: (valueS W kn a (d + 1) (valueP W kn a d) st p).2.1 ∧ _ <+: (valueS W kn a (d + 1) (valueP W kn a d) st p).2.2 ∧ Stands W kn a (valueS W kn a (d + 1) (valueP W kn a d) st p).2.1 (valueS W kn a (d + 1) (valueP W kn a d) st p).2.2 st.2.length (d + 1) p (valueS W kn a (d + 1) (valueP W kn a d) st p).1
  cases hi : integerOk kn a p with
  | true => rw [value_int hi]; exact ⟨List.prefix_refl _, List.prefix_refl _, by unfold Stands; exact .inl ⟨hi, rfl⟩⟩
  | false =>
   cases hn : noneOk kn a p with
   | true => rw [value_none hi hn]; exact ⟨List.prefix_refl _, List.prefix_refl _, by unfold Stands; exact .inr (.inl ⟨hi, hn, rfl⟩)⟩
   | false =>
    obtain ⟨c, sl, q1, q2, q3, q4, q5, q6, q7⟩ := value_core (W := W) (d := d + 1) (rec := valueP W kn a d) (st := st) (p := p) (G := fun st' k u => Stands W kn a st'.1 st'.2 (st.2.length + 1) d (p ++ [(k : Int)]) u)
     (fun s1 s2 k u g1 g2 hh => hh.mono (Nat.le_refl _) g1 g2 _ _ _) (fun bits os q x k u hq hh => hh.set hq _ _ _)
     (fun k hk st' hle => by
      obtain ⟨r1, r2, r3⟩ := ih (p ++ [(k : Int)]) (kn_next K hW h (List.contains_iff_mem.1 hk)).2 (by simp; omega) st'
      exact ⟨r1, r2, r3.mono hle (List.prefix_refl _) (List.prefix_refl _) _ _ _⟩) hi hn
    refine ⟨q2, q3, ?_⟩
    unfold Stands
    refine .inr (.inr ⟨hi, hn, st.2.length, c, sl, q1, Nat.le_refl _, q4, q5, q6, fun j k u e1 e2 => ?_⟩)
    have := q7 j k u e1 e2
    simp only
    split
    ·rename_i hk; rw [if_pos hk] at this; exact this.mono (by omega) (List.prefix_refl _) (List.prefix_refl _) _ _ _
    ·rename_i hk; rw [if_neg hk] at this; exact this
theorem args_stand {W : FW} {kn : Value → Kn} (K : KnOk W kn) (hW : W.owner.length ≤ 40) : ∀ k, k ≤ 3 → ∀ (j : Nat) (u : Int × Int), (argsV W kn k).1[j]? = some u → Stands W kn (j : Int) (argsV W kn k).2.1 (argsV W kn k).2.2 0 2 [] u
 | 0, _, j, u, h => by simp [argsV] at h
 | k + 1, hk, j, u, h => by
  have ih := args_stand K hW k (by omega)
  have hl := (args_ok K hW k (by omega)).2.2.2
  rw [argsV_succ] at h ⊢
  generalize argsV W kn k = acc at *
  obtain ⟨h1, h2, h3⟩ := value_stands K hW 2 [] (spot_root (a := k) (by omega)) rfl acc.2
  rcases Nat.lt_or_ge j k with hj | hj
  ·simp only [argV] at h
   rw [List.getElem?_append_left (by omega)] at h
   exact (ih j u h).mono (Nat.le_refl _) h1 h2 _ _ _
  ·have hjl := (List.getElem?_eq_some_iff.1 h).1
   simp only [argV, List.length_append, List.length_singleton] at hjl
   obtain rfl : j = k := by omega
   simp only [argV] at h
   rw [List.getElem?_append_right (by omega), hl, Nat.sub_self] at h
   simp only [List.getElem?_cons_zero, Option.some.injEq] at h
   subst h
   exact h3.mono (Nat.zero_le _) (List.prefix_refl _) (List.prefix_refl _) _ _ _
theorem cls_up {W : FW} (hw : worldP W = true) {bits : List Nat} (hl : W.parents.length + bits.length ≤ 60) {s : Nat} {c : Int} (hc : IsCls W bits s c) (hS : ∀ x, s.testBit x = true → 3 ≤ x ∧ x < 3 + W.parents.length) (hU : ∀ x y, s.testBit x = true → upB W x y = true → y = 0 ∨ s.testBit y = true)
  {b : Nat} (hb : b < 3 + W.parents.length) : upB (moreW W bits) c.toNat b = (b == 0 || s.testBit b) := by
 have hP := world_len hw
 have hB := big_more hw hl
 rcases hc with ⟨h1, h2, h3⟩ | ⟨j, h1, h2⟩
 ·have hct : c.toNat < 3 + W.parents.length := by omega
  rw [hB.up _ c.toNat (Nat.le_refl _) hct]
  rw [isUp, beq_iff_eq] at h3
  rw [← h3, andNot_bit, decide_eq_true (by omega : b < 64), Bool.true_and]
  show upB W c.toNat b = (b == 0 || (upB W c.toNat b && !(1 : Nat).testBit b))
  cases b with
  | zero => rw [upB_zero hw hct]; rfl
  | succ b =>
   have : (1 : Nat).testBit (b + 1) = false := by simp [Nat.testBit_succ]
   rw [this]; simp
 ·have hj := (List.getElem?_eq_some_iff.1 h1).1
  have hp : (moreW W bits).parents.getD (W.parents.length + j) default = newP W.parents.length s := by
   show (W.parents ++ bits.map (newP W.parents.length)).getD _ _ = _
   rw [List.getD_eq_getElem?_getD, List.getElem?_append_right (by omega), Nat.add_sub_cancel_left, List.getElem?_map, h1]; rfl
  have hct : c.toNat = 3 + (W.parents.length + j) := by omega
  rw [hct, upB_own hB.ok' (i := W.parents.length + j) (by show _ < (W.parents ++ bits.map _).length; simp; omega), hp]
  have hne : (b == 3 + (W.parents.length + j)) = false := by simp; omega
  rw [hne, Bool.or_false]
  rcases Nat.eq_zero_or_pos b with rfl | hb0
  ·rfl
  congr 1
  rw [Bool.eq_iff_iff, List.any_eq_true]
  constructor
  ·rintro ⟨p, hp1, hp2⟩
   obtain ⟨x, hx, rfl⟩ := List.mem_map.1 hp1
   obtain ⟨hx1, hx2⟩ := List.mem_filter.1 hx
   have hx1 := List.mem_range.1 hx1
   simp only [Bool.and_eq_true, decide_eq_true_eq] at hx2
   rw [Int.toNat_natCast, hB.up _ x (Nat.le_refl _) hx1] at hp2
   rcases hU x b hx2.2 hp2 with h | h
   ·omega
   ·exact h
  ·intro h
   have := hS b h
   refine ⟨(b : Int), List.mem_map.2 ⟨b, List.mem_filter.2 ⟨List.mem_range.2 hb, by rw [h, decide_eq_true this.1]; rfl⟩, rfl⟩, ?_⟩
   rw [Int.toNat_natCast, hB.up _ b (Nat.le_refl _) hb]
   exact upB_self hw hb
theorem obj_stage {W : FW} {c : List FLit} (hl : ∀ l ∈ c, LitOk W l) {a : Int} : ∀ (d : Nat) (p : List Int), p.length + d = 2 → objectK W (stageK c) (childCan W (stageK c) a d) a p = objAt W (stage2 c) a p
 | 0, p, hp => object_two (stage_rep hl) (KI.stage hl).deep (by omega) (fun h2 => absurd h2 (by omega))
 | d + 1, p, hp => object_two (stage_rep hl) (KI.stage hl).deep (by omega) (fun h2 s => by
   show canK W (stageK c) d a (p ++ [s]) = canAt W (stage2 c) a (p ++ [s])
   rw [can_two (stage_rep hl) (KI.stage hl).deep d (p ++ [s]) (by simp; omega), canAt, show 2 - (p ++ [s]).length = d by simp; omega])
theorem intK_stage {W : FW} {c : List FLit} (hl : ∀ l ∈ c, LitOk W l) {a : Int} {p : List Int} (hp : p.length ≤ 2) : integerOk (stageK c) a p = integer2 (stage2 c) a p := integer_two (stage_rep hl) (KI.stage hl).deep hp
theorem noneK_stage {W : FW} {c : List FLit} (hl : ∀ l ∈ c, LitOk W l) {a : Int} {p : List Int} (hp : p.length ≤ 2) : noneOk (stageK c) a p = none2 (stage2 c) a p := none_two (stage_rep hl) (KI.stage hl).deep hp
theorem slots_owns {W : FW} (hw : worldP W = true) {bits : List Nat} (hl : W.parents.length + bits.length ≤ 60) {s : Nat} {c : Int} (hc : IsCls W bits s c) (hS : ∀ x, s.testBit x = true → 3 ≤ x ∧ x < 3 + W.parents.length) (hU : ∀ x y, s.testBit x = true → upB W x y = true → y = 0 ∨ s.testBit y = true) :
  slotsOf (moreW W bits) c = (ownsK W s W.owner.length).map fun (k : Nat) => (k : Int) := by
 rw [slotsOf, numL, List.filter_map, ownsK]
 congr 1
 refine List.filter_congr fun k hk => ?_
 have hk := List.mem_range.1 hk
 have ho := owner_ok hw (i := k) hk
 show upB (moreW W bits) c.toNat (W.owner.getD (Int.toNat (k : Int)) default).toNat = _
 rw [Int.toNat_natCast, cls_up hw hl hc hS hU (by omega)]
 have : ((W.owner.getD k default).toNat == 0) = false := beq_eq_false_iff_ne.2 (by omega)
 rw [this, Bool.false_or]
theorem has_owns {W : FW} (hw : worldP W = true) {bits : List Nat} (hl : W.parents.length + bits.length ≤ 60) {s : Nat} {c : Int} (hc : IsCls W bits s c) (hS : ∀ x, s.testBit x = true → 3 ≤ x ∧ x < 3 + W.parents.length) (hU : ∀ x y, s.testBit x = true → upB W x y = true → y = 0 ∨ s.testBit y = true) {q : Int} (hq : 0 ≤ q ∧ q < W.owner.length) :
  hasP (moreW W bits) c q = s.testBit (ownerN W q) := by
 have ho := owner_ok hw (i := q.toNat) (by omega)
 show upB (moreW W bits) c.toNat (W.owner.getD q.toNat default).toNat = _
 rw [cls_up hw hl hc hS hU (by omega)]
 have : ((W.owner.getD q.toNat default).toNat == 0) = false := beq_eq_false_iff_ne.2 (by omega)
 rw [this, Bool.false_or]; rfl
theorem obj_closed {W : FW} {c : List FLit} {a : Int} {p : List Int} (h : LsOk W c) (ho : (objAt W (stage2 c) a p).2 = true) : (∀ x, (objAt W (stage2 c) a p).1.testBit x = true → 3 ≤ x ∧ x < 3 + W.parents.length) ∧ ∀ x y, (objAt W (stage2 c) a p).1.testBit x = true → upB W x y = true → y = 0 ∨ (objAt W (stage2 c) a p).1.testBit y = true := by
 have hf := obj_f h ho
 refine ⟨fun x hx => ⟨?_, hf.lt x hx⟩, fun x y hx hu => ?_⟩
 ·rcases Nat.lt_or_ge x 3 with h3 | h3
  ·rw [hf.low x h3] at hx; cases hx
  ·exact h3
 ·rcases Nat.eq_zero_or_pos y with h0 | h0
  ·exact .inl h0
  ·exact .inr (hf.up x y hx hu (by omega))
def SameV (W : FW) (bits : List Nat) (os : Obs) (u : Int × Int) : Val → Prop
 | .int n => u = (1, n)
 | .non => u = (2, 0)
 | .obj S => u.1 = 3 ∧ ∀ b, b < 3 + W.parents.length → upB (moreW W bits) (clsAt os u).toNat b = S b
theorem stands_same {W : FW} {c : List FLit} (h : LsOk W c) {a : Int} {bits : List Nat} {os : Obs} (hl : W.parents.length + bits.length ≤ 60) {lo d : Nat} {p : List Int} {u : Int × Int} (hd : p.length + d = 2) (hs : Stands W (stageK c) a bits os lo d p u) (hc : canAt W (stage2 c) a p = true) : SameV W bits os u (vAt W (stage2 c) a p) := by
 have hk := stage_rep h.ok a p (by omega)
 have hca := hc
 rw [can_at h (by omega)] at hca
 unfold Stands at hs
 rw [intK_stage h.ok (by omega), noneK_stage h.ok (by omega), hk, obj_stage h.ok d p hd] at hs
 unfold vAt
 rcases hs with ⟨h1, h2⟩ | ⟨h1, h2, h3⟩ | ⟨h1, h2, i, cl, sl, h3, h4, h5, h6, _⟩
 ·rw [if_pos h1]; exact h2
 ·rw [if_neg (by rw [h1]; simp), if_pos h2]; exact h3
 ·rw [if_neg (by rw [h1]; simp), if_neg (by rw [h2]; simp)]
  rw [h1, h2, Bool.false_or, Bool.false_or] at hca
  obtain ⟨q1, q2⟩ := obj_closed h hca
  refine ⟨by rw [h3], fun b hb => ?_⟩
  have e : clsAt os u = cl := by rw [clsAt, h3, Int.toNat_natCast, List.getD_eq_getElem?_getD, h5]; rfl
  rw [e]
  exact cls_up h.w hl h6 q1 q2 hb
def goV (W : FW) (kn : K2) (a : Int) (st : List Int × Option Val) (r : List Int) : Option Val := (r.foldl (fun (st : List Int × Option Val) s => (st.1 ++ [s], st.2.bind fun v => stepV W kn a st.1 v s)) st).2
theorem goV_none {W : FW} {kn : K2} {a : Int} : ∀ (r p : List Int), goV W kn a (p, none) r = none
 | [], _ => rfl
 | s :: r, p => goV_none r (p ++ [s])
theorem goV_cons (W : FW) (kn : K2) (a : Int) (p : List Int) (v : Val) (s : Int) (r : List Int) : goV W kn a (p, some v) (s :: r) = goV W kn a (p ++ [s], stepV W kn a p v s) r := rfl
def Same (W : FW) (kn : K2) (a : Int) (bits : List Nat) (os : Obs) (u : Int × Int) (st : List Int × Option Val) (r : List Int) : Prop :=
 ((atP (moreW W bits) os u r).2 = true ∧ ∃ v, goV W kn a st r = some v ∧ SameV W bits os (atP (moreW W bits) os u r).1 v) ∨ ((atP (moreW W bits) os u r).2 = false ∧ goV W kn a st r = none)
theorem dead_same (W : FW) (kn : K2) (a : Int) (bits : List Nat) (os : Obs) (p : List Int) : ∀ r, Same W kn a bits os (2, 0) (p, some .non) r
 | [] => .inl ⟨rfl, .non, rfl, rfl⟩
 | s :: r => .inr ⟨rfl, by rw [goV_cons]; exact goV_none r _⟩
theorem idx_in {l : List Int} {v : Int} (h : v ∈ l) : ∃ j : Nat, idxP l v = j ∧ l[j]? = some v := by
 unfold idxP
 cases hf : l.findIdx? (fun x => x == v) with
 | none => have := List.findIdx?_eq_none_iff.1 hf v h; simp at this
 | some i =>
  obtain ⟨h1, h2, _⟩ := List.findIdx?_eq_some_iff_getElem.1 hf
  exact ⟨i, rfl, by rw [List.getElem?_eq_getElem h1]; simpa using h2⟩
theorem walk_same {W : FW} {c : List FLit} (h : LsOk W c) {a : Int} {bits : List Nat} {os : Obs} (hl : W.parents.length + bits.length ≤ 60) : ∀ (r : List Int) {lo d : Nat} {p : List Int} {u : Int × Int}, p.length + d = 2 → Stands W (stageK c) a bits os lo d p u → canAt W (stage2 c) a p = true → (∀ s ∈ r, 0 ≤ s ∧ s < W.owner.length) →
  Same W (stage2 c) a bits os u (p, some (vAt W (stage2 c) a p)) r
 | [], lo, d, p, u, hd, hs, hc, _ => .inl ⟨rfl, _, rfl, stands_same h hl hd hs hc⟩
 | s :: r, lo, d, p, u, hd, hs, hc, hr => by
  have hk := stage_rep h.ok a p (by omega)
  have hca := hc
  rw [can_at h (by omega)] at hca
  have hsr := hr s (.head _)
  unfold Stands at hs
  rw [intK_stage h.ok (by omega), noneK_stage h.ok (by omega), hk, obj_stage h.ok d p hd] at hs
  rcases hs with ⟨h1, h2⟩ | ⟨h1, h2, h3⟩ | ⟨h1, h2, i, cl, sl, h3, h4, h5, h6, h7, h8⟩
  ·refine .inr ⟨by subst h2; rfl, ?_⟩
   rw [goV_cons]
   unfold vAt; rw [if_pos h1]; exact goV_none r _
  ·refine .inr ⟨by subst h3; rfl, ?_⟩
   rw [goV_cons]
   unfold vAt; rw [if_neg (by rw [h1]; simp), if_pos h2]; exact goV_none r _
  ·rw [h1, h2, Bool.false_or, Bool.false_or] at hca
   obtain ⟨q1, q2⟩ := obj_closed h hca
   have hf := obj_f h hca
   have hv : vAt W (stage2 c) a p = .obj fun c' => c' == 0 || (objAt W (stage2 c) a p).1.testBit c' := by
    unfold vAt; rw [if_neg (by rw [h1]; simp), if_neg (by rw [h2]; simp)]
   have e : clsAt os u = cl := by rw [clsAt, h3, Int.toNat_natCast, List.getD_eq_getElem?_getD, h5]; rfl
   have ho := owner_ok h.w (i := s.toNat) (by omega)
   have hn0 : (ownerN W s == 0) = false := beq_eq_false_iff_ne.2 (by rw [ownerN]; omega)
   have hok : okO (moreW W bits) os u s = (objAt W (stage2 c) a p).1.testBit (ownerN W s) := by
    rw [okO, e, has_owns h.w hl h6 q1 q2 hsr, h3]; rfl
   unfold Same
   rw [goV_cons, hv]
   have hst : stepV W (stage2 c) a p (.obj fun c' => c' == 0 || (objAt W (stage2 c) a p).1.testBit c') s = if (objAt W (stage2 c) a p).1.testBit (ownerN W s) = true then (if (stage2 c a p).slots.contains s = true then some (vAt W (stage2 c) a (p ++ [s])) else some .non) else none := by
    simp only [stepV, hn0, Bool.false_or, decide_eq_true hsr.1, decide_eq_true hsr.2, Bool.true_and]
   rw [hst]
   cases hb : (objAt W (stage2 c) a p).1.testBit (ownerN W s) with
   | false =>
    refine .inr ⟨?_, by rw [if_neg (by simp)]; exact goV_none r _⟩
    rw [atP, hok, hb]; rfl
   | true =>
    rw [if_pos rfl, atP, hok, hb, if_pos rfl]
    have hmem : s ∈ slotsOf (moreW W bits) cl := by
     rw [slots_owns h.w hl h6 q1 q2]
     refine List.mem_map.2 ⟨s.toNat, List.mem_filter.2 ⟨List.mem_range.2 (by omega), hb⟩, by omega⟩
    obtain ⟨j, hj1, hj2⟩ := idx_in hmem
    rw [slots_owns h.w hl h6 q1 q2, List.getElem?_map] at hj2
    obtain ⟨k, hk1, hk2⟩ := Option.map_eq_some_iff.1 hj2
    have hjl := (List.getElem?_eq_some_iff.1 hk1).1
    have hst2 : stepO (moreW W bits) os u s = sl.getD j default := by
     rw [stepO, e, hj1, h3, Int.toNat_natCast, Int.toNat_natCast, List.getD_eq_getElem?_getD (l := os), h5]; rfl
    rw [hst2]
    have h9 := h8 j k (sl.getD j default) hk1 (by rw [List.getD_eq_getElem?_getD, List.getElem?_eq_getElem (by omega)]; rfl)
    generalize sl.getD j default = w at h9
    have hrr : ∀ x ∈ r, 0 ≤ x ∧ x < W.owner.length := fun x hx => hr x (.tail _ hx)
    cases d with
    | zero =>
     have hno : (stage2 c a p).slots.contains s = false := by
      cases hx : (stage2 c a p).slots.contains s with
      | false => rfl
      | true => have := slot_len h (List.contains_iff_mem.1 hx); omega
     rw [if_neg (by rw [hno]; simp)]
     simp only at h9; subst h9
     exact dead_same W _ a bits os _ r
    | succ d =>
     simp only at h9
     rw [hk2] at h9
     by_cases hx : (stage2 c a p).slots.contains s = true
     ·rw [if_pos hx] at h9 ⊢
      exact walk_same h hl r (by simp; omega) h9 ((hf.slots s (List.contains_iff_mem.1 hx)).2 hb) hrr
     ·rw [if_neg hx] at h9 ⊢
      subst h9
      exact dead_same W _ a bits os _ r
theorem val_same {W : FW} {bits : List Nat} {os : Obs} {u : Int × Int} {v : Val} {f : Fact} (hs : SameV W bits os u v) (hc : f.op = 2 → 0 ≤ f.cls ∧ f.cls < 3 + W.parents.length) : valL f (toVal (moreW W bits) os u) = valL f v := by
 cases v with
 | int n => rw [show u = (1, n) from hs]; rfl
 | non => rw [show u = (2, 0) from hs]; rfl
 | obj S =>
  obtain ⟨h1, h2⟩ := hs
  have e : toVal (moreW W bits) os u = .obj fun c => upB (moreW W bits) (clsAt os u).toNat c := by rw [toVal, h1]; rfl
  rw [e]
  by_cases h : f.op = 2
  ·rw [valL_is h, valL_is h]
   have := hc h
   exact h2 _ (by omega)
  ·rw [valL_no h, valL_no h]
theorem leaf_same {W : FW} {c : List FLit} (h : LsOk W c) (ht : together2 W c = true) (K : KnOk W (stageK c)) (hl : W.parents.length + (argsV W (stageK c) 3).2.1.length ≤ 60) {f : Fact} (hf : nodeOkB W f = true) (hlf : leafP f = true) :
  evL (VO (moreW W (argsV W (stageK c) 3).2.1) (argsV W (stageK c) 3).2.2 (argsV W (stageK c) 3).1) f = evL (mkV W (stage2 c)) f := by
 have hW := world_own h.w
 have hB := big_more h.w hl
 have hlen := (args_ok K hW 3 (by omega)).2.2.2
 have hst := args_stand K hW 3 (by omega)
 have hn := hf
 simp only [nodeOkB, Bool.and_eq_true] at hn
 have h3 := hn.2
 rw [if_pos hlf] at h3
 simp only [argP, pathP, Bool.and_eq_true, Bool.not_eq_true', Bool.or_eq_false_iff, Bool.not_eq_false', decide_eq_false_iff_not, decide_eq_true_eq, List.all_eq_true] at h3
 obtain ⟨⟨⟨ha1, ha2⟩, hp1, hp2⟩, hlo⟩ := h3
 generalize argsV W (stageK c) 3 = acc at *
 obtain ⟨q, hq⟩ : ∃ q : Nat, f.arg = q := ⟨f.arg.toNat, by omega⟩
 have hq3 : q < 3 := by omega
 have hu : acc.1[q]? = some (acc.1.getD q default) := by rw [List.getD_eq_getElem?_getD, List.getElem?_eq_getElem (by omega)]; rfl
 have hS := hst q _ hu
 have hca : canAt W (stage2 c) (q : Int) [] = true := by
  rw [together2, Bool.and_eq_true, Bool.and_eq_true] at ht
  have : q = 0 ∨ q = 1 ∨ q = 2 := by omega
  rcases this with rfl | rfl | rfl
  ·exact ht.1.1
  ·exact ht.1.2
  ·exact ht.2
 have hw := walk_same h hl f.path rfl hS hca (fun s hs => by have := hp2 s hs; simp only [slotP, Bool.and_eq_true, decide_eq_true_eq] at this; exact this)
 have hmk : mkV W (stage2 c) f.arg f.path = goV W (stage2 c) (q : Int) ([], some (vAt W (stage2 c) (q : Int) [])) f.path := by
  rw [mkV, if_pos ⟨by omega, by omega⟩, hq]; rfl
 have hcl : f.op = 2 → 0 ≤ f.cls ∧ f.cls < 3 + W.parents.length := fun h2 => by
  rw [leafOkP, if_pos h2] at hlo
  simp only [Bool.and_eq_true, Fc.classP, decide_eq_true_eq] at hlo
  exact hlo.2
 unfold evL
 rw [vo_leaf (hB.node hf) hlf (by omega), hmk, hq, Int.toNat_natCast]
 rcases hw with ⟨w1, v, w2, w3⟩ | ⟨w1, w2⟩
 ·rw [if_pos w1, w2]
  exact val_same w3 hcl
 ·rw [if_neg (by rw [w1]; simp), w2]
theorem bd_walk {l : FLit} : ∀ (r : List Int) (n : Nat) (kn : Value → Kn) (pre : List Int), Bd n kn → Bd (n + r.length) (walkK l kn pre r)
 | [], n, kn, pre, h => h
 | s :: r, n, kn, pre, h => by
  have h1 : Bd (n + 1) (updK kn (keyS l.f.arg pre) (slotF s (kn (keyS l.f.arg pre)))) := (h.mono (Nat.le_succ n)).upd ((h _).slot s) _
  have h2 := bd_walk (l := l) r (n + 1) _ (pre ++ [s]) (h1.upd ((h1 (keyS l.f.arg (pre ++ [s]))).need l) (keyS l.f.arg (pre ++ [s])))
  rw [walkK]
  exact h2.mono (by simp only [List.length_cons]; omega)
theorem bd_add {W : FW} {l : FLit} (hl : LitOk W l) (hp : l.f.path.length ≤ 2) {n : Nat} {kn : Value → Kn} (h : Bd n kn) : Bd (n + 3) (addK kn l) := by
 have h0 : Bd n (add0K kn l) := h.upd ((h _).need l) _
 have h1 := (bd_walk (l := l) l.f.path n _ [] h0).mono (m := n + 2) (by omega)
 exact (h1.mono (Nat.le_succ _)).upd ((h1 _).ask hl) _
theorem bd_stage {W : FW} : ∀ (ls : List FLit) (n : Nat) (kn : Value → Kn), (∀ l ∈ ls, LitOk W l) → Bd n kn → Bd (n + 3 * ls.length) (ls.foldl addK kn)
 | [], n, kn, _, h => h
 | l :: r, n, kn, hl, h => by
  have h1 := bd_stage r (n + 3) _ (fun x hx => hl x (.tail _ hx)) (bd_add (hl l (.head _)) (hl l (.head _)).path h)
  exact h1.mono (by simp only [List.length_cons]; omega)
theorem stage_kn {W : FW} {c : List FLit} (hl : ∀ l ∈ c, LitOk W l) (hn : c.length ≤ 300) : KnOk W (stageK c) := by
 refine stage_ok hl ((bd_stage c 0 _ hl (fun v => ⟨by decide, by decide, Nat.zero_le _, Nat.zero_le _⟩)).mono (by omega))
theorem model_holds {W : FW} {f : Fact} (hw : worldP W = true) (hf : wfB W f = true) {c : List FLit} (hc : c ∈ casesP f false) (ht : together2 W c = true) (hn : c.length ≤ 300) (hl : W.parents.length + (argsV W (stageK c) 3).2.1.length ≤ 60) :
  ev (VO (moreW W (argsV W (stageK c) 3).2.1) (argsV W (stageK c) 3).2.2 (argsV W (stageK c) 3).1) f = true := by
 have h := case_ls hw hf hc
 rw [ev_congr (W := W) (V := mkV W (stage2 c)) (fun g hg hlg => leaf_same h ht (stage_kn h.ok hn) hl hg hlg) f hf]
 have := cases_ev (mkV W (stage2 c)) f (wf_ok f hf) false
 rw [Bool.bne_false] at this
 rw [← this, List.any_eq_true]
 exact ⟨c, hc, List.all_eq_true.2 (mk_lits h ht)⟩
theorem int_rng2 {W : FW} {ls : List FLit} (h : LsOk W ls) {a : Int} {p : List Int} (hi : integer2 (stage2 ls) a p = true) : -1000000000 ≤ freeK (stage2 ls a p).nots (stage2 ls a p).low ∧ freeK (stage2 ls a p).nots (stage2 ls a p).low ≤ 1000000000 := by
 rw [integer2, Bool.and_eq_true, decide_eq_true_eq] at hi
 have hk := freeK_spec (stage2 ls a p).nots (stage2 ls a p).low
 have ht' := h.tri a p
 have hf := (num_fold (freeK (stage2 ls a p).nots (stage2 ls a p).low) (ls.filter (hitL a p)) rs0 (fun l hm => (h.ok l (List.mem_filter.1 hm).1).op)).1 (by rw [← ht']; exact ⟨hk.2.1, hi.1, hk.1⟩)
 exact ⟨hf.1.1, hf.1.2.1⟩
theorem valP_mono {u : Int × Int} {m m' : Nat} (h : valP u m = true) (hm : m ≤ m') : valP u m' = true := by
 unfold valP at h ⊢
 split
 ·rename_i h1; rw [if_pos h1] at h; exact h
 ·rename_i h1
  rw [if_neg h1] at h
  split
  ·rename_i h2; rw [if_pos h2] at h; exact h
  ·rename_i h2
   rw [if_neg h2] at h
   simp only [Bool.and_eq_true, decide_eq_true_eq] at h ⊢
   exact ⟨h.1, by omega⟩
def ThOk (W : FW) (bits : List Nat) (m : Nat) (o : Int × List (Int × Int)) : Prop := ∃ s : Nat, IsCls W bits s o.1 ∧ (∀ x, s.testBit x = true → 3 ≤ x ∧ x < 3 + W.parents.length) ∧ (∀ x y, s.testBit x = true → upB W x y = true → y = 0 ∨ s.testBit y = true) ∧ o.2.length = (ownsK W s W.owner.length).length ∧ ∀ u ∈ o.2, valP u m = true
theorem ThOk.mono {W : FW} {bits bits' : List Nat} {m m' : Nat} {o : Int × List (Int × Int)} (h : ThOk W bits m o) (hb : bits <+: bits') (hm : m ≤ m') : ThOk W bits' m' o := by
 obtain ⟨s, h1, h2, h3, h4, h5⟩ := h
 exact ⟨s, h1.mono hb, h2, h3, h4, fun u hu => valP_mono (h5 u hu) hm⟩
def AllTh (W : FW) (bits : List Nat) (lo : Nat) (os : Obs) : Prop := ∀ i, lo ≤ i → ∀ o, os[i]? = some o → ThOk W bits os.length o
theorem AllTh.trans {W : FW} {bits bits' : List Nat} {lo : Nat} {os os' : Obs} (h : AllTh W bits lo os) (hb : bits <+: bits') (ho : os <+: os') (h' : AllTh W bits' os.length os') : AllTh W bits' lo os' := fun i hi o e => by
 rcases Nat.lt_or_ge i os.length with hlt | hge
 ·obtain ⟨r, rfl⟩ := ho
  rw [List.getElem?_append_left hlt] at e
  exact (h i hi o e).mono hb (by simp)
 ·exact h' i hge o e
theorem slots_things {W : FW} {kn : Value → Kn} {a : Int} {rec : MSt → List Int → (Int × Int) × MSt} {s : Nat} {p : List Int} {st : MSt}
  (hr : ∀ k : Nat, (kn (keyS a p)).slots.contains (k : Int) = true → s.testBit (W.owner.getD k default).toNat = true → ∀ st' : MSt, st'.1 <+: (rec st' (p ++ [(k : Int)])).2.1 ∧ st'.2 <+: (rec st' (p ++ [(k : Int)])).2.2 ∧ valP (rec st' (p ++ [(k : Int)])).1 (rec st' (p ++ [(k : Int)])).2.2.length = true ∧ AllTh W (rec st' (p ++ [(k : Int)])).2.1 st'.2.length (rec st' (p ++ [(k : Int)])).2.2) :
  ∀ n, AllTh W (slotsV W kn a rec s p st n).2.1 st.2.length (slotsV W kn a rec s p st n).2.2 ∧ ∀ u ∈ (slotsV W kn a rec s p st n).1, valP u (slotsV W kn a rec s p st n).2.2.length = true
 | 0 => ⟨fun i hi o e => by have := (List.getElem?_eq_some_iff.1 e).1; exact absurd this (by simp only [slotsV, List.range_zero, List.foldl_nil]; omega), fun u hu => by simp [slotsV] at hu⟩
 | n + 1 => by
  obtain ⟨h1, h2⟩ := slots_things hr n
  rw [slotsV_succ]
  generalize slotsV W kn a rec s p st n = acc at *
  unfold slotV
  by_cases hb : s.testBit (W.owner.getD n default).toNat = true
  ·rw [if_pos hb]
   by_cases hc : (kn (keyS a p)).slots.contains (n : Int) = true
   ·rw [if_pos hc]
    obtain ⟨g1, g2, g3, g4⟩ := hr n hc hb acc.2
    refine ⟨h1.trans g1 g2 g4, fun u hu => ?_⟩
    rcases List.mem_append.1 hu with hu | hu
    ·exact valP_mono (h2 u hu) g2.length_le
    ·rw [List.mem_singleton] at hu; subst hu; exact g3
   ·rw [if_neg hc]
    refine ⟨h1, fun u hu => ?_⟩
    rcases List.mem_append.1 hu with hu | hu
    ·exact h2 u hu
    ·rw [List.mem_singleton] at hu; subst hu; rfl
  ·rw [if_neg hb]; exact ⟨h1, h2⟩
theorem things_core {W : FW} {c : List FLit} (h : LsOk W c) {a : Int} {d : Nat} {rec : MSt → List Int → (Int × Int) × MSt} {p : List Int} (hd : p.length + d = 2) (hc : canAt W (stage2 c) a p = true) (st : MSt)
  (hp : ∀ k : Nat, (stageK c (keyS a p)).slots.contains (k : Int) = true → ∀ st' : MSt, st'.1 <+: (rec st' (p ++ [(k : Int)])).2.1 ∧ st'.2 <+: (rec st' (p ++ [(k : Int)])).2.2)
  (hr : ∀ k : Nat, (stageK c (keyS a p)).slots.contains (k : Int) = true → canAt W (stage2 c) a (p ++ [(k : Int)]) = true → ∀ st' : MSt, valP (rec st' (p ++ [(k : Int)])).1 (rec st' (p ++ [(k : Int)])).2.2.length = true ∧ AllTh W (rec st' (p ++ [(k : Int)])).2.1 st'.2.length (rec st' (p ++ [(k : Int)])).2.2) :
  valP (valueS W (stageK c) a d rec st p).1 (valueS W (stageK c) a d rec st p).2.2.length = true ∧ AllTh W (valueS W (stageK c) a d rec st p).2.1 st.2.length (valueS W (stageK c) a d rec st p).2.2 := by
 have hk := stage_rep h.ok a p (by omega)
 have hca := hc
 rw [can_at h (by omega)] at hca
 have hnew : AllTh W st.1 st.2.length st.2 := fun i hi o e => by
  have := (List.getElem?_eq_some_iff.1 e).1
  omega
 cases hi : integerOk (stageK c) a p with
 | true =>
  rw [value_int hi]
  refine ⟨?_, hnew⟩
  rw [intK_stage h.ok (by omega)] at hi
  have := int_rng2 h hi
  rw [hk]
  simp only [valP, if_true, Bool.and_eq_true, decide_eq_true_eq]
  exact this
 | false =>
  cases hn : noneOk (stageK c) a p with
  | true => rw [value_none hi hn]; exact ⟨rfl, hnew⟩
  | false =>
   rw [value_obj (d := d) (rec := rec) (st := st) hi hn rfl rfl, obj_stage h.ok d p hd]
   rw [intK_stage h.ok (by omega)] at hi
   rw [noneK_stage h.ok (by omega)] at hn
   rw [hi, hn, Bool.false_or, Bool.false_or] at hca
   obtain ⟨q1, q2⟩ := obj_closed h hca
   have hf := obj_f h hca
   generalize (objAt W (stage2 c) a p).1 = s at q1 q2 hf ⊢
   obtain ⟨hc1, hc2⟩ := class_is W st.1 s
   have hS := slots_stand (W := W) (kn := stageK c) (a := a) (rec := rec) (s := s) (p := p) (st := ((classP W st.1 s).2, st.2 ++ [((classP W st.1 s).1, [])])) (G := fun _ _ _ => True) (fun _ _ _ _ _ _ _ => trivial) (fun k hk st' _ => ⟨(hp k hk st').1, (hp k hk st').2, trivial⟩) W.owner.length
   have hT := slots_things (W := W) (kn := stageK c) (a := a) (rec := rec) (s := s) (p := p) (st := ((classP W st.1 s).2, st.2 ++ [((classP W st.1 s).1, [])])) (fun k hk2 hb st' => by
    have hm : (k : Int) ∈ (stage2 c a p).slots := by rw [← hk]; exact List.contains_iff_mem.1 hk2
    have := (hf.slots _ hm).2 (by rw [ownerN, Int.toNat_natCast]; exact hb)
    exact ⟨(hp k hk2 st').1, (hp k hk2 st').2, hr k hk2 this st'⟩) W.owner.length
   generalize slotsV W (stageK c) a rec s p ((classP W st.1 s).2, st.2 ++ [((classP W st.1 s).1, [])]) W.owner.length = acc at hS hT ⊢
   obtain ⟨h1, h2, h3, _⟩ := hS
   obtain ⟨h5, h6⟩ := hT
   obtain ⟨t, ht⟩ := h2
   simp only at ht h1
   simp only [List.length_append, List.length_singleton] at h5
   have e1 : acc.2.2.getD st.2.length default = ((classP W st.1 s).1, []) := by
    rw [← ht, List.getD_eq_getElem?_getD, List.append_assoc, List.getElem?_append_right (Nat.le_refl _)]; simp
   have hlen : st.2.length < acc.2.2.length := by rw [← ht]; simp
   refine ⟨?_, fun i hi2 o e => ?_⟩
   ·show valP (3, (st.2.length : Int)) ((acc.2.2.set st.2.length _).length : Int) = true
    rw [List.length_set, valP, if_neg (show ¬ (3 : Int) = 1 by decide), if_neg (show ¬ (3 : Int) = 2 by decide)]
    simp only [Bool.and_eq_true, decide_eq_true_eq]
    exact ⟨⟨rfl, by omega⟩, by omega⟩
   ·have e' : (acc.2.2.set st.2.length ((acc.2.2.getD st.2.length default).1, acc.1))[i]? = some o := e
    show ThOk W acc.2.1 (acc.2.2.set st.2.length _).length o
    rw [List.length_set]
    rcases Nat.eq_or_lt_of_le hi2 with heq | hlt
    ·subst heq
     rw [List.getElem?_set_self hlen, e1] at e'
     obtain rfl := Option.some.inj e'
     exact ⟨s, hc1.mono h1, q1, q2, h3, h6⟩
    ·rw [List.getElem?_set_ne (by omega)] at e'
     exact h5 i (by omega) o e'
theorem value_things {W : FW} {c : List FLit} (h : LsOk W c) (K : KnOk W (stageK c)) {a : Int} : ∀ (d : Nat) (p : List Int), goodSpot a p → p.length + d = 2 → canAt W (stage2 c) a p = true → ∀ st : MSt,
  valP (valueP W (stageK c) a d st p).1 (valueP W (stageK c) a d st p).2.2.length = true ∧ AllTh W (valueP W (stageK c) a d st p).2.1 st.2.length (valueP W (stageK c) a d st p).2.2 := by
 have hW := world_own h.w
 intro d
 induction d with
 | zero =>
  intro p hg hd hc st
  have hno : ∀ k : Nat, ¬ (stageK c (keyS a p)).slots.contains (k : Int) = true := fun k hk => by
   have := List.contains_iff_mem.1 hk
   rw [K.deep a p hg (by omega)] at this; cases this
  exact things_core h hd hc st (fun k hk => absurd hk (hno k)) (fun k hk => absurd hk (hno k))
 | succ d ih =>
  intro p hg hd hc st
  have hnx : ∀ k : Nat, (stageK c (keyS a p)).slots.contains (k : Int) = true → goodSpot a (p ++ [(k : Int)]) := fun k hk => (kn_next K hW hg (List.contains_iff_mem.1 hk)).2
  exact things_core h hd hc st (fun k hk st' => by
   obtain ⟨r1, r2, _⟩ := value_stands K hW d (p ++ [(k : Int)]) (hnx k hk) (by simp; omega) st'
   exact ⟨r1, r2⟩) (fun k hk hcan st' => ih (p ++ [(k : Int)]) (hnx k hk) (by simp; omega) hcan st')
theorem args_things {W : FW} {c : List FLit} (h : LsOk W c) (K : KnOk W (stageK c)) (ht : together2 W c = true) : ∀ k, k ≤ 3 → AllTh W (argsV W (stageK c) k).2.1 0 (argsV W (stageK c) k).2.2 ∧ ∀ u ∈ (argsV W (stageK c) k).1, valP u (argsV W (stageK c) k).2.2.length = true
 | 0, _ => ⟨fun i hi o e => by simp [argsV] at e, fun u hu => by simp [argsV] at hu⟩
 | k + 1, hk => by
  obtain ⟨h1, h2⟩ := args_things h K ht k (by omega)
  rw [argsV_succ]
  generalize argsV W (stageK c) k = acc at *
  have hca : canAt W (stage2 c) (k : Int) [] = true := by
   rw [together2, Bool.and_eq_true, Bool.and_eq_true] at ht
   have : k = 0 ∨ k = 1 ∨ k = 2 := by omega
   rcases this with rfl | rfl | rfl
   ·exact ht.1.1
   ·exact ht.1.2
   ·exact ht.2
  obtain ⟨g1, g2, _⟩ := value_stands K (world_own h.w) 2 [] (spot_root (a := k) (by omega)) rfl acc.2
  obtain ⟨g3, g4⟩ := value_things h K 2 [] (spot_root (a := k) (by omega)) rfl hca acc.2
  refine ⟨h1.trans g1 g2 g4, fun u hu => ?_⟩
  rcases List.mem_append.1 hu with hu | hu
  ·exact valP_mono (h2 u hu) g2.length_le
  ·rw [List.mem_singleton] at hu; subst hu; exact g3
theorem things_of {W : FW} (hw : worldP W = true) {bits : List Nat} (hl : W.parents.length + bits.length ≤ 60) {os : Obs} (h : AllTh W bits 0 os) (hn : os.length ≤ 40) : thingsP (moreW W bits) os = true := by
 rw [thingsP, decide_eq_true (by omega), Bool.true_and, List.all_eq_true]
 intro o ho
 obtain ⟨i, hi, rfl⟩ := List.getElem_of_mem ho
 obtain ⟨s, h1, h2, h3, h4, h5⟩ := h i (Nat.zero_le _) _ (List.getElem?_eq_getElem hi)
 rw [thingP, slots_owns hw hl h1 h2 h3, List.length_map, h4, beq_self_eq_true, Bool.and_true, List.all_eq_true.2 h5, Bool.and_true]
 have hp : (moreW W bits).parents.length = W.parents.length + bits.length := by show (W.parents ++ bits.map _).length = _; simp
 simp only [ownP, Bool.and_eq_true, decide_eq_true_eq]
 rcases h1 with ⟨h6, h7, _⟩ | ⟨j, h6, h7⟩
 ·omega
 ·have := (List.getElem?_eq_some_iff.1 h6).1
  omega
theorem mdl_ok {W : FW} {f : Fact} (hg : goodP W [f] = true) (h20 : W.parents.length ≤ 20) {c : List FLit} (hf : firstC W f = some c) : MdlOk W f (modelC W c) ∧ W.parents.length + (argsV W (stageK c) 3).2.1.length ≤ 60 := by
 have hw := good_w hg
 have h1 := good_f1 hg
 have hc : c ∈ casesP f false := List.mem_of_find?_eq_some hf
 have ht : together2 W c = true := List.find?_some hf
 have h := case_ls hw h1.2.2.1 hc
 have hlen := cases_half f (wf_ok f h1.2.2.1) false c hc
 have hnod := h1.2.2.2
 have K := stage_kn h.ok (by omega)
 have hfew := model_few h K
 have hl : W.parents.length + (argsV W (stageK c) 3).2.1.length ≤ 60 := by omega
 obtain ⟨t1, t2⟩ := args_things h K ht 3 (by omega)
 have h3 := (args_ok K (world_own hw) 3 (by omega)).2.2.2
 have hB := big_more hw hl
 exact ⟨⟨world_more hw hl, bigger_more W _, things_of hw hl t1 (by show (argsV W (stageK c) 3).2.2.length ≤ 40; omega), h3, by
  show argsP (argsV W (stageK c) 3).1 ((argsV W (stageK c) 3).2.2.length : Int) = true
  rw [argsP, List.all_eq_true.2 t2, Bool.and_true, decide_eq_true (by omega), decide_eq_true (by omega)]; rfl, hB.wf f h1.2.2.1, spk_three f h1.2.2.1, model_holds hw h1.2.2.1 hc ht (by omega) hl⟩, hl⟩
theorem p16 (g : Gv) : PCall Tryz.prog 16 [AV.given g] (.b true) := by
 cases h : goodP g.W [g.A, g.B] with
 | false => exact p16n g h
 | true =>
  cases hi : impC g.W g.A g.B with
  | true => exact p16t g h hi
  | false =>
   refine p16f g h hi fun hg h20 c hc => ?_
   obtain ⟨M, hl⟩ := mdl_ok hg h20 hc
   have h2 := good_f2 h
   exact snd_of h hl M (spk_three _ h2.2.1) (spk_three _ h2.2.2.2.1)
end Go.Proofs.YtiljpbljebfhnaaGreat
