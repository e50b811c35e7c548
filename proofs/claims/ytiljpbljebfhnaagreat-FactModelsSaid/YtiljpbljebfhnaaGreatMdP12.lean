/- Part 12 of the proof: contracts of functions of the program and what they need. No condition beyond those that each theorem names. -/
import Derived.Test.YtiljpbljebfhnaaGreatMdP11
import Derived.ProofKit
set_option linter.unusedVariables false
set_option linter.unusedSimpArgs false
set_option maxRecDepth 10000
namespace Go.Proofs.YtiljpbljebfhnaaGreat
open Go.Eng
open Go.Eng.Fc
theorem any_orE {α : Type} (p q : α → Bool) : ∀ l : List α, (l.any p || l.any q) = l.any fun x => p x || q x
 | [] => rfl
 | x :: r => by rw [List.any_cons, List.any_cons, List.any_cons, ← any_orE p q r]; cases p x <;> cases q x <;> cases r.any p <;> rfl
theorem len_set {l : List Bool} {i : Nat} {x : Bool} : (l.set i x).length = l.length := List.length_set
theorem set_get {l : List Bool} {i b : Nat} (hi : i < l.length) : (l.set i true).getD b false = (l.getD b false || b == i) := by
 rw [getD_set]
 by_cases e : i = b
 ·subst e; rw [if_pos ⟨rfl, hi⟩]; simp
 ·rw [if_neg (fun h => e h.1), show (b == i) = false from by rw [beq_eq_false_iff_ne]; exact fun h => e h.symm, Bool.or_false]
def badL (l : FLit) : Bool := (l.f.op != 2 || l.f.cls == 1 || l.f.cls == 2) && !l.neg
def posL (c : Nat) (l : FLit) : Bool := l.f.op == 2 && !l.neg && l.f.cls.toNat == c
def negL (c : Nat) (l : FLit) : Bool := l.f.op == 2 && l.neg && l.f.cls.toNat == c
structure LitN (N : Nat) (l : FLit) : Prop where
 op : l.f.op ≤ 4
 cls : l.f.op = 2 → 0 ≤ l.f.cls ∧ l.f.cls < N
theorem obj_lits {N : Nat} : ∀ (r : List FLit) (t : MS), (∀ l ∈ r, LitN N l) → t.1.length = N → t.2.length = N →
  (r.any badL = true → objOn (factL r) t = none) ∧ (r.any badL = false → ∃ u : MS, objOn (factL r) t = some u ∧ u.1.length = N ∧ u.2.length = N ∧ ∀ c, u.1.getD c false = (t.1.getD c false || r.any (posL c)) ∧ (c ≠ 1 → c ≠ 2 → u.2.getD c false = (t.2.getD c false || r.any (negL c))))
 | [], t, _, h1, h2 => ⟨by simp, fun _ => ⟨t, rfl, h1, h2, fun c => ⟨by simp, fun _ _ => by simp⟩⟩⟩
 | l :: r, t, hr, h1, h2 => by
  have hl := hr l (.head _)
  have hr' : ∀ x ∈ r, LitN N x := fun x hx => hr x (.tail _ hx)
  have hs := sp_lit hl.op
  show (_ → objOn (litF l :: factL r) t = none) ∧ (_ → ∃ u : MS, objOn (litF l :: factL r) t = some u ∧ _)
  rw [objOn, objStep, hs, List.any_cons]
  by_cases hA : (l.f.op != 2 || l.f.cls == 1 || l.f.cls == 2) = true
  ·rw [if_pos hA]
   by_cases hn : l.neg = true
   ·rw [if_pos hn, show badL l = false from by rw [badL, hn]; simp, Bool.false_or]
    obtain ⟨i1, i2⟩ := obj_lits r t hr' h1 h2
    refine ⟨i1, fun hb => ?_⟩
    obtain ⟨u, e, l1, l2, hu⟩ := i2 hb
    refine ⟨u, e, l1, l2, fun c => ⟨?_, fun c1 c2 => ?_⟩⟩
    ·rw [(hu c).1, List.any_cons, show posL c l = false from by rw [posL, hn]; simp, Bool.false_or]
    ·have hng : negL c l = false := by
      rw [negL, Bool.eq_false_iff]
      intro e
      simp only [Bool.and_eq_true, beq_iff_eq, Bool.or_eq_true, bne_iff_ne] at e hA
      have := hl.cls e.1.1
      omega
     rw [(hu c).2 c1 c2, List.any_cons, hng, Bool.false_or]
   ·have hb : badL l = true := by rw [badL, hA]; simpa using hn
    rw [if_neg hn, hb]
    exact ⟨fun _ => rfl, fun h => by simp at h⟩
  ·have hA' := Bool.eq_false_iff.2 hA
   have hb : badL l = false := by rw [badL, hA']; rfl
   simp only [Bool.or_eq_false_iff, bne_eq_false_iff_eq] at hA'
   have hc := hl.cls hA'.1.1
   rw [if_neg hA, hb, Bool.false_or]
   by_cases hn : l.neg = true
   ·rw [if_pos hn]
    obtain ⟨i1, i2⟩ := obj_lits r (t.1, t.2.set l.f.cls.toNat true) hr' h1 (by rw [len_set]; exact h2)
    refine ⟨i1, fun hb => ?_⟩
    obtain ⟨u, e, l1, l2, hu⟩ := i2 hb
    refine ⟨u, e, l1, l2, fun c => ⟨?_, fun c1 c2 => ?_⟩⟩
    ·rw [(hu c).1, List.any_cons, show posL c l = false from by rw [posL, hn]; simp, Bool.false_or]
    ·rw [(hu c).2 c1 c2, List.any_cons, ← Bool.or_assoc]
     congr 1
     show (t.2.set l.f.cls.toNat true).getD c false = _
     rw [set_get (by omega), negL, hn, hA'.1.1]
     simp [eq_comm, Bool.beq_eq_decide_eq]
   ·rw [if_neg hn]
    have hn := Bool.eq_false_iff.2 hn
    obtain ⟨i1, i2⟩ := obj_lits r (t.1.set l.f.cls.toNat true, t.2) hr' (by rw [len_set]; exact h1) h2
    refine ⟨i1, fun hb => ?_⟩
    obtain ⟨u, e, l1, l2, hu⟩ := i2 hb
    refine ⟨u, e, l1, l2, fun c => ⟨?_, fun c1 c2 => ?_⟩⟩
    ·rw [(hu c).1, List.any_cons, ← Bool.or_assoc]
     congr 1
     show (t.1.set l.f.cls.toNat true).getD c false = _
     rw [set_get (by omega), posL, hn, hA'.1.1]
     simp [eq_comm, Bool.beq_eq_decide_eq]
    ·rw [(hu c).2 c1 c2, List.any_cons, show negL c l = false from by rw [negL, hn]; simp, Bool.false_or]
theorem setAll_get : ∀ (l : List Int) (o : List Bool) (b : Nat), (∀ p ∈ l, 0 ≤ p ∧ p < o.length) → (setAll o l).getD b false = (o.getD b false || l.contains (b : Int))
 | [], o, b, _ => by simp [setAll]
 | p :: r, o, b, h => by
  have hp := h p (.head _)
  show (setAll (o.set p.toNat true) r).getD b false = _
  rw [setAll_get r _ b (fun q hq => by rw [len_set]; exact h q (.tail _ hq)), set_get (by omega), List.contains_cons, Bool.or_assoc]
  congr 2
  rw [Bool.eq_iff_iff, beq_iff_eq, beq_iff_eq]; omega
theorem closeR_len (W : FW) : ∀ (k : Nat) (o : List Bool), (closeR W k o).length = o.length
 | 0, o => rfl
 | k + 1, o => by rw [closeR, closeR_len W k]; split; exact setAll_len _ _; rfl
theorem closeR_get {W : FW} (h : worldP W = true) : ∀ (k : Nat) (o : List Bool), k ≤ W.parents.length → o.length = 3 + W.parents.length → ∀ b, 0 < b → (closeR W k o).getD b false = (o.getD b false || (List.range k).any fun i => o.getD (3 + i) false && upB W (3 + i) b)
 | 0, o, _, _, b, _ => by simp [closeR]
 | k + 1, o, hk, hl, b, hb => by
  have hp := pars_lt h (i := k) (by omega)
  rw [closeR, List.range_succ, List.any_append, List.any_cons, List.any_nil, Bool.or_false]
  by_cases hok : o.getD (3 + k) false = true
  ·rw [if_pos hok]
   have hg := fun x => setAll_get (W.parents.getD k default) o x (fun p hp' => by have := hp p hp'; omega)
   rw [closeR_get h k _ (by omega) (by rw [setAll_len]; exact hl) b hb, hg, hok, Bool.true_and]
   rw [upB_own h (by omega), show (b == 0) = false from by rw [beq_eq_false_iff_ne]; omega, Bool.false_or]
   rw [Bool.eq_iff_iff]
   simp only [Bool.or_eq_true, Bool.and_eq_true, List.any_eq_true, List.mem_range, beq_iff_eq, hg, List.contains_iff_mem]
   constructor
   ·rintro ((h1 | h2) | ⟨i, hi, h1 | h1, h3⟩)
    ·exact .inl h1
    ·exact .inr (.inr (.inr ⟨(b : Int), h2, by rw [Int.toNat_natCast]; exact upB_self h (by have := hp _ h2; omega)⟩))
    ·exact .inr (.inl ⟨i, hi, h1, h3⟩)
    ·exact .inr (.inr (.inr ⟨((3 + i : Nat) : Int), h1, by rw [Int.toNat_natCast]; exact h3⟩))
   ·rintro (h1 | ⟨i, hi, h1, h3⟩ | rfl | ⟨p, hp', h3⟩)
    ·exact .inl (.inl h1)
    ·exact .inr ⟨i, hi, .inl h1, h3⟩
    ·exact .inl (.inl hok)
    ·have := hp p hp'
     by_cases hpk : p.toNat < 3 + k
     ·refine .inr ⟨p.toNat - 3, by omega, .inr ?_, ?_⟩
      ·rw [show ((3 + (p.toNat - 3) : Nat) : Int) = p from by omega]; exact hp'
      ·rw [show 3 + (p.toNat - 3) = p.toNat from by omega]; exact h3
     ·omega
  ·rw [if_neg hok, closeR_get h k _ (by omega) hl b hb, Bool.eq_false_iff.2 hok, Bool.false_and, Bool.or_false]
theorem closeR_zero {W : FW} (h : worldP W = true) : ∀ (k : Nat) (o : List Bool), k ≤ W.parents.length → o.length = 3 + W.parents.length → (closeR W k o).getD 0 false = o.getD 0 false
 | 0, o, _, _ => rfl
 | k + 1, o, hk, hl => by
  have hp := pars_lt h (i := k) (by omega)
  rw [closeR]
  split
  ·rw [closeR_zero h k _ (by omega) (by rw [setAll_len]; exact hl), setAll_get _ _ _ (fun p hp' => by have := hp p hp'; omega)]
   have : (W.parents.getD k default).contains ((0 : Nat) : Int) = false := by
    rw [Bool.eq_false_iff]; intro e
    have := hp _ (List.contains_iff_mem.1 e)
    omega
   rw [this, Bool.or_false]
  ·exact closeR_zero h k _ (by omega) hl
theorem closeK_get {W : FW} (h : worldP W = true) : ∀ (f c mu : Nat), c + f = 3 + W.parents.length → ∀ b, (closeK W f c mu).testBit b = true ↔ mu.testBit b = true ∨ ∃ i, c ≤ i ∧ i < c + f ∧ mu.testBit i = true ∧ upB W i b = true
 | 0, c, mu, _, b => by
  rw [closeK]
  exact ⟨.inl, fun h => h.elim id fun ⟨i, h1, h2, _⟩ => by omega⟩
 | f + 1, c, mu, hc, b => by
  rw [closeK, closeK_get h f (c + 1) _ (by omega)]
  by_cases hm : mu.testBit c = true
  ·rw [if_pos hm]
   simp only [Nat.testBit_or, Bool.or_eq_true]
   constructor
   ·rintro ((h1 | h1) | ⟨i, h1, h2, h3 | h3, h4⟩)
    ·exact .inl h1
    ·exact .inr ⟨c, by omega, by omega, hm, h1⟩
    ·exact .inr ⟨i, by omega, by omega, h3, h4⟩
    ·exact .inr ⟨c, by omega, by omega, hm, upB_trans h c c (Nat.le_refl _) (by omega) i b h3 h4⟩
   ·rintro (h1 | ⟨i, h1, h2, h3, h4⟩)
    ·exact .inl (.inl h1)
    ·by_cases e : i = c
     ·subst e; exact .inl (.inr h4)
     ·exact .inr ⟨i, by omega, by omega, .inl h3, h4⟩
  ·rw [if_neg hm]
   constructor
   ·rintro (h1 | ⟨i, h1, h2, h3, h4⟩)
    ·exact .inl h1
    ·exact .inr ⟨i, by omega, by omega, h3, h4⟩
   ·rintro (h1 | ⟨i, h1, h2, h3, h4⟩)
    ·exact .inl h1
    ·by_cases e : i = c
     ·subst e; exact absurd h3 hm
     ·exact .inr ⟨i, by omega, by omega, h3, h4⟩
structure Marks (W : FW) (t : MS) (must no : Nat) : Prop where
 l1 : t.1.length = 3 + W.parents.length
 l2 : t.2.length = 3 + W.parents.length
 m : ∀ c, must.testBit c = t.1.getD c false
 n : ∀ c, c ≠ 1 → c ≠ 2 → no.testBit c = t.2.getD c false
 m1 : must.testBit 1 = false
 m2 : must.testBit 2 = false
theorem or_bit {s c b : Nat} : (s ||| 2 ^ c).testBit b = (s.testBit b || b == c) := by
 rw [Nat.testBit_or, Nat.testBit_two_pow]
 congr 1
 rw [Bool.eq_iff_iff, decide_eq_true_iff, beq_iff_eq]; exact eq_comm
theorem Marks.addM {W : FW} {t : MS} {must no : Nat} (h : Marks W t must no) {c : Nat} (hc : 3 ≤ c ∧ c < 3 + W.parents.length) : Marks W (t.1.set c true, t.2) (must ||| 2 ^ c) no :=
 ⟨by rw [len_set]; exact h.l1, h.l2, fun b => by rw [or_bit, h.m, set_get (by rw [h.l1]; omega)], h.n, by rw [or_bit, h.m1, Bool.false_or, beq_eq_false_iff_ne]; omega, by rw [or_bit, h.m2, Bool.false_or, beq_eq_false_iff_ne]; omega⟩
theorem Marks.addN {W : FW} {t : MS} {must no : Nat} (h : Marks W t must no) {c : Nat} (hc : 3 ≤ c ∧ c < 3 + W.parents.length) : Marks W (t.1, t.2.set c true) must (no ||| 2 ^ c) :=
 ⟨h.l1, by rw [len_set]; exact h.l2, h.m, fun b b1 b2 => by rw [or_bit, h.n b b1 b2, set_get (by rw [h.l2]; omega)], h.m1, h.m2⟩
section
variable {W : FW} {ls : List FLit} (h : LsOk W ls)
include h
theorem slots_marks (a : Int) {p : List Int} {can can' : List Int → Bool} : ∀ (r : List Int) (t : MS) (must no : Nat), (∀ s ∈ r, 0 ≤ s ∧ s < W.owner.length) → (∀ s ∈ r, can (p ++ [s]) = can' (p ++ [s])) → Marks W t must no →
  (slots2 W (stage2 ls) can' a p r must no = none ∧ objSl W (factL ls) can a p r t = none) ∨ ∃ u must' no', slots2 W (stage2 ls) can' a p r must no = some (must', no') ∧ objSl W (factL ls) can a p r t = some u ∧ Marks W u must' no' ∧ no'.testBit 0 = no.testBit 0
 | [], t, must, no, _, _, hm => .inr ⟨t, must, no, rfl, rfl, hm, rfl⟩
 | s :: r, t, must, no, hr, hc, hm => by
  have hr' : ∀ x ∈ r, 0 ≤ x ∧ x < W.owner.length := fun x hx => hr x (.tail _ hx)
  have hc' : ∀ x ∈ r, can (p ++ [x]) = can' (p ++ [x]) := fun x hx => hc x (.tail _ hx)
  have ho := owner_rng h.w (hr s (.head _))
  rw [slots2, objSl, bare_stage h, hc s (.head _), Bool.not_not, slStep, ownerN]
  cases hnd : (stage2 ls a (p ++ [s])).needed with
  | true =>
   cases hcn : can' (p ++ [s]) with
   | false => exact .inl ⟨by simp, by simp⟩
   | true =>
    have := slots_marks a r _ _ no hr' hc' (hm.addM (c := (W.owner.getD s.toNat default).toNat) (by omega))
    simpa using this
  | false =>
   cases hcn : can' (p ++ [s]) with
   | false =>
    have := slots_marks a r _ must _ hr' hc' (hm.addN (c := (W.owner.getD s.toNat default).toNat) (by omega))
    have e0 : (no ||| 2 ^ (W.owner.getD s.toNat default).toNat).testBit 0 = no.testBit 0 := by
     rw [or_bit, show (0 == (W.owner.getD s.toNat default).toNat) = false from by rw [beq_eq_false_iff_ne]; omega, Bool.or_false]
    rw [e0] at this
    simpa using this
   | true =>
    have := slots_marks a r t must no hr' hc' hm
    simpa using this
theorem object_stage {a : Int} {p : List Int} {can can' : List Int → Bool} (hc : ∀ s ∈ (stage2 ls a p).slots, can (p ++ [s]) = can' (p ++ [s])) :
  (objectR W (factL ls) can a p).isSome = (object2 W (stage2 ls) can' a p).2 ∧ ∀ mu, objectR W (factL ls) can a p = some mu → mu.length = 3 + W.parents.length ∧ ∀ b, mu.getD b false = (object2 W (stage2 ls) can' a p).1.testBit b := by
 have hW := world_len h.w
 have hmust : ∀ c, (stage2 ls a p).must.testBit c = (ls.filter (hitL a p)).any (posL c) := fun c => by
  rw [h.must, List.any_filter]
  refine any_congr_mem fun l _ => ?_
  rw [isL, posL]
  cases hitL a p l <;> cases l.f.op == 2 <;> cases l.neg <;> rfl
 have hno : ∀ c, (stage2 ls a p).no.testBit c = (ls.filter (hitL a p)).any (negL c) := fun c => by
  rw [h.no, List.any_filter]
  refine any_congr_mem fun l _ => ?_
  rw [isL, negL]
  cases hitL a p l <;> cases l.f.op == 2 <;> cases l.neg <;> rfl
 have hbad : (ls.filter (hitL a p)).any badL = ((stage2 ls a p).whole || (stage2 ls a p).must.testBit 1 || (stage2 ls a p).must.testBit 2) := by
  rw [h.whole, hmust, hmust, List.any_filter, List.any_filter, List.any_filter, any_orE, any_orE]
  refine any_congr_mem fun l hl => ?_
  have hcl := (h.ok l hl).cls
  rw [badL, posL, posL, wholeL]
  cases hitL a p l
  ·rfl
  ·cases hn : l.neg
   ·by_cases h2 : l.f.op = 2
    ·have e1 : (l.f.cls == 1) = (l.f.cls.toNat == 1) := by rw [Bool.eq_iff_iff, beq_iff_eq, beq_iff_eq]; have := hcl h2; omega
     have e2 : (l.f.cls == 2) = (l.f.cls.toNat == 2) := by rw [Bool.eq_iff_iff, beq_iff_eq, beq_iff_eq]; have := hcl h2; omega
     rw [h2, e1, e2]; simp
    ·have : (l.f.op == 2) = false := by simpa using h2
     simp [bne, this]
   ·simp
 obtain ⟨o1, o2⟩ := obj_lits (N := 3 + W.parents.length) (ls.filter (hitL a p)) (falses W, falses W) (fun l hl => ⟨(h.ok l (List.mem_filter.1 hl).1).op.2, fun h2 => ⟨((h.ok l (List.mem_filter.1 hl).1).cls h2).1, by have := h.cls l (List.mem_filter.1 hl).1 h2; omega⟩⟩) (by simp [falses]) (by simp [falses])
 rw [objectR, on_stage h, object2]
 by_cases hb : (ls.filter (hitL a p)).any badL = true
 ·rw [o1 hb]
  rw [hbad] at hb
  rw [if_pos (by rw [hb]; rfl)]
  exact ⟨rfl, fun mu hmu => by cases hmu⟩
 ·have hb := Bool.eq_false_iff.2 hb
  obtain ⟨u, e, l1, l2, hu⟩ := o2 hb
  rw [e]
  have hm12 := hb
  rw [hbad, Bool.or_eq_false_iff, Bool.or_eq_false_iff] at hm12
  have hfal : ∀ c, (falses W).getD c false = false := fun c => by
   rw [falses, List.getD_eq_getElem?_getD, List.getElem?_replicate]; split <;> rfl
  have hmk : Marks W u (stage2 ls a p).must (stage2 ls a p).no := ⟨l1, l2, fun c => by rw [hmust, (hu c).1, hfal, Bool.false_or], fun c c1 c2 => by rw [hno, (hu c).2 c1 c2, hfal, Bool.false_or], hm12.1.2, hm12.2⟩
  simp only []
  rw [slots_stage h]
  have hsr : ∀ s ∈ (stage2 ls a p).slots, 0 ≤ s ∧ s < W.owner.length := fun s hs => by rw [← slots_stage h] at hs; exact slot_rng hs
  rw [hm12.1.1, hm12.1.2, hm12.2, Bool.false_or, Bool.false_or, Bool.false_or]
  rcases slots_marks h a (stage2 ls a p).slots u _ _ hsr hc hmk with ⟨e1, e2⟩ | ⟨v, must, no, e1, e2, hv, h0⟩
  ·rw [e1, e2]
   refine ⟨?_, fun mu hmu => by cases hmu⟩
   cases (stage2 ls a p).no.testBit 0 <;> rfl
  ·rw [e1, e2]
   simp only []
   rw [objEnd]
   by_cases hn0 : (stage2 ls a p).no.testBit 0 = true
   ·rw [if_pos hn0, if_pos (by rw [← hv.n 0 (by omega) (by omega), h0, hn0])]
    exact ⟨rfl, fun mu hmu => by cases hmu⟩
   ·rw [if_neg hn0, if_neg (by rw [← hv.n 0 (by omega) (by omega), h0]; exact hn0)]
    have hz0 : (v.1.set 0 false).length = 3 + W.parents.length := by rw [List.length_set]; exact hv.l1
    have hz : ∀ b, (v.1.set 0 false).getD b false = (v.1.getD b false && !(b == 0)) := fun b => by
     rw [getD_set]
     by_cases e : 0 = b
     ·subst e; rw [if_pos ⟨rfl, by rw [hv.l1]; omega⟩]; simp
     ·rw [if_neg (fun h => e h.1), show (b == 0) = false from by rw [beq_eq_false_iff_ne]; omega]; simp
    have hlt : ∀ b, must.testBit b = true → b < 3 + W.parents.length := fun b hb => by
     rw [hv.m] at hb
     rcases Nat.lt_or_ge b (3 + W.parents.length) with hlt | hge
     ·exact hlt
     ·rw [List.getD_eq_getElem?_getD, List.getElem?_eq_none (by rw [hv.l1]; exact hge)] at hb; cases hb
    have hX := closeK_get h.w W.parents.length 3 must rfl
    have hXlt : ∀ b, (closeK W W.parents.length 3 must).testBit b = true → b < 3 + W.parents.length := fun b hb => by
     rcases (hX b).1 hb with h1 | ⟨i, h1, h2, _, h4⟩
     ·exact hlt b h1
     ·have := upB_le h.w i i (Nat.le_refl _) (by omega) b h4
      omega
    have hY : ∀ b, (closeR W W.parents.length (v.1.set 0 false)).getD b false = (andNotP (closeK W W.parents.length 3 must) 1).testBit b := fun b => by
     rw [andNot_bit]
     have e1 : (1 : Nat).testBit b = (b == 0) := by
      rcases b with _ | b
      ·rfl
      ·rw [Nat.testBit_succ]; simp
     rw [e1]
     by_cases hb0 : b = 0
     ·subst hb0; rw [closeR_zero h.w _ _ (Nat.le_refl _) hz0, hz]; simp
     ·have hb0' : (b == 0) = false := by rw [beq_eq_false_iff_ne]; exact hb0
      rw [closeR_get h.w _ _ (Nat.le_refl _) hz0 b (by omega), hb0', Bool.not_false, Bool.and_true, hz, hb0', Bool.not_false, Bool.and_true, ← hv.m, Bool.eq_iff_iff, Bool.or_eq_true, Bool.and_eq_true, decide_eq_true_iff, hX, List.any_eq_true]
      constructor
      ·rintro (h1 | ⟨i, hi, h2⟩)
       ·exact ⟨by have := hlt b h1; omega, .inl h1⟩
       ·rw [Bool.and_eq_true, hz, Bool.and_eq_true, ← hv.m] at h2
        have hi := List.mem_range.1 hi
        have := upB_le h.w (3 + i) (3 + i) (Nat.le_refl _) (by omega) b h2.2
        exact ⟨by omega, .inr ⟨3 + i, by omega, by omega, h2.1.1, h2.2⟩⟩
      ·rintro ⟨_, h1 | ⟨i, h1, h2, h3, h4⟩⟩
       ·exact .inl h1
       ·refine .inr ⟨i - 3, List.mem_range.2 (by omega), ?_⟩
        rw [show 3 + (i - 3) = i from by omega, Bool.and_eq_true, hz, Bool.and_eq_true, ← hv.m]
        exact ⟨⟨h3, by simp; omega⟩, h4⟩
    have hY12 : ∀ b, b = 1 ∨ b = 2 → (andNotP (closeK W W.parents.length 3 must) 1).testBit b = false := fun b hb => by
     rw [andNot_bit, Bool.eq_false_iff]
     intro hh
     simp only [Bool.and_eq_true] at hh
     rcases (hX b).1 hh.1.2 with h1 | ⟨i, h1, h2, _, h4⟩
     ·rcases hb with rfl | rfl
      ·rw [hv.m1] at h1; cases h1
      ·rw [hv.m2] at h1; cases h1
     ·have := upB_le h.w i i (Nat.le_refl _) (by omega) b h4
      omega
    have hclash : clashR (closeR W W.parents.length (v.1.set 0 false)) v.2 (3 + W.parents.length) = !(((andNotP (closeK W W.parents.length 3 must) 1 &&& no : Nat) : Int) == 0) := by
     rw [← Bool.not_not (clashR _ _ _)]
     congr 1
     rw [Bool.eq_iff_iff, zero_bits, Bool.not_eq_true']
     constructor
     ·intro hcl c
      rw [Nat.testBit_and, Bool.eq_false_iff]
      intro hh
      rw [Bool.and_eq_true] at hh
      have hc12 : c ≠ 1 ∧ c ≠ 2 := ⟨fun e => absurd hh.1 (by rw [hY12 c (.inl e)]; simp), fun e => absurd hh.1 (by rw [hY12 c (.inr e)]; simp)⟩
      have hclt : c < 3 + W.parents.length := by
       have := hh.1
       rw [andNot_bit, Bool.and_eq_true, Bool.and_eq_true] at this
       exact hXlt c this.1.2
      rw [hv.n c hc12.1 hc12.2, ← hY] at hh
      rw [clash_yes hclt (by rw [hh.1, hh.2]; rfl)] at hcl
      cases hcl
     ·intro hz'
      rw [Bool.eq_false_iff]
      intro hcl
      obtain ⟨c, hc, hh⟩ := List.any_eq_true.1 hcl
      rw [Bool.and_eq_true, hY] at hh
      have hc12 : c ≠ 1 ∧ c ≠ 2 := ⟨fun e => absurd hh.1 (by rw [hY12 c (.inl e)]; simp), fun e => absurd hh.1 (by rw [hY12 c (.inr e)]; simp)⟩
      have := hz' c
      rw [Nat.testBit_and, hh.1, hv.n c hc12.1 hc12.2, hh.2] at this
      cases this
    rw [hclash]
    by_cases hfin : (((andNotP (closeK W W.parents.length 3 must) 1 &&& no : Nat) : Int) == 0) = true
    ·rw [hfin, if_neg (by simp)]
     refine ⟨by simp, fun mu hmu => ?_⟩
     cases hmu
     exact ⟨by rw [closeR_len]; exact hz0, hY⟩
    ·have hfin := Bool.eq_false_iff.2 hfin
     rw [hfin, if_pos (by simp)]
     exact ⟨by simp, fun mu hmu => by cases hmu⟩
theorem can_stage (a : Int) : ∀ (d : Nat) (p : List Int), canR W (factL ls) a d p = can2 W (stage2 ls) d a p
 | 0, p => by rw [canR, can2, int_stage h, none_stage h, (object_stage h (fun s hs => rfl)).1]
 | d + 1, p => by rw [canR, can2, int_stage h, none_stage h, (object_stage h (fun s hs => can_stage a d (p ++ [s]))).1]
theorem together_stage : togetherR W (factL ls) = together2 W ls := by
 rw [togetherR, together2, can_stage h, can_stage h, can_stage h]
end
def mergeStep (out : List Fact) (x : Fact) : List Fact := if out.contains x then out else out ++ [x]
def mergedR (a b : List Fact) : List Fact := b.foldl mergeStep a
theorem merge_take {a b : List Fact} {k : Nat} (h : k < b.length) : mergedR a (b.take (k + 1)) = mergeStep (mergedR a (b.take k)) (b.getD k default) := by
 rw [← take_getD h, mergedR, List.foldl_append]; rfl
theorem merged_len (a : List Fact) : ∀ b : List Fact, (mergedR a b).length ≤ a.length + b.length := by
 intro b
 induction b generalizing a with
 | nil => simp [mergedR]
 | cons x b ih =>
  show (mergedR (mergeStep a x) b).length ≤ _
  have := ih (mergeStep a x)
  rw [List.length_cons]
  have h2 : (mergeStep a x).length ≤ a.length + 1 := by unfold mergeStep; split <;> simp
  omega
theorem any_eqx {l : List Fact} {x : Fact} {j : Nat} (h : j < l.length) : (l.take (j + 1)).contains x = ((l.take j).contains x || x == l.getD j default) := by
 rw [← take_getD h, List.contains_eq_any_beq, List.contains_eq_any_beq, List.any_append]; simp
theorem there_bif {t : Bool} {y : Bool} : (bif t then true else y) = (t || y) := by cases t <;> rfl
theorem p141 (a b : List Fact) (ha : a.length ≤ 100000) (hb : b.length ≤ 100000) : PCall Tryz.prog 141 [AV.facts a, AV.facts b] (AV.facts (mergedR a b)) := by
 intro H
 refine ACall.mk' (n := 40) Tryz.func141 rfl (by kernel_rfl) rfl rfl (fun B I w0 => ?_)
 refine S2 ?_; refine Oas ?_; refine S4 ?_; refine Omv ?_
 refine OL.appendNil rfl rfl rfl rfl rfl rfl rfl rfl (AVle.refl _) (by rw [encFs_map]; exact one_map (fun _ => rfl) _) (by show (encFs _).length * 80 ≤ _; rw [encFs_map, List.length_map]; omega) (by show (encFs _).length ≤ _; rw [encFs_map, List.length_map]; omega) (fun v12 => ?_)
 refine Oas ?_; refine S5 ?_; refine Omv ?_; refine Oln ?_; refine Omv ?_; refine S3 ?_
 refine lj (fun m st => ∃ (k : Nat) (v : Value), st = ⟨[(15, .i k), (14, .i b.length), (13, AV.facts b), (5, .as (AV.facts (mergedR a (b.take k))) v)], .own 29 6 v :: H⟩ ∧ m = b.length - k ∧ k ≤ b.length) (⟨0, v12, rfl, rfl, by omega⟩) ?_
 rintro m _ ⟨k, v, rfl, rfl, hk⟩
 refine S2 ?_; refine Ocm ?_; refine S3 ?_
 refine CW.cond rfl (fun h0 => ?_) (fun h0 => ?_)
 ·
  replace h0 := nm h0
  refine S6 ?_; refine Oix ?_; refine Ola ?_
  refine OL.alC rfl rfl rfl rfl (fun b0 => ?_)
  refine Sto ?_; refine S3 ?_
  refine CW.freezeP (d := 7) rfl (by repeat (first | exact Del.head _ _ | apply Del.tail)) ?_
  refine S1 ?_; refine Oas ?_; refine S4 ?_
  have hml : (mergedR a (b.take k)).length ≤ 200000 := Nat.le_trans (merged_len _ _) (by rw [List.length_take]; omega)
  refine S1 ?_; refine Omv ?_
  refine OL.le 19 (y := AV.facts (mergedR a (b.take k))) rfl (AVle.asL _ _) ?_
  refine Oln ?_; refine Omv ?_; refine S3 ?_
  refine lj (fun m st => ∃ (j : Nat), st = ⟨[(21, .i j), (20, .i (mergedR a (b.take k)).length), (19, AV.facts (mergedR a (b.take k))), (8, .b (((mergedR a (b.take k)).take j).contains (b.getD k default))), (7, .ptr (Fcells (b.getD k default))), (15, .i k), (14, .i b.length), (13, AV.facts b), (5, .as (AV.facts (mergedR a (b.take k))) v)], .own 29 6 v :: H⟩ ∧ m = (mergedR a (b.take k)).length - j ∧ j ≤ (mergedR a (b.take k)).length) (⟨0, rfl, rfl, by omega⟩) ?_
  rintro m _ ⟨j, rfl, rfl, hj⟩
  refine S2 ?_; refine Ocm ?_; refine S3 ?_
  refine CW.cond rfl (fun h1 => ?_) (fun h1 => ?_)
  ·
   replace h1 := nm h1
   refine S6 ?_; refine Oix ?_; refine Ola ?_
   refine OL.alC rfl rfl rfl rfl (fun b1 => ?_)
   refine Sto ?_; refine S3 ?_; refine Omv ?_; refine Omv ?_; refine Pla ?_; refine Pla ?_
   refine OL.guardC rfl rfl rfl rfl rfl rfl (fun hg => POp.call (.mk' rfl rfl rfl rfl (by first | rfl | ((repeat (first | exact hg | rfl | refine Bool.and_eq_true_iff.2 ⟨?_, ?_⟩)); done) | simp_all [strip, constAV])) (p28 (b.getD k default) ((mergedR a (b.take k)).getD j default))) ?_
   refine Opk ?_; refine Oas ?_; refine S4 ?_; refine Oar ?_; refine Omv ?_; refine S1 ?_
   exact ag (⟨j + 1, by rw [any_eqx (by omega), ← there_bif], rfl, by omega⟩)
  ·
   replace h1 := nm h1
   obtain rfl : j = (mergedR a (b.take k)).length := by omega
   rw [List.take_length]
   refine S7 ?_; refine Omv ?_; refine Ont ?_; refine S2 ?_
   refine CW.cond rfl (fun h2 => ?_) (fun h2 => ?_)
   ·
    have h2 : (mergedR a (b.take k)).contains (b.getD k default) = false := by simpa using h2
    have e : mergedR a (b.take (k + 1)) = (mergedR a (b.take k)) ++ [(b.getD k default)] := by rw [merge_take (by omega), mergeStep, if_neg (by rw [h2]; simp)]
    refine S1 ?_; refine Omv ?_; refine Ola ?_
    refine OL.popC rfl rfl rfl (POp.row rfl rfl (by first | rfl | simp_all [strip]) rfl rfl rfl rfl rfl rfl) ?_
    refine OL.appendC rfl rfl rfl rfl rfl rfl rfl rfl (AVle.refl _) (rfl) (fun v => by repeat (first | exact Upd.head _ _ _ | apply Upd.tail)) (by show ((encFs _).length + 1) * 80 ≤ _; rw [encFs_map, List.length_map]; omega) (by show (encFs _).length + 1 ≤ _; rw [encFs_map, List.length_map]; omega) (fun v37 => ?_)
    refine Oas ?_; refine S3 ?_
    refine CW.le 5 (y := .as (AV.facts (mergedR a (b.take (k + 1)))) v37) rfl (by rw [e, ← facts_app]; exact AVle.refl _) ?_
    refine S1 ?_; refine Oar ?_; refine Omv ?_; refine S1 ?_
    exact ag (⟨k + 1, v37, rfl, rfl, by omega⟩)
   ·
    have h2 : (mergedR a (b.take k)).contains (b.getD k default) = true := by simpa using h2
    have e : mergedR a (b.take (k + 1)) = (mergedR a (b.take k)) := by rw [merge_take (by omega), mergeStep, if_pos h2]
    refine S3 ?_
    rw [← e]
    refine S1 ?_; refine Oar ?_; refine Omv ?_; refine S1 ?_
    exact ag (⟨k + 1, v, rfl, rfl, by omega⟩)
 ·
  replace h0 := nm h0
  obtain rfl : k = b.length := by omega
  rw [List.take_length]
  refine S7 ?_; refine Omv ?_; refine Oas ?_; refine S3 ?_
  refine Done.retR (rs := [.tmp 4]) (H' := H) rfl (.tmp rfl (.nil)) (.cons (AVle.asL _ _) .nil) (by repeat (first | exact List.Sublist.refl _ | refine List.Sublist.cons _ ?_)) ?_
  exact ⟨by rfl, rfl⟩
def allR (f : Fact) (c : Bool) : List (List Fact) := (casesP f c).map factL
theorem contains_any (l : List Fact) (x : Fact) : l.contains x = l.any fun y => x == y := by rw [List.contains_eq_any_beq]
theorem lit_eq {x y : FLit} (hx : x.f.op ≤ 4) (hy : y.f.op ≤ 4) : (litF x == litF y) = (x.neg == y.neg && x.f == y.f) := by
 have h1 := sp_lit hx; have h2 := sp_lit hy
 rw [Bool.eq_iff_iff, beq_iff_eq, Bool.and_eq_true, beq_iff_eq, beq_iff_eq]
 constructor
 ·intro e; rw [e, h2] at h1; cases x; cases y; simp at h1 ⊢; exact ⟨h1.2.symm, h1.1.symm⟩
 ·rintro ⟨e1, e2⟩; rw [litF, litF, e1, e2]
theorem join_fact : ∀ (b a : List FLit), (∀ l ∈ a, l.f.op ≤ 4) → (∀ l ∈ b, l.f.op ≤ 4) → factL (joinedP a b) = mergedR (factL a) (factL b)
 | [], a, _, _ => rfl
 | x :: r, a, ha, hb => by
  show factL (joinedP (joinStep a x) r) = mergedR (mergeStep (factL a) (litF x)) (factL r)
  have hx := hb x (.head _)
  have e : factL (joinStep a x) = mergeStep (factL a) (litF x) := by
   unfold joinStep mergeStep
   have e : (factL a).contains (litF x) = a.any fun y => x.neg == y.neg && x.f == y.f := by
    rw [contains_any, factL, List.any_map]
    exact any_congr_mem fun y hy => lit_eq hx (ha y hy)
   rw [e]
   split
   ·rfl
   ·simp [factL]
  rw [join_fact r _ (fun l hl => ?_) (fun l hl => hb l (.tail _ hl)), e]
  unfold joinStep at hl
  split at hl
  ·exact ha l hl
  ·rcases List.mem_append.1 hl with hl | hl
   ·exact ha l hl
   ·rw [List.mem_singleton.1 hl]; exact hx
theorem lits_op {W : FW} {f : Fact} (h : wfB W f = true) {c : Bool} {l : List FLit} (hl : l ∈ casesP f c) : ∀ x ∈ l, x.f.op ≤ 4 := fun x hx => by
 have := (wf_lits f h c l hl x hx).2
 simp only [leafP, Bool.and_eq_true, decide_eq_true_eq] at this
 exact this.2
theorem all_true {f : Fact} (h : f.op = 1) (c : Bool) : allR f c = if c then [] else [[]] := by rw [allR, cases_true h]; cases c <;> rfl
theorem all_not {f : Fact} (h : f.op = 5) (hk : 0 < f.kids.length) (c : Bool) : allR f c = allR (f.kids.getD 0 default) (!c) := by rw [allR, cases_not h hk, allR]
theorem all_leaf {f : Fact} (h1 : ¬ f.op = 1) (h5 : ¬ f.op = 5) (hl : leafP f = true) (c : Bool) : allR f c = [[if c then notF f else f]] := by rw [allR, cases_leaf h1 h5 hl]; cases c <;> rfl
theorem all_either {f : Fact} (h1 : ¬ f.op = 1) (h5 : ¬ f.op = 5) (hl : leafP f = false) {c : Bool} (hc : (c == (f.op == 6)) = true) (hk : 1 < f.kids.length) : allR f c = allR (f.kids.getD 0 default) c ++ allR (f.kids.getD 1 default) c := by
 rw [allR, cases_either h1 h5 hl hc hk, List.map_append, allR, allR]
theorem all_both {W : FW} {f : Fact} (hw : wfB W f = true) (h1 : ¬ f.op = 1) (h5 : ¬ f.op = 5) (hl : leafP f = false) {c : Bool} (hc : (c == (f.op == 6)) = false) (hk : 1 < f.kids.length) : allR f c = (allR (f.kids.getD 0 default) c).flatMap fun a => (allR (f.kids.getD 1 default) c).map (mergedR a) := by
 have hkk := (wfB_iff.1 hw).2
 rw [allR, cases_both h1 h5 hl hc hk, allR, allR, List.map_flatMap, List.flatMap_map]
 have key : ∀ l : List (List FLit), (∀ x ∈ l, x ∈ casesP (f.kids.getD 0 default) c) → (l.flatMap fun a => ((casesP (f.kids.getD 1 default) c).map (joinedP a)).map factL) = l.flatMap fun a => ((casesP (f.kids.getD 1 default) c).map factL).map (mergedR (factL a)) := by
  intro l
  induction l with
  | nil => intro _; rfl
  | cons x r ih =>
   intro hx
   rw [List.flatMap_cons, List.flatMap_cons, ih (fun y hy => hx y (.tail _ hy)), List.map_map, List.map_map]
   congr 1
   refine List.map_congr_left fun y hy => ?_
   exact join_fact y x (lits_op (hkk _ (getD_mem (by omega))) (hx x (.head _))) (lits_op (hkk _ (getD_mem hk)) hy)
 exact key _ fun _ h => h
theorem pow_add_le {a b : Nat} (ha : 1 ≤ a) (hb : 1 ≤ b) : 2 ^ a + 2 ^ b ≤ 2 ^ (a + b) := by
 have h1 : 2 ≤ 2 ^ a := by have := Nat.pow_le_pow_right (n := 2) (by omega) ha; omega
 have h2 : 2 ≤ 2 ^ b := by have := Nat.pow_le_pow_right (n := 2) (by omega) hb; omega
 rw [Nat.pow_add]
 generalize 2 ^ a = A at *
 generalize 2 ^ b = B at *
 have h3 : A * 2 ≤ A * B := Nat.mul_le_mul_left A h2
 have h4 : 2 * B ≤ A * B := Nat.mul_le_mul_right B h1
 omega
theorem cases_count2 : ∀ f : Fact, okB f = true → ∀ c, (casesP f c).length ≤ 2 ^ ((nodesN f + 1) / 2) := by
 refine Fact.ind1 fun f ih hok c => ?_
 have hp := ok_parts hok
 have hE := nodesN_eq f
 have h2 : 1 ≤ 2 ^ ((nodesN f + 1) / 2) := Nat.one_le_two_pow
 by_cases h1 : f.op = 1
 ·rw [cases_true h1]; cases c
  ·exact h2
  ·simp
 by_cases h5 : f.op = 5
 ·have hk := kids_one hok h5
  rw [cases_not h5 (by omega)]
  have h3 := nodesNs_one f.kids (by omega)
  exact Nat.le_trans (ih (f.kids.getD 0 default) (getD_mem (by omega)) (hp.2.2.2.2 _ (getD_mem (by omega))) (!c)) (Nat.pow_le_pow_right (by omega) (by omega))
 by_cases hlf : leafP f = true
 ·rw [cases_leaf h1 h5 hlf]; simpa using h2
 ·have hlf' : leafP f = false := by simpa using hlf
  have hk := kids_two hok h1 h5 hlf'
  have n2 := nodesNs_two f.kids (by omega)
  have i0 := ih (f.kids.getD 0 default) (getD_mem (by omega)) (hp.2.2.2.2 _ (getD_mem (by omega))) c
  have i1 := ih (f.kids.getD 1 default) (getD_mem (by omega)) (hp.2.2.2.2 _ (getD_mem (by omega))) c
  have p0 : 1 ≤ nodesN (f.kids.getD 0 default) := by rw [nodesN_eq]; omega
  have p1 : 1 ≤ nodesN (f.kids.getD 1 default) := by rw [nodesN_eq]; omega
  have e1 : 2 ^ ((nodesN (f.kids.getD 0 default) + 1) / 2 + (nodesN (f.kids.getD 1 default) + 1) / 2) ≤ 2 ^ ((nodesN f + 1) / 2) := Nat.pow_le_pow_right (by omega) (by omega)
  refine Nat.le_trans ?_ e1
  cases hc : (c == (f.op == 6)) with
  | true =>
   rw [cases_either h1 h5 hlf' hc (by omega), List.length_append]
   exact Nat.le_trans (Nat.add_le_add i0 i1) (pow_add_le (by omega) (by omega))
  | false =>
   rw [cases_both h1 h5 hlf' hc (by omega), List.length_flatMap, Nat.pow_add]
   have key : ∀ l : List (List FLit), (l.map fun a => ((casesP (f.kids.getD 1 default) c).map (joinedP a)).length).sum = l.length * (casesP (f.kids.getD 1 default) c).length := by
    intro l
    induction l with
    | nil => simp
    | cons x r ihr => rw [List.map_cons, List.sum_cons, ihr, List.length_map, List.length_cons, Nat.add_mul]; omega
   rw [key]
   exact Nat.mul_le_mul i0 i1
theorem all_len {f : Fact} (hok : okB f = true) (c : Bool) : (allR f c).length ≤ 2 ^ ((nodesN f + 1) / 2) := by rw [allR, List.length_map]; exact cases_count2 f hok c
theorem all_len1 {f : Fact} (hok : okB f = true) (c : Bool) {x : List Fact} (hx : x ∈ allR f c) : x.length ≤ nodesN f := by
 obtain ⟨l, hl, rfl⟩ := List.mem_map.1 hx
 rw [factL, List.length_map]; exact cases_len f hok c l hl
theorem factss_app (l : List (List Fact)) (x : List Fact) : AV.sl 1 ((l.map fun x => [AV.facts x]) ++ [[AV.facts x]]) = AV.factss (l ++ [x]) := by rw [AV.factss, List.map_append]; rfl
def rowsTo (A B : List (List Fact)) (i : Nat) : List (List Fact) := (A.take i).flatMap fun a => B.map (mergedR a)
theorem rows_step {A B : List (List Fact)} {i : Nat} (h : i < A.length) : rowsTo A B (i + 1) = rowsTo A B i ++ B.map (mergedR (A.getD i default)) := by
 rw [rowsTo, ← take_getD h, List.flatMap_append]; simp [rowsTo]
theorem rows_len (A B : List (List Fact)) (i : Nat) : (rowsTo A B i).length = (A.take i).length * B.length := by
 unfold rowsTo
 generalize A.take i = l
 induction l with
 | nil => simp
 | cons x r ih => rw [List.flatMap_cons, List.length_append, ih, List.length_map, List.length_cons, Nat.add_mul]; omega
theorem row_step {B : List (List Fact)} {g : List Fact → List Fact} {j : Nat} (h : j < B.length) (R : List (List Fact)) : R ++ (B.take (j + 1)).map g = (R ++ (B.take j).map g) ++ [g (B.getD j default)] := by
 rw [← take_getD h, List.map_append, List.append_assoc]; rfl
theorem OCall.pcall {P : Program} {f : FuncId} {xs : List AV} {e k : Nat} {y : AV} (h : OCall P f xs e k y) : PCall P f xs y := fun H => by
 refine ⟨(h H).1, fun B I w vs hw hh hv => ((h H).2 B I w vs hw hh hv).mono fun e' w' hr => ?_⟩
 obtain ⟨I', H', a, b, d, hr⟩ := hr
 rcases hr with ⟨v, x, rfl, hx, u, rfl, rfl⟩ | ⟨v, x, _, _, hE⟩
 ·refine ⟨I', H, a, b, d.sub (List.sublist_cons_self _ _), .inl ⟨v, y, rfl, ?_, rfl, rfl⟩⟩
  match hx with
  | .as _ _ hx => exact hx
 ·exact hE.elim
theorem AVle.as' {x y : AV} {v : Value} (h : AVle x y) : AVle (.as x v) (.as y v) := fun I w u hu => by
 match hu with
 | .as _ _ hx => exact .as _ _ (h _ _ _ hx)
theorem op67 {f : Fact} {c : Bool} (h : (f.op == 6 || f.op == 7) = true) : (c != (f.op == 7)) = (c == (f.op == 6)) := by
 rw [Bool.or_eq_true, beq_iff_eq, beq_iff_eq] at h
 rcases h with e | e <;> rw [e] <;> cases c <;> rfl
theorem p92_step {W : FW} (f : Fact) (hw : wfB W f = true) (hn : nodesN f ≤ 52) (ih : ∀ k ∈ f.kids, ∀ c, OCall Tryz.prog 92 [AV.fact k, .b c] 27 1 (AV.factss (allR k c))) (c : Bool) : OCall Tryz.prog 92 [AV.fact f, .b c] 27 1 (AV.factss (allR f c)) := by
 intro H
 refine ACall.mk' (n := 79) Tryz.func92 rfl (by kernel_rfl) rfl rfl (fun B I w0 => ?_)
 have hok := wf_ok f hw
 have hp := ok_parts hok
 have hE := nodesN_eq f
 refine S2 ?_; refine Obx ?_; refine Oas ?_; refine S5 ?_; refine Ofa ?_; refine Old ?_; refine S5 ?_; refine Ocm ?_; refine Oas ?_; refine S2 ?_
 refine CW.cond rfl (fun h0 => ?_) (fun h0 => ?_)
 ·
  replace h0 := nm h0
  refine S3 ?_; refine Omv ?_; refine S2 ?_
  refine CW.cond rfl (fun h1 => ?_) (fun h1 => ?_)
  ·
   replace h1 := nm h1
   refine S2 ?_; refine Oas ?_; refine S6 ?_
   refine Done.ownNil 4 27 1 rfl ?_
   refine r1 4 (_) ?_
   exact ⟨_, by rw [all_true h0, if_pos h1]; rfl, rfl⟩
  ·
   replace h1 := nm h1
   refine S4 ?_
   refine OL.rowOwn rfl rfl rfl rfl (by first | rfl | simp_all [strip]) rfl rfl rfl rfl rfl rfl rfl (fun v17 => ?_)
   refine Oas ?_; refine S5 ?_
   refine Done.retR (rs := [.tmp 4]) (H' := _) rfl (.tmp rfl (.nil)) (.cons (AVle.as' (AVle.sl (.cons (.cons (AVle.nil 6) .nil) .nil))) .nil) (by repeat (first | exact List.Sublist.refl _ | refine List.Sublist.cons _ ?_)) ?_
   exact ⟨_, by rw [all_true h0, if_neg (by simp [h1])]; rfl, rfl⟩
 ·
  replace h0 := nm h0
  refine S2 ?_; refine Ocm ?_; refine Oas ?_; refine S2 ?_
  refine CW.cond rfl (fun h2 => ?_) (fun h2 => ?_)
  ·
   replace h2 := nm h2
   have hk := kids_one hok h2
   refine S2 ?_; refine Ofa ?_; refine Old ?_; refine Oix ?_; refine Ola ?_; refine Omv ?_; refine Ont ?_
   refine OL.bcallC rfl rfl rfl (.mk' rfl rfl rfl rfl rfl) ((ih (f.kids.getD 0 default) (getD_mem (by omega)) (!c) H).b) ?_
   rintro _ _ ⟨v, rfl, rfl⟩
   refine Oas ?_; refine S5 ?_
   refine r1 4 (_) ?_
   exact ⟨_, by rw [all_not h2 (by omega)]; rfl, rfl⟩
  ·
   replace h2 := nm h2
   refine CW.cutJ (fun st => ∃ u : Bool, st = ⟨[(27, .b u), (2, .ptr (Fcells f)), (1, .b c)], H⟩ ∧ u = (f.op == 6 || f.op == 7)) ?_ ?_
   ·
    refine S2 ?_; refine Ocm ?_; refine Oas ?_; refine S2 ?_
    refine CW.cond rfl (fun h3 => ?_) (fun h3 => ?_)
    ·
     replace h3 := nm h3
     refine S1 ?_
     exact Done.cutJ ⟨f.op == 6, rfl, by rw [h3]; rfl⟩ (by repeat (first | exact trivial | refine ⟨rfl, ?_⟩)) (by repeat (first | exact List.Sublist.refl _ | refine List.Sublist.cons _ ?_))
    ·
     replace h3 := nm h3
     refine S1 ?_; refine Ocm ?_; refine Oas ?_; refine S1 ?_
     exact Done.cutJ ⟨f.op == 7, rfl, by rw [beq_eq_false_iff_ne.2 h3]; rfl⟩ (by repeat (first | exact trivial | refine ⟨rfl, ?_⟩)) (by repeat (first | exact List.Sublist.refl _ | refine List.Sublist.cons _ ?_))
   ·
    rintro _ ⟨u, rfl, hu⟩
    refine CW.cond rfl (fun h4 => ?_) (fun h4 => ?_)
    ·
     replace h4 := nm h4
     subst hu
     have h67 := h4
     have hlf : leafP f = false := by simp only [leafP, Bool.and_eq_false_iff, decide_eq_false_iff_not]; simp only [Bool.or_eq_true, beq_iff_eq] at h67; omega
     have hk := kids_two hok h0 h2 hlf
     have n2 := nodesNs_two f.kids (by omega)
     refine S1 ?_
     refine CW.dp mixed ?_
     refine DP.anyB 27 1 (AV.factss (allR (f.kids.getD 0 default) c)) 35 5 0 11 79 rfl (by decide +kernel) (by decide +kernel) rfl rfl (by decide +kernel) ?_
     refine TD.popB (by decide +kernel) rfl rfl rfl rfl rfl (fun _ => (by first | exact POp.fa rfl rfl rfl rfl | exact POp.faP rfl rfl rfl rfl)) ?_
     refine TD.popB (by decide +kernel) rfl rfl rfl rfl rfl (fun _ => (by first | exact POp.ld1 rfl rfl rfl rfl | (apply POp.ld1H rfl rfl rfl; (case hm => repeat (first | exact .head _ | refine .tail _ ?_)); (case hy => rfl)))) ?_
     refine TD.popB (by decide +kernel) rfl rfl rfl rfl rfl (fun _ => (by first | exact POp.ixM rfl rfl rfl rfl rfl (by omega) | exact POp.ixI rfl rfl rfl rfl rfl (by omega))) ?_
     refine TD.popB (by decide +kernel) rfl rfl rfl rfl rfl (fun _ => (by first | exact POp.ldA rfl rfl rfl rfl | (apply POp.ldAH rfl rfl rfl; (case hm => repeat (first | exact .head _ | refine .tail _ ?_)); (case hy => rfl); (case hn => rfl)))) ?_
     refine TD.popB (by decide +kernel) rfl rfl rfl rfl rfl (fun _ => POp.move rfl rfl rfl) ?_
     refine TD.own1 (by decide +kernel) (by decide +kernel) rfl rfl rfl (.mk' rfl rfl rfl rfl rfl) (ih (f.kids.getD 0 default) (getD_mem (by omega)) c) ?_
     refine TD.popB (by decide +kernel) rfl rfl rfl rfl rfl (fun _ => (by first | exact POp.fa rfl rfl rfl rfl | exact POp.faP rfl rfl rfl rfl)) ?_
     refine TD.popB (by decide +kernel) rfl rfl rfl rfl rfl (fun _ => (by first | exact POp.ld1 rfl rfl rfl rfl | (apply POp.ld1H rfl rfl rfl; (case hm => repeat (first | exact .head _ | refine .tail _ ?_)); (case hy => rfl)))) ?_
     refine TD.popB (by decide +kernel) rfl rfl rfl rfl rfl (fun _ => (by first | exact POp.ixM rfl rfl rfl rfl rfl (by omega) | exact POp.ixI rfl rfl rfl rfl rfl (by omega))) ?_
     refine TD.popB (by decide +kernel) rfl rfl rfl rfl rfl (fun _ => (by first | exact POp.ldA rfl rfl rfl rfl | (apply POp.ldAH rfl rfl rfl; (case hm => repeat (first | exact .head _ | refine .tail _ ?_)); (case hy => rfl); (case hn => rfl)))) ?_
     refine TD.popB (by decide +kernel) rfl rfl rfl rfl rfl (fun _ => POp.move rfl rfl rfl) ?_
     refine TD.nil ⟨rfl, fun v35 => ?_⟩
     refine DP.tailC 11 (by decide +kernel) rfl ?_
     refine OL.bcallC rfl rfl rfl (.mk' rfl rfl rfl rfl rfl) ((ih (f.kids.getD 1 default) (getD_mem (by omega)) c _).b) ?_
     rintro _ _ ⟨v41, rfl, rfl⟩
     refine Oas ?_; refine Oas ?_; refine S4 ?_
     have hok0 := hp.2.2.2.2 (f.kids.getD 0 default) (getD_mem (by omega))
     have hok1 := hp.2.2.2.2 (f.kids.getD 1 default) (getD_mem (by omega))
     have hl0 : (allR (f.kids.getD 0 default) c).length ≤ 1073741824 := Nat.le_trans (all_len hok0 c) (Nat.le_trans (Nat.pow_le_pow_right (by omega) (show (nodesN (f.kids.getD 0 default) + 1) / 2 ≤ 30 by omega)) (by decide))
     have hl1 : (allR (f.kids.getD 1 default) c).length ≤ 1073741824 := Nat.le_trans (all_len hok1 c) (Nat.le_trans (Nat.pow_le_pow_right (by omega) (show (nodesN (f.kids.getD 1 default) + 1) / 2 ≤ 30 by omega)) (by decide))
     have hl2 : (allR (f.kids.getD 0 default) c).length * (allR (f.kids.getD 1 default) c).length ≤ 1073741824 := Nat.le_trans (Nat.mul_le_mul (all_len hok0 c) (all_len hok1 c)) (by rw [← Nat.pow_add]; exact Nat.le_trans (Nat.pow_le_pow_right (by omega) (show (nodesN (f.kids.getD 0 default) + 1) / 2 + (nodesN (f.kids.getD 1 default) + 1) / 2 ≤ 30 by omega)) (by decide))
     refine S1 ?_; refine Omv ?_; refine Ofa ?_; refine Old ?_; refine Ocm ?_; refine Onb ?_; refine S2 ?_
     refine CW.cond rfl (fun h5 => ?_) (fun h5 => ?_)
     ·
      have hc : (c == (f.op == 6)) = true := by rw [← op67 h67]; exact h5
      have hall := all_either h0 h2 hlf hc (by omega)
      refine S2 ?_; refine Omv ?_; refine Omv ?_
      refine OL.appendC rfl rfl rfl rfl rfl rfl rfl rfl (AVle.asL _ _) (one_map (fun _ => rfl) _) (fun v => by repeat (first | exact Upd.head _ _ _ | apply Upd.tail)) (by simp only [List.length_map]; omega) (by simp only [List.length_map]; omega) (fun v49 => ?_)
      refine Oas ?_; refine S6 ?_
      refine r1 4 (.own 27 1 v49 :: H) ?_
      exact ⟨_, by rw [hall, AV.factss, List.map_append]; rfl, rfl⟩
     ·
      have hc : (c == (f.op == 6)) = false := by rw [← op67 h67]; exact h5
      have hall := all_both hw h0 h2 hlf hc (by omega)
      refine S3 ?_
      refine S1 ?_; refine Oas ?_; refine S4 ?_
      refine CW.ownNil 7 27 1 rfl ?_
      refine CW.le 5 (y := AV.factss (allR (f.kids.getD 0 default) c)) rfl (AVle.asL _ _) ?_
      refine CW.le 6 (y := AV.factss (allR (f.kids.getD 1 default) c)) rfl (AVle.asL _ _) ?_
      refine S1 ?_; refine Omv ?_; refine Oln ?_; refine Omv ?_; refine S3 ?_
      refine CW.loopJ (fun m st => ∃ (i : Nat) (v : Value), st = ⟨[(52, .i i), (51, .i (allR (f.kids.getD 0 default) c).length), (50, AV.factss (allR (f.kids.getD 0 default) c)), (7, .as (AV.factss (rowsTo (allR (f.kids.getD 0 default) c) (allR (f.kids.getD 1 default) c) i)) v), (6, AV.factss (allR (f.kids.getD 1 default) c)), (5, AV.factss (allR (f.kids.getD 0 default) c)), (2, .ptr (Fcells f)), (1, .b c)], .own 27 1 v :: H⟩ ∧ m = (allR (f.kids.getD 0 default) c).length - i ∧ i ≤ (allR (f.kids.getD 0 default) c).length) ⟨_, _, ⟨0, _, rfl, rfl, by omega⟩, (by repeat (first | exact trivial | refine ⟨rfl, ?_⟩)), (List.Sublist.cons_cons _ (by repeat (first | exact List.Sublist.refl _ | refine List.Sublist.cons _ ?_)))⟩ ?_
      rintro m _ ⟨i, v, rfl, rfl, hi⟩
      refine S2 ?_; refine Ocm ?_; refine S3 ?_
      refine CW.cond rfl (fun h6 => ?_) (fun h6 => ?_)
      ·
       replace h6 := nm h6
       refine S5 ?_
       have hrl := rows_len (allR (f.kids.getD 0 default) c) (allR (f.kids.getD 1 default) c) i
       rw [List.length_take] at hrl
       have hrl2 : min i (allR (f.kids.getD 0 default) c).length * (allR (f.kids.getD 1 default) c).length ≤ (allR (f.kids.getD 0 default) c).length * (allR (f.kids.getD 1 default) c).length := Nat.mul_le_mul_right _ (by omega)
       have hxm := getD_mem (l := allR (f.kids.getD 0 default) c) (k := i) (by omega)
       have hxl := all_len1 hok0 c hxm
       have hrl3 : (rowsTo (allR (f.kids.getD 0 default) c) (allR (f.kids.getD 1 default) c) i).length ≤ 1073741824 := by rw [hrl]; exact Nat.le_trans hrl2 hl2
       clear hrl hrl2
       refine S1 ?_; refine Oix ?_; refine Old ?_; refine Oas ?_; refine S3 ?_
       refine CW.le 7 (y := .as (AV.factss (rowsTo (allR (f.kids.getD 0 default) c) (allR (f.kids.getD 1 default) c) i ++ ((allR (f.kids.getD 1 default) c).take 0).map (mergedR ((allR (f.kids.getD 0 default) c).getD i default)))) v) rfl (by rw [List.take_zero, List.map_nil, List.append_nil]; exact AVle.refl _) ?_
       refine S1 ?_; refine Omv ?_; refine Oln ?_; refine Omv ?_; refine S3 ?_
       refine lj (fun m st => ∃ (j : Nat) (v : Value), st = ⟨[(58, .i j), (57, .i (allR (f.kids.getD 1 default) c).length), (56, AV.factss (allR (f.kids.getD 1 default) c)), (9, AV.facts ((allR (f.kids.getD 0 default) c).getD i default)), (52, .i i), (51, .i (allR (f.kids.getD 0 default) c).length), (50, AV.factss (allR (f.kids.getD 0 default) c)), (7, .as (AV.factss (rowsTo (allR (f.kids.getD 0 default) c) (allR (f.kids.getD 1 default) c) i ++ ((allR (f.kids.getD 1 default) c).take j).map (mergedR ((allR (f.kids.getD 0 default) c).getD i default)))) v), (6, AV.factss (allR (f.kids.getD 1 default) c)), (5, AV.factss (allR (f.kids.getD 0 default) c)), (2, .ptr (Fcells f)), (1, .b c)], .own 27 1 v :: H⟩ ∧ m = (allR (f.kids.getD 1 default) c).length - j ∧ j ≤ (allR (f.kids.getD 1 default) c).length) (⟨0, v, rfl, rfl, by omega⟩) ?_
       rintro m _ ⟨j, v, rfl, rfl, hj⟩
       refine S2 ?_; refine Ocm ?_; refine S3 ?_
       refine CW.cond rfl (fun h7 => ?_) (fun h7 => ?_)
       ·
        replace h7 := nm h7
        refine S5 ?_
        have hym := getD_mem (l := allR (f.kids.getD 1 default) c) (k := j) (by omega)
        have hyl := all_len1 hok1 c hym
        refine S1 ?_; refine Oix ?_; refine Old ?_; refine Oas ?_; refine S3 ?_; refine Omv ?_; refine Omv ?_; refine Omv ?_
        refine OL.popC rfl rfl rfl (POp.call (.mk' rfl rfl rfl rfl rfl) (p141 ((allR (f.kids.getD 0 default) c).getD i default) ((allR (f.kids.getD 1 default) c).getD j default) (by omega) (by omega))) ?_
        refine OL.popC rfl rfl rfl (POp.row rfl rfl (by first | rfl | simp_all [strip]) rfl rfl rfl rfl rfl rfl) ?_
        refine OL.appendC rfl rfl rfl rfl rfl rfl rfl rfl (AVle.refl _) (rfl) (fun v => by repeat (first | exact Upd.head _ _ _ | apply Upd.tail)) (by simp only [partsOf, List.zip, List.zipWith, List.map, List.length_map, List.length_append, List.length_take, List.length_cons, List.length_nil]; omega) (by simp only [partsOf, List.zip, List.zipWith, List.map, List.length_map, List.length_append, List.length_take, List.length_cons, List.length_nil]; omega) (fun v67 => ?_)
        refine Oas ?_; refine S3 ?_
        refine CW.le 7 (y := .as (AV.factss (rowsTo (allR (f.kids.getD 0 default) c) (allR (f.kids.getD 1 default) c) i ++ ((allR (f.kids.getD 1 default) c).take (j + 1)).map (mergedR ((allR (f.kids.getD 0 default) c).getD i default)))) v67) rfl (by rw [row_step (by omega), ← factss_app]; exact AVle.refl _) ?_
        refine S1 ?_; refine Oar ?_; refine Omv ?_; refine S1 ?_
        exact ag (⟨j + 1, v67, rfl, rfl, by omega⟩)
       ·
        replace h7 := nm h7
        obtain rfl : j = (allR (f.kids.getD 1 default) c).length := by omega
        rw [List.take_length]
        refine S6 ?_
        rw [← rows_step (by omega)]
        refine S1 ?_; refine Oar ?_; refine Omv ?_; refine S1 ?_
        exact ag (⟨i + 1, v, rfl, rfl, by omega⟩)
      ·
       replace h6 := nm h6
       obtain rfl : i = (allR (f.kids.getD 0 default) c).length := by omega
       rw [rowsTo, List.take_length]
       refine S7 ?_; refine Omv ?_; refine Oas ?_; refine S5 ?_
       refine r1 4 (_) ?_
       exact ⟨_, by rw [hall]; rfl, rfl⟩
    ·
     replace h4 := nm h4
     subst hu
     have hlf : leafP f = true := by simp only [Bool.or_eq_false_iff, beq_eq_false_iff_ne] at h4; simp only [leafP, Bool.and_eq_true, decide_eq_true_eq]; omega
     refine S6 ?_; refine Omv ?_; refine S2 ?_
     refine CW.cond rfl (fun h8 => ?_) (fun h8 => ?_)
     ·
      replace h8 := nm h8
      refine S2 ?_; refine Ola ?_
      refine OL.popC rfl rfl rfl (POp.call (.mk' rfl rfl rfl rfl rfl) (p89 f)) ?_
      refine OL.popC rfl rfl rfl (POp.row rfl rfl (by first | rfl | simp_all [strip]) rfl rfl rfl rfl rfl rfl) ?_
      refine OL.rowOwn rfl rfl rfl rfl (by first | rfl | simp_all [strip]) rfl rfl rfl rfl rfl rfl rfl (fun v75 => ?_)
      refine Oas ?_; refine S4 ?_
      refine r1 4 (_) ?_
      exact ⟨_, by rw [all_leaf h0 h2 hlf, if_pos h8]; rfl, rfl⟩
     ·
      replace h8 := nm h8
      refine S4 ?_; refine Ola ?_
      refine OL.popC rfl rfl rfl (POp.row rfl rfl (by first | rfl | simp_all [strip]) rfl rfl rfl rfl rfl rfl) ?_
      refine OL.rowOwn rfl rfl rfl rfl (by first | rfl | simp_all [strip]) rfl rfl rfl rfl rfl rfl rfl (fun v78 => ?_)
      refine Oas ?_; refine S3 ?_
      refine Done.retR (rs := [.tmp 4]) (H' := _) rfl (.tmp rfl (.nil)) (.cons (AVle.as' (AVle.sl (.cons (.cons (AVle_facts [f] rfl) .nil) .nil))) .nil) (by repeat (first | exact List.Sublist.refl _ | refine List.Sublist.cons _ ?_)) ?_
      exact ⟨_, by rw [all_leaf h0 h2 hlf, if_neg (by simp [h8])]; rfl, rfl⟩
theorem p92 {W : FW} : ∀ (f : Fact), wfB W f = true → nodesN f ≤ 52 → ∀ c, OCall Tryz.prog 92 [AV.fact f, .b c] 27 1 (AV.factss (allR f c)) :=
 Fact.ind1 fun f ih hw hn => p92_step f hw hn fun k hk c => ih k hk ((wfB_iff.1 hw).2 k hk) (by have := kid_nodes hk; omega) c
theorem case_ls {W : FW} (hW : worldP W = true) {f : Fact} (hw : wfB W f = true) {b : Bool} {c : List FLit} (hc : c ∈ casesP f b) : LsOk W c :=
 ⟨hW, fun l hl => let ⟨x, y⟩ := wf_lits f hw b c hc l hl; lit_ok hW x y, fun l hl h2 => by
  obtain ⟨h3, h4⟩ := wf_lits f hw b c hc l hl
  simp only [nodeOkB, Bool.and_eq_true] at h3
  have h5 := h3.2
  rw [if_pos h4] at h5
  simp only [Bool.and_eq_true, leafOkP, if_pos h2, classP, decide_eq_true_eq] at h5
  exact h5.2.2.2⟩
theorem LsOk.rlit {W : FW} {ls : List FLit} (h : LsOk W ls) : ∀ x ∈ factL ls, RLit W x := fun x hx => by
 obtain ⟨l, hl, rfl⟩ := List.mem_map.1 hx
 have hs := h.sp hl
 have ho := h.ok l hl
 refine ⟨fun h5 => ?_, ?_, ?_, ?_, ?_⟩
 ·unfold litF at h5 ⊢
  split
  ·simp [notF, Fact.kids]
  ·rename_i hn
   rw [if_neg hn] at h5
   have := ho.op; omega
 ·rw [hs]; exact ho.op
 ·rw [hs]; exact fun h2 => ⟨(ho.cls h2).1, h.cls l hl h2⟩
 ·rw [hs]; exact ho.n
 ·rw [hs]; exact ho.path
theorem all_ls {W : FW} (hW : worldP W = true) {f : Fact} (hw : wfB W f = true) {b : Bool} {x : List Fact} (hx : x ∈ allR f b) : ∃ c ∈ casesP f b, x = factL c ∧ LsOk W c ∧ togetherR W x = together2 W c := by
 obtain ⟨c, hc, rfl⟩ := List.mem_map.1 hx
 exact ⟨c, hc, rfl, case_ls hW hw hc, together_stage (case_ls hW hw hc)⟩
theorem p93' {W : FW} (hW : worldP W = true) {f : Fact} (hw : wfB W f = true) (hn : nodesN f ≤ 52) {b : Bool} {x : List Fact} (hx : x ∈ allR f b) : PCall Tryz.prog 93 [AV.world W, AV.facts x] (.b (togetherR W x)) := by
 obtain ⟨c, hc, rfl, hl, _⟩ := all_ls hW hw hx
 exact p93 W _ hl.rlit (by have := all_len1 (wf_ok f hw) b hx; omega) hW
theorem can_all {W : FW} (hW : worldP W = true) {f : Fact} (hw : wfB W f = true) : (allR f false).any (togetherR W) = canC W f := by
 rw [allR, List.any_map, canC]
 exact any_congr_mem fun c hc => together_stage (case_ls hW hw hc)
theorem p62 {W : FW} (hW : worldP W = true) {f : Fact} (hw : wfB W f = true) (hn : nodesN f ≤ 52) : PCall Tryz.prog 62 [AV.world W, AV.fact f] (.b (canC W f)) := by
 intro H
 refine ACall.mk' (n := 18) Tryz.func62 rfl (by kernel_rfl) rfl rfl (fun B I w0 => ?_)
 rw [← can_all hW hw]
 have hlen : (allR f false).length ≤ 1073741824 := Nat.le_trans (all_len (wf_ok f hw) false) (Nat.le_trans (Nat.pow_le_pow_right (by omega) (show (nodesN f + 1) / 2 ≤ 30 by omega)) (by decide))
 refine S2 ?_; refine Obx ?_; refine Obx ?_; refine Oas ?_; refine S5 ?_; refine Ola ?_
 refine OL.popC rfl rfl rfl (POp.call (.mk' rfl rfl rfl rfl rfl) (OCall.pcall (p92 f hw hn false))) ?_
 refine Oln ?_; refine Omv ?_; refine S3 ?_
 refine lj (fun m st => ∃ i : Nat, st = ⟨[(10, .i i), (9, .i (allR f false).length), (8, AV.factss (allR f false)), (2, .ptr (Wcells W))], H⟩ ∧ m = (allR f false).length - i ∧ i ≤ (allR f false).length ∧ ((allR f false).take i).any (togetherR W) = false) (⟨0, rfl, rfl, by omega, rfl⟩) ?_
 rintro m _ ⟨i, rfl, rfl, hi, hall⟩
 refine S2 ?_; refine Ocm ?_; refine S3 ?_
 refine CW.cond rfl (fun h0 => ?_) (fun h0 => ?_)
 ·
  replace h0 := nm h0
  have hxm := getD_mem (l := (allR f false)) (k := i) (by omega)
  refine S6 ?_; refine Oix ?_; refine Old ?_; refine Oas ?_; refine S4 ?_; refine Ola ?_; refine Omv ?_
  refine OL.popC rfl rfl rfl (POp.call (.mk' rfl rfl rfl rfl rfl) (p93' hW hw hn hxm)) ?_
  refine S2 ?_
  refine CW.cond rfl (fun h1 => ?_) (fun h1 => ?_)
  ·
   refine S2 ?_; refine Oas ?_; refine S8 ?_
   refine r1 4 (H) ?_
   exact ⟨retB (any_yes (i := i) (by omega) h1).symm, rfl⟩
  ·
   refine S4 ?_; refine Oar ?_; refine Omv ?_; refine S1 ?_
   exact ag (⟨i + 1, rfl, rfl, by omega, by rw [any_take (by omega), hall, h1]; rfl⟩)
 ·
  replace h0 := nm h0
  obtain rfl : i = (allR f false).length := by omega
  rw [List.take_length] at hall
  refine S7 ?_; refine Oas ?_; refine S3 ?_
  refine r1 4 (H) ?_
  exact ⟨retB hall.symm, rfl⟩
theorem good_f1 {W : FW} {f : Fact} (h : goodP W [f] = true) : worldP W = true ∧ formedP W f = true ∧ wfB W f = true ∧ nodesN f ≤ 24 := by
 rw [good1, Bool.and_eq_true] at h
 exact ⟨h.1, h.2, formed_wf h.2⟩
inductive Val where
 | int (n : Int)
 | non
 | obj (S : Nat → Bool)
abbrev VM := Int → List Int → Option Val
def isC : Val → Nat → Bool
 | .int _, c => c == 0 || c == 1
 | .non, c => c == 0 || c == 2
 | .obj S, c => S c
structure VOk (W : FW) (V : VM) : Prop where
 root : ∀ a, 0 ≤ a → a < 3 → (V a []).isSome = true
 int : ∀ a p n, V a p = some (.int n) → -1000000000 ≤ n ∧ n ≤ 1000000000
 obj : ∀ a p S, V a p = some (.obj S) → S 0 = true ∧ S 1 = false ∧ S 2 = false ∧ ∀ c, c < 3 + W.parents.length → S c = true → ∀ b, upB W c b = true → S b = true
 step : ∀ (a : Int) (p : List Int) (s : Int), 0 ≤ s → s < (W.owner.length : Int) → ((V a (p ++ [s])).isSome = true ↔ ∃ S, V a p = some (.obj S) ∧ S (ownerN W s) = true)
def numV (n : Int) (f : Fact) : Bool := if f.op = 3 then decide (n < f.n) else n == f.n
def valL (f : Fact) (v : Val) : Bool := if f.op = 2 then isC v f.cls.toNat else match v with
 | .int n => numV n f
 | _ => false
def evL (V : VM) (f : Fact) : Bool := match V f.arg f.path with
 | none => false
 | some v => valL f v
theorem valL_is {f : Fact} {v : Val} (h : f.op = 2) : valL f v = isC v f.cls.toNat := by unfold valL; exact if_pos h
theorem valL_no {f : Fact} {v : Val} (h : ¬f.op = 2) : valL f v = (match v with | .int n => numV n f | _ => false) := by unfold valL; exact if_neg h
def litV (V : VM) (l : FLit) : Bool := evL V l.f != l.neg
mutual
def ev (V : VM) : Fact → Bool
 | .mk op arg path cls n kids =>
  if op = 1 then true
  else if op = 5 then !((evs V kids).getD 0 false)
  else if op = 6 then (evs V kids).getD 0 false && (evs V kids).getD 1 false
  else if op = 7 then (evs V kids).getD 0 false || (evs V kids).getD 1 false
  else evL V (.mk op arg path cls n kids)
def evs (V : VM) : List Fact → List Bool
 | [] => []
 | k :: r => ev V k :: evs V r
end
theorem evs_at (V : VM) : ∀ (l : List Fact) (i : Nat), i < l.length → (evs V l).getD i false = ev V (l.getD i default)
 | [], i, h => by simp at h
 | k :: r, 0, h => by rw [evs]; rfl
 | k :: r, i + 1, h => by rw [evs]; exact evs_at V r i (by simpa using h)
theorem ev_true {V : VM} {f : Fact} (h : f.op = 1) : ev V f = true := by cases f; rw [ev]; exact if_pos h
theorem ev_not {V : VM} {f : Fact} (h : f.op = 5) (hk : 0 < f.kids.length) : ev V f = !ev V (f.kids.getD 0 default) := by
 rw [← evs_at V f.kids 0 hk]; cases f; rw [ev]; simp only [Fact.op] at h; subst h; rfl
theorem ev_and {V : VM} {f : Fact} (h : f.op = 6) (hk : 1 < f.kids.length) : ev V f = (ev V (f.kids.getD 0 default) && ev V (f.kids.getD 1 default)) := by
 rw [← evs_at V f.kids 0 (by omega), ← evs_at V f.kids 1 hk]; cases f; rw [ev]; simp only [Fact.op] at h; subst h; rfl
theorem ev_or {V : VM} {f : Fact} (h : f.op = 7) (hk : 1 < f.kids.length) : ev V f = (ev V (f.kids.getD 0 default) || ev V (f.kids.getD 1 default)) := by
 rw [← evs_at V f.kids 0 (by omega), ← evs_at V f.kids 1 hk]; cases f; rw [ev]; simp only [Fact.op] at h; subst h; rfl
theorem ev_leaf {V : VM} {f : Fact} (h : leafP f = true) : ev V f = evL V f := by
 simp only [leafP, Bool.and_eq_true, decide_eq_true_eq] at h
 cases f; simp only [Fact.op] at h; rw [ev, if_neg (by omega), if_neg (by omega), if_neg (by omega), if_neg (by omega)]
theorem joinStep_all (q : FLit → Bool) (out : List FLit) (x : FLit) : (joinStep out x).all q = (out.all q && q x) := by
 unfold joinStep
 split
 ·rename_i h
  obtain ⟨y, hy, hh⟩ := List.any_eq_true.1 h
  rw [Bool.and_eq_true, beq_iff_eq, beq_iff_eq] at hh
  have e : x = y := by cases x; cases y; simp at hh; rw [hh.1, hh.2]
  subst e
  rw [Bool.eq_iff_iff, Bool.and_eq_true, List.all_eq_true]
  exact ⟨fun h => ⟨h, h x hy⟩, fun h => h.1⟩
 ·rw [List.all_append]; simp
theorem joined_all (q : FLit → Bool) : ∀ (b a : List FLit), (joinedP a b).all q = (a.all q && b.all q)
 | [], a => by simp [joinedP]
 | x :: r, a => by
  show (joinedP (joinStep a x) r).all q = _
  rw [joined_all q r, joinStep_all, List.all_cons, Bool.and_assoc]
theorem any_both {A B : List (List FLit)} (q : FLit → Bool) : ((A.flatMap fun a => B.map (joinedP a)).any fun ls => ls.all q) = ((A.any fun ls => ls.all q) && B.any fun ls => ls.all q) := by
 induction A with
 | nil => rfl
 | cons a r ih =>
  rw [List.flatMap_cons, List.any_append, ih, List.any_map, List.any_cons]
  have e : B.any ((fun ls => ls.all q) ∘ joinedP a) = (a.all q && B.any fun ls => ls.all q) := by
   clear ih
   induction B with
   | nil => simp
   | cons b s ihs =>
    rw [List.any_cons, ihs, List.any_cons]
    show ((joinedP a b).all q || _) = _
    rw [joined_all]; cases a.all q <;> simp
  rw [e]
  cases a.all q <;> cases (B.any fun ls => ls.all q) <;> simp
theorem cases_ev (V : VM) : ∀ f : Fact, okB f = true → ∀ c, ((casesP f c).any fun ls => ls.all (litV V)) = (ev V f != c) := by
 refine Fact.ind1 fun f ih hok c => ?_
 have hp := ok_parts hok
 by_cases h1 : f.op = 1
 ·rw [cases_true h1, ev_true h1]; cases c <;> rfl
 by_cases h5 : f.op = 5
 ·have hk := kids_one hok h5
  rw [cases_not h5 (by omega), ih _ (getD_mem (by omega)) (hp.2.2.2.2 _ (getD_mem (by omega))), ev_not h5 (by omega)]
  cases ev V (f.kids.getD 0 default) <;> cases c <;> rfl
 by_cases hlf : leafP f = true
 ·rw [cases_leaf h1 h5 hlf, ev_leaf hlf]; simp [litV]
 ·have hlf' : leafP f = false := by simpa using hlf
  have hk := kids_two hok h1 h5 hlf'
  have i0 := ih (f.kids.getD 0 default) (getD_mem (by omega)) (hp.2.2.2.2 _ (getD_mem (by omega))) c
  have i1 := ih (f.kids.getD 1 default) (getD_mem (by omega)) (hp.2.2.2.2 _ (getD_mem (by omega))) c
  have h67 : f.op = 6 ∨ f.op = 7 := by simp only [leafP, Bool.and_eq_false_iff, decide_eq_false_iff_not] at hlf'; omega
  cases hc : (c == (f.op == 6)) with
  | true =>
   rw [cases_either h1 h5 hlf' hc (by omega), List.any_append, i0, i1]
   rcases h67 with e | e
   ·rw [ev_and e (by omega)]; rw [e] at hc
    cases c
    ·cases hc
    ·cases ev V (f.kids.getD 0 default) <;> cases ev V (f.kids.getD 1 default) <;> rfl
   ·rw [ev_or e (by omega)]; rw [e] at hc
    cases c
    ·cases ev V (f.kids.getD 0 default) <;> cases ev V (f.kids.getD 1 default) <;> rfl
    ·cases hc
  | false =>
   rw [cases_both h1 h5 hlf' hc (by omega), any_both, i0, i1]
   rcases h67 with e | e
   ·rw [ev_and e (by omega)]; rw [e] at hc
    cases c
    ·cases ev V (f.kids.getD 0 default) <;> cases ev V (f.kids.getD 1 default) <;> rfl
    ·cases hc
   ·rw [ev_or e (by omega)]; rw [e] at hc
    cases c
    ·cases hc
    ·cases ev V (f.kids.getD 0 default) <;> cases ev V (f.kids.getD 1 default) <;> rfl
def numOk (n : Int) (l : FLit) : Bool := l.f.op == 2 || numV n l.f != l.neg
theorem num_fold (n : Int) : ∀ (r : List FLit) (s : RS), (∀ l ∈ r, 2 ≤ l.f.op ∧ l.f.op ≤ 4) → (((r.foldl numStep s).1 ≤ n ∧ n ≤ (r.foldl numStep s).2.1 ∧ n ∉ (r.foldl numStep s).2.2) ↔ (s.1 ≤ n ∧ n ≤ s.2.1 ∧ n ∉ s.2.2) ∧ ∀ l ∈ r, numOk n l = true)
 | [], s, _ => by simp
 | l :: r, s, ho => by
  have hl := ho l (.head _)
  rw [List.foldl_cons, num_fold n r _ (fun x hx => ho x (.tail _ hx))]
  have key : ((numStep s l).1 ≤ n ∧ n ≤ (numStep s l).2.1 ∧ n ∉ (numStep s l).2.2) ↔ (s.1 ≤ n ∧ n ≤ s.2.1 ∧ n ∉ s.2.2) ∧ numOk n l = true := by
   unfold numStep numOk numV maxI minI
   by_cases h2 : l.f.op = 2
   ·simp [h2]
   ·have hb : (l.f.op == 2) = false := by simpa using h2
    rw [if_neg h2, hb, Bool.false_or]
    by_cases h3 : l.f.op = 3
    ·rw [if_pos h3, if_pos h3]
     cases hn : l.neg
     ·simp only [Bool.false_eq_true, if_false]
      by_cases hq : n ∈ s.2.2 <;> simp [hq] <;> split <;> omega
     ·simp only [if_true]
      by_cases hq : n ∈ s.2.2 <;> simp [hq] <;> split <;> omega
    ·rw [if_neg h3, if_neg h3]
     cases hn : l.neg
     ·simp only [Bool.false_eq_true, if_false]
      by_cases hq : n ∈ s.2.2 <;> simp [hq] <;> (repeat' split) <;> omega
     ·simp only [if_true]
      by_cases hq : n ∈ s.2.2 <;> simp [hq] <;> omega
  rw [key, and_assoc]
  refine and_congr Iff.rfl ?_
  constructor
  ·rintro ⟨h1, h2⟩ x hx
   rcases List.mem_cons.1 hx with rfl | hx
   ·exact h1
   ·exact h2 x hx
  ·intro h; exact ⟨h l (.head _), fun x hx => h x (.tail _ hx)⟩
theorem freeF_spec (nots : List Int) : ∀ (f : Nat) (n : Int), aboveN nots n < f → freeF nots f n ∉ nots ∧ n ≤ freeF nots f n ∧ ∀ x, n ≤ x → x ∉ nots → freeF nots f n ≤ x
 | 0, n, h => by omega
 | f + 1, n, h => by
  rw [freeF]
  by_cases hc : nots.contains n = true
  ·rw [if_pos hc]
   have := above_step hc
   obtain ⟨i1, i2, i3⟩ := freeF_spec nots f (n + 1) (by omega)
   refine ⟨i1, by omega, fun x hx hm => i3 x ?_ hm⟩
   by_cases e : x = n
   ·subst e; exact absurd (List.contains_iff_mem.1 hc) hm
   ·omega
  ·rw [if_neg hc]
   exact ⟨fun hm => hc (List.contains_iff_mem.2 hm), Int.le_refl _, fun x hx _ => hx⟩
theorem freeK_spec (nots : List Int) (n : Int) : freeK nots n ∉ nots ∧ n ≤ freeK nots n ∧ ∀ x, n ≤ x → x ∉ nots → freeK nots n ≤ x := freeF_spec nots _ n (by omega)
section
variable {W : FW} {ls : List FLit} (h : LsOk W ls)
include h
theorem slot_in {a : Int} {p : List Int} {s : Int} (hs : s ∈ (stage2 ls a p).slots) : 0 ≤ s ∧ s < W.owner.length := by
 rw [← slots_stage h] at hs; exact slot_rng hs
theorem slot_len {a : Int} {p : List Int} {s : Int} (hs : s ∈ (stage2 ls a p).slots) : p.length < 2 := by
 rw [h.slots] at hs
 obtain ⟨l, hl, hw⟩ := List.any_eq_true.1 hs
 rw [wayL, Bool.and_eq_true] at hw
 have h1 := beg_len hw.2
 have := (h.ok l hl).path
 rw [List.length_append] at h1; simp at h1; omega
omit h in
theorem some_prefix {V : VM} (hV : VOk W V) {a : Int} : ∀ (r p : List Int), (∀ s ∈ r, 0 ≤ s ∧ s < W.owner.length) → (V a (p ++ r)).isSome = true → (V a p).isSome = true
 | [], p, _, hs => by simpa using hs
 | s :: r, p, hr, hs => by
  have h1 := some_prefix hV r (p ++ [s]) (fun x hx => hr x (.tail _ hx)) (by simpa using hs)
  obtain ⟨S, hS, _⟩ := (hV.step a p s (hr s (.head _)).1 (hr s (.head _)).2).1 h1
  rw [hS]; rfl
theorem need_some {V : VM} (hV : VOk W V) (hl : ∀ l ∈ ls, litV V l = true) {a : Int} {p : List Int} (hn : (stage2 ls a p).needed = true) : (V a p).isSome = true := by
 rw [h.need] at hn
 obtain ⟨l, hm, hh⟩ := List.any_eq_true.1 hn
 simp only [needL, wayL, Bool.and_eq_true, Bool.not_eq_true', beq_iff_eq] at hh
 obtain ⟨hneg, rfl, hb⟩ := hh
 obtain ⟨r, hr⟩ := beg_iff.1 hb
 have h1 := hl l hm
 rw [litV, hneg, bne_iff_ne, ne_eq, Bool.not_eq_false, evL] at h1
 refine some_prefix hV r p (fun s hs => (h.ok l hm).slot s (by rw [← hr]; exact List.mem_append_right _ hs)) ?_
 rw [hr]
 cases hv : V l.f.arg l.f.path with
 | none => rw [hv] at h1; cases h1
 | some v => rfl
section
variable {V : VM} (hV : VOk W V) (hl : ∀ l ∈ ls, litV V l = true) {a : Int} {p : List Int} {v : Val} (hv : V a p = some v)
include hV hl hv
theorem lit_val {l : FLit} (hm : l ∈ ls) (hh : hitL a p l = true) : (valL l.f v != l.neg) = true := by
 have _ := h
 have _ := hV
 have h1 := hl l hm
 rw [hitL, Bool.and_eq_true, beq_iff_eq, beq_iff_eq] at hh
 rw [litV, evL, hh.1, hh.2, hv] at h1
 exact h1
theorem must_is {c : Nat} (hc : (stage2 ls a p).must.testBit c = true) : isC v c = true := by
 rw [h.must] at hc
 obtain ⟨l, hm, hh⟩ := List.any_eq_true.1 hc
 simp only [isL, Bool.and_eq_true, beq_iff_eq] at hh
 have := lit_val h hV hl hv hm hh.1.1.1
 rw [valL_is hh.1.1.2, hh.1.2, hh.2] at this
 simpa using this
theorem no_is {c : Nat} (hc : (stage2 ls a p).no.testBit c = true) : isC v c = false := by
 rw [h.no] at hc
 obtain ⟨l, hm, hh⟩ := List.any_eq_true.1 hc
 simp only [isL, Bool.and_eq_true, beq_iff_eq] at hh
 have := lit_val h hV hl hv hm hh.1.1.1
 rw [valL_is hh.1.1.2, hh.1.2, hh.2] at this
 simpa using this
theorem whole_is (hw : (stage2 ls a p).whole = true) : ∃ n, v = .int n := by
 rw [h.whole] at hw
 obtain ⟨l, hm, hh⟩ := List.any_eq_true.1 hw
 simp only [wholeL, Bool.and_eq_true, bne_iff_ne, Bool.not_eq_true'] at hh
 have := lit_val h hV hl hv hm hh.1.1
 rw [valL_no hh.1.2, hh.2] at this
 cases v with
 | int n => exact ⟨n, rfl⟩
 | non => cases this
 | obj S => cases this
theorem next_is {s : Int} (hs : s ∈ (stage2 ls a p).slots) (hn : (stage2 ls a (p ++ [s])).needed = true) : ∃ S, v = .obj S ∧ S (ownerN W s) = true := by
 have hr := slot_in h hs
 obtain ⟨S, e, hS⟩ := (hV.step a p s hr.1 hr.2).1 (need_some h hV hl hn)
 rw [hv] at e
 exact ⟨S, Option.some.inj e, hS⟩
theorem ends_is (hne : ∀ S, v ≠ .obj S) : ends2 (stage2 ls) a p = true := by
 rw [ends2, List.all_eq_true]
 intro s hs
 cases hn : (stage2 ls a (p ++ [s])).needed with
 | false => rfl
 | true =>
  obtain ⟨S, e, _⟩ := next_is h hV hl hv hs hn
  exact absurd e (hne S)
theorem intV_is {n : Int} (e : v = .int n) : integer2 (stage2 ls) a p = true := by
 subst e
 rw [integer2, Bool.and_eq_true, decide_eq_true_eq, plain_iff h]
 have hb := hV.int a p n hv
 have ht := h.tri a p
 have hf := (num_fold n (ls.filter (hitL a p)) rs0 (fun l hm => (h.ok l (List.mem_filter.1 hm).1).op)).2 ⟨⟨hb.1, hb.2, by simp [rs0]⟩, fun l hm => by
  have hm := List.mem_filter.1 hm
  have := lit_val h hV hl hv hm.1 hm.2
  rw [numOk]
  by_cases h2 : l.f.op = 2
  ·simp [h2]
  ·rw [valL_no h2] at this
   simp only [] at this
   rw [this, Bool.or_true]⟩
 rw [← ht] at hf
 have hk := (freeK_spec (stage2 ls a p).nots (stage2 ls a p).low).2.2 n hf.1 hf.2.2
 have hhi : n ≤ (stage2 ls a p).high := hf.2.1
 refine ⟨by omega, fun c hc => ?_, fun c hc => ?_, ends_is h hV hl hv (fun S e => by cases e)⟩
 ·have := must_is h hV hl hv hc
  simpa [isC] using this
 ·rw [Bool.eq_false_iff]; intro hn
  have := no_is h hV hl hv hn
  simp only [isC, Bool.or_eq_false_iff, beq_eq_false_iff_ne] at this
  rcases hc with e | e
  ·exact this.1 e
  ·exact this.2 e
theorem nonV_is (e : v = .non) : none2 (stage2 ls) a p = true := by
 subst e
 rw [none2, Bool.and_eq_true, Bool.not_eq_true', plain_iff h]
 refine ⟨?_, fun c hc => ?_, fun c hc => ?_, ends_is h hV hl hv (fun S e => by cases e)⟩
 ·rw [Bool.eq_false_iff]; intro hw
  obtain ⟨n, e⟩ := whole_is h hV hl hv hw
  cases e
 ·have := must_is h hV hl hv hc
  simpa [isC] using this
 ·rw [Bool.eq_false_iff]; intro hn
  have := no_is h hV hl hv hn
  simp only [isC, Bool.or_eq_false_iff, beq_eq_false_iff_ne] at this
  rcases hc with e | e
  ·exact this.1 e
  ·exact this.2 e
theorem slots_is {S : Nat → Bool} (e : v = .obj S) {can : List Int → Bool} (hc : ∀ s ∈ (stage2 ls a p).slots, (V a (p ++ [s])).isSome = true → can (p ++ [s]) = true) :
  ∀ (r : List Int) (must no : Nat), (∀ s ∈ r, s ∈ (stage2 ls a p).slots) → (∀ c, must.testBit c = true → S c = true) → (∀ c, no.testBit c = true → S c = false) →
  ∃ must' no', slots2 W (stage2 ls) can a p r must no = some (must', no') ∧ (∀ c, must'.testBit c = true → S c = true) ∧ (∀ c, no'.testBit c = true → S c = false)
 | [], must, no, _, hm, hn => ⟨must, no, rfl, hm, hn⟩
 | s :: r, must, no, hr, hm, hn => by
  have hs := hr s (.head _)
  have hr' : ∀ x ∈ r, x ∈ (stage2 ls a p).slots := fun x hx => hr x (.tail _ hx)
  have hrg := slot_in h hs
  have hst := hV.step a p s hrg.1 hrg.2
  rw [hv, e] at hst
  rw [slots2]
  cases hnd : (stage2 ls a (p ++ [s])).needed with
  | true =>
   have hsm := need_some h hV hl hnd
   obtain ⟨S', e', hS⟩ := next_is h hV hl hv hs hnd
   rw [e] at e'; cases e'
   rw [hc s hs hsm]
   have := slots_is e hc r (must ||| 2 ^ (W.owner.getD s.toNat default).toNat) no hr' (fun c hcc => by
    rw [or_bit, Bool.or_eq_true, beq_iff_eq] at hcc
    rcases hcc with hcc | rfl
    ·exact hm c hcc
    ·exact hS) hn
   simpa using this
  | false =>
   cases hcn : can (p ++ [s]) with
   | true => simpa using slots_is e hc r must no hr' hm hn
   | false =>
    have hSo : S (ownerN W s) = false := by
     rw [Bool.eq_false_iff]; intro hS
     have := hc s hs (hst.2 ⟨S, rfl, hS⟩)
     rw [hcn] at this; cases this
    have := slots_is e hc r must (no ||| 2 ^ (W.owner.getD s.toNat default).toNat) hr' hm (fun c hcc => by
     rw [or_bit, Bool.or_eq_true, beq_iff_eq] at hcc
     rcases hcc with hcc | rfl
     ·exact hn c hcc
     ·exact hSo)
    simpa using this
theorem objV_is {S : Nat → Bool} (e : v = .obj S) {can : List Int → Bool} (hc : ∀ s ∈ (stage2 ls a p).slots, (V a (p ++ [s])).isSome = true → can (p ++ [s]) = true) : (object2 W (stage2 ls) can a p).2 = true := by
 have hS := hV.obj a p S (by rw [hv, e])
 rw [object2]
 have hw : (stage2 ls a p).whole = false := by
  rw [Bool.eq_false_iff]; intro hw
  obtain ⟨n, e'⟩ := whole_is h hV hl hv hw
  rw [e] at e'; cases e'
 have hmb : ∀ c, (stage2 ls a p).must.testBit c = true → S c = true := fun c hcc => by
  have := must_is h hV hl hv hcc; rw [e] at this; exact this
 have hnb : ∀ c, (stage2 ls a p).no.testBit c = true → S c = false := fun c hcc => by
  have := no_is h hV hl hv hcc; rw [e] at this; exact this
 have h1 : (stage2 ls a p).must.testBit 1 = false := by
  rw [Bool.eq_false_iff]; intro hh; have := hmb 1 hh; rw [hS.2.1] at this; cases this
 have h2 : (stage2 ls a p).must.testBit 2 = false := by
  rw [Bool.eq_false_iff]; intro hh; have := hmb 2 hh; rw [hS.2.2.1] at this; cases this
 have h0 : (stage2 ls a p).no.testBit 0 = false := by
  rw [Bool.eq_false_iff]; intro hh; have := hnb 0 hh; rw [hS.1] at this; cases this
 rw [hw, h1, h2, h0, if_neg (by simp)]
 obtain ⟨must, no, e1, hm, hn⟩ := slots_is h hV hl hv e hc (stage2 ls a p).slots _ _ (fun _ hs => hs) hmb hnb
 rw [e1]
 simp only []
 rw [zero_bits]
 intro c
 rw [Nat.testBit_and, andNot_bit, Bool.eq_false_iff]
 intro hh
 simp only [Bool.and_eq_true] at hh
 have hcS : S c = true := by
  rcases (closeK_get h.w W.parents.length 3 must rfl c).1 hh.1.1.2 with h5 | ⟨i, h5, h6, h7, h8⟩
  ·exact hm c h5
  ·exact hS.2.2.2 i (by omega) (hm i h7) c h8
 rw [hn c hh.2] at hcS; cases hcS
end
theorem sem_can {V : VM} (hV : VOk W V) (hl : ∀ l ∈ ls, litV V l = true) {a : Int} : ∀ (d : Nat) (p : List Int), p.length + d = 2 → (V a p).isSome = true → can2 W (stage2 ls) d a p = true
 | 0, p, hp, hs => by
  obtain ⟨v, hv⟩ := Option.isSome_iff_exists.1 hs
  rw [can2]
  cases v with
  | int n => rw [intV_is h hV hl hv rfl]; rfl
  | non => rw [nonV_is h hV hl hv rfl]; simp
  | obj S => rw [objV_is h hV hl hv rfl (fun s hs => absurd (slot_len h hs) (by omega))]; simp
 | d + 1, p, hp, hs => by
  obtain ⟨v, hv⟩ := Option.isSome_iff_exists.1 hs
  rw [can2]
  cases v with
  | int n => rw [intV_is h hV hl hv rfl]; rfl
  | non => rw [nonV_is h hV hl hv rfl]; simp
  | obj S => rw [objV_is h hV hl hv rfl (fun s _ hss => sem_can hV hl d (p ++ [s]) (by simp; omega) hss)]; simp
theorem sem_together {V : VM} (hV : VOk W V) (hl : ∀ l ∈ ls, litV V l = true) : together2 W ls = true := by
 rw [together2, sem_can h hV hl 2 [] rfl (hV.root 0 (by omega) (by omega)), sem_can h hV hl 2 [] rfl (hV.root 1 (by omega) (by omega)), sem_can h hV hl 2 [] rfl (hV.root 2 (by omega) (by omega))]
 rfl
end
theorem slots2_congr {W : FW} {kn : K2} {a : Int} {p : List Int} {c1 c2 : List Int → Bool} : ∀ (l : List Int) (must no : Nat), (∀ s ∈ l, c1 (p ++ [s]) = c2 (p ++ [s])) → slots2 W kn c1 a p l must no = slots2 W kn c2 a p l must no
 | [], _, _, _ => rfl
 | s :: r, must, no, h => by
  have h1 := h s (.head _)
  have hr : ∀ x ∈ r, c1 (p ++ [x]) = c2 (p ++ [x]) := fun x hx => h x (.tail _ hx)
  rw [slots2, slots2, h1, slots2_congr r _ _ hr, slots2_congr r _ _ hr, slots2_congr r _ _ hr]
theorem object2_congr {W : FW} {kn : K2} {a : Int} {p : List Int} {c1 c2 : List Int → Bool} (h : ∀ s ∈ (kn a p).slots, c1 (p ++ [s]) = c2 (p ++ [s])) : object2 W kn c1 a p = object2 W kn c2 a p := by
 rw [object2, object2, slots2_congr _ _ _ h]
def canAt (W : FW) (kn : K2) (a : Int) (p : List Int) : Bool := can2 W kn (2 - p.length) a p
def objAt (W : FW) (kn : K2) (a : Int) (p : List Int) : Nat × Bool := object2 W kn (canAt W kn a) a p
def vAt (W : FW) (kn : K2) (a : Int) (p : List Int) : Val :=
 if integer2 kn a p = true then .int (freeK (kn a p).nots (kn a p).low)
 else if none2 kn a p = true then .non
 else .obj fun c => c == 0 || (objAt W kn a p).1.testBit c
def stepV (W : FW) (kn : K2) (a : Int) (p : List Int) (v : Val) (s : Int) : Option Val := match v with
 | .obj S => if (decide (0 ≤ s) && decide (s < W.owner.length) && S (ownerN W s)) = true then (if (kn a p).slots.contains s = true then some (vAt W kn a (p ++ [s])) else some .non) else none
 | _ => none
def mkP (W : FW) (kn : K2) (a : Int) (p : List Int) : Option Val := (p.foldl (fun (st : List Int × Option Val) s => (st.1 ++ [s], st.2.bind fun v => stepV W kn a st.1 v s)) ([], some (vAt W kn a []))).2
def mkV (W : FW) (kn : K2) : VM := fun a p => if 0 ≤ a ∧ a < 3 then mkP W kn a p else none
theorem mk_fst (W : FW) (kn : K2) (a : Int) : ∀ (p : List Int) (st : List Int × Option Val), (p.foldl (fun (st : List Int × Option Val) s => (st.1 ++ [s], st.2.bind fun v => stepV W kn a st.1 v s)) st).1 = st.1 ++ p
 | [], st => by simp
 | s :: r, st => by rw [List.foldl_cons, mk_fst W kn a r]; simp
theorem mk_snoc (W : FW) (kn : K2) (a : Int) (p : List Int) (s : Int) : mkP W kn a (p ++ [s]) = (mkP W kn a p).bind fun v => stepV W kn a p v s := by
 rw [mkP, List.foldl_append, List.foldl_cons, List.foldl_nil, mk_fst]; rfl
theorem slots2_facts {W : FW} {kn : K2} {can : List Int → Bool} {a : Int} {p : List Int} : ∀ (l : List Int) (must no m' n' : Nat), slots2 W kn can a p l must no = some (m', n') →
  (∀ c, must.testBit c = true → m'.testBit c = true) ∧ (∀ c, no.testBit c = true → n'.testBit c = true) ∧ (∀ c, m'.testBit c = true → must.testBit c = true ∨ ∃ s ∈ l, c = ownerN W s) ∧
  ∀ s ∈ l, ((kn a (p ++ [s])).needed = true → m'.testBit (ownerN W s) = true ∧ can (p ++ [s]) = true) ∧ (can (p ++ [s]) = false → n'.testBit (ownerN W s) = true)
 | [], must, no, m', n', h => by
  rw [slots2] at h; cases h
  exact ⟨fun _ h => h, fun _ h => h, fun _ h => .inl h, fun s hs => by cases hs⟩
 | s :: r, must, no, m', n', h => by
  rw [slots2] at h
  cases hnd : (kn a (p ++ [s])).needed with
  | true =>
   rw [hnd] at h
   cases hcn : can (p ++ [s]) with
   | false => rw [hcn] at h; cases h
   | true =>
    rw [hcn] at h
    simp only [Bool.not_true, Bool.and_false, Bool.false_eq_true, if_false, if_true] at h
    obtain ⟨i1, i2, i3, i4⟩ := slots2_facts r _ _ _ _ h
    refine ⟨fun c hc => i1 c (by rw [or_bit, hc]; rfl), i2, fun c hc => ?_, fun x hx => ?_⟩
    ·rcases i3 c hc with h' | ⟨x, hx, e⟩
     ·rw [or_bit, Bool.or_eq_true, beq_iff_eq] at h'
      rcases h' with h' | h'
      ·exact .inl h'
      ·exact .inr ⟨s, .head _, h'⟩
     ·exact .inr ⟨x, .tail _ hx, e⟩
    ·rcases List.mem_cons.1 hx with rfl | hx
     ·exact ⟨fun _ => ⟨i1 _ (by rw [or_bit]; simp [ownerN]), hcn⟩, fun hf => by rw [hcn] at hf; cases hf⟩
     ·exact i4 x hx
  | false =>
   rw [hnd] at h
   cases hcn : can (p ++ [s]) with
   | false =>
    rw [hcn] at h
    simp only [Bool.not_false, Bool.and_true, Bool.false_and, Bool.false_eq_true, if_false, if_true] at h
    obtain ⟨i1, i2, i3, i4⟩ := slots2_facts r _ _ _ _ h
    refine ⟨i1, fun c hc => i2 c (by rw [or_bit, hc]; rfl), fun c hc => ?_, fun x hx => ?_⟩
    ·rcases i3 c hc with h' | ⟨x, hx, e⟩
     ·exact .inl h'
     ·exact .inr ⟨x, .tail _ hx, e⟩
    ·rcases List.mem_cons.1 hx with rfl | hx
     ·exact ⟨fun hf => (by rw [hnd] at hf; cases hf), fun _ => i2 _ (by rw [or_bit]; simp [ownerN])⟩
     ·exact i4 x hx
   | true =>
    rw [hcn] at h
    simp only [Bool.not_true, Bool.false_and, Bool.false_eq_true, if_false] at h
    obtain ⟨i1, i2, i3, i4⟩ := slots2_facts r _ _ _ _ h
    refine ⟨i1, i2, fun c hc => ?_, fun x hx => ?_⟩
    ·rcases i3 c hc with h' | ⟨x, hx, e⟩
     ·exact .inl h'
     ·exact .inr ⟨x, .tail _ hx, e⟩
    ·rcases List.mem_cons.1 hx with rfl | hx
     ·exact ⟨fun hf => (by rw [hnd] at hf; cases hf), fun hf => by rw [hcn] at hf; cases hf⟩
     ·exact i4 x hx
structure ObjF (W : FW) (kn : K2) (a : Int) (p : List Int) (R : Nat) : Prop where
 whole : (kn a p).whole = false
 m1 : (kn a p).must.testBit 1 = false
 m2 : (kn a p).must.testBit 2 = false
 n0 : (kn a p).no.testBit 0 = false
 must : ∀ c, (kn a p).must.testBit c = true → c ≠ 0 → R.testBit c = true
 no : ∀ c, (kn a p).no.testBit c = true → R.testBit c = false
 low : ∀ c, c < 3 → R.testBit c = false
 lt : ∀ c, R.testBit c = true → c < 3 + W.parents.length
 up : ∀ c b, R.testBit c = true → upB W c b = true → b ≠ 0 → R.testBit b = true
 slots : ∀ s ∈ (kn a p).slots, ((kn a (p ++ [s])).needed = true → R.testBit (ownerN W s) = true) ∧ (R.testBit (ownerN W s) = true → canAt W kn a (p ++ [s]) = true)
section
variable {W : FW} {ls : List FLit} (h : LsOk W ls)
include h
theorem can_at {a : Int} {p : List Int} (hp : p.length ≤ 2) : canAt W (stage2 ls) a p = (integer2 (stage2 ls) a p || none2 (stage2 ls) a p || (objAt W (stage2 ls) a p).2) := by
 rw [canAt, objAt]
 by_cases h2 : p.length = 2
 ·rw [h2, show 2 - 2 = 0 from rfl, can2, object2_congr (c2 := canAt W (stage2 ls) a) (fun s hs => absurd (slot_len h hs) (by omega))]
 ·obtain ⟨d, hd⟩ : ∃ d, 2 - p.length = d + 1 := ⟨1 - p.length, by omega⟩
  rw [hd, can2, object2_congr (c2 := canAt W (stage2 ls) a) (fun s hs => by rw [canAt]; congr 1; simp; omega)]
theorem obj_f {a : Int} {p : List Int} (ho : (objAt W (stage2 ls) a p).2 = true) : ObjF W (stage2 ls) a p (objAt W (stage2 ls) a p).1 := by
 have hW := world_len h.w
 rw [objAt] at ho ⊢
 generalize hob : object2 W (stage2 ls) (canAt W (stage2 ls) a) a p = ob at ho ⊢
 rw [object2] at hob
 by_cases hb : ((stage2 ls a p).whole || (stage2 ls a p).must.testBit 1 || (stage2 ls a p).must.testBit 2 || (stage2 ls a p).no.testBit 0) = true
 ·rw [if_pos hb] at hob; rw [← hob] at ho; cases ho
 ·rw [if_neg hb] at hob
  have hb := Bool.eq_false_iff.2 hb
  simp only [Bool.or_eq_false_iff] at hb
  cases hs : slots2 W (stage2 ls) (canAt W (stage2 ls) a) a p (stage2 ls a p).slots (stage2 ls a p).must (stage2 ls a p).no with
  | none => rw [hs] at hob; rw [← hob] at ho; cases ho
  | some mn =>
   obtain ⟨m', n'⟩ := mn
   rw [hs] at hob
   simp only [] at hob
   obtain ⟨f1, f2, f3, f4⟩ := slots2_facts _ _ _ _ _ hs
   rw [← hob] at ho ⊢
   simp only [] at ho ⊢
   have hz := zero_bits.1 ho
   have hown : ∀ s ∈ (stage2 ls a p).slots, 3 ≤ ownerN W s ∧ ownerN W s < 3 + W.parents.length := fun s hs => by
    have := owner_rng h.w (slot_in h hs)
    rw [ownerN]; omega
   have hm12 : ∀ c, c = 1 ∨ c = 2 → m'.testBit c = false := fun c hc => by
    rw [Bool.eq_false_iff]; intro hm
    rcases f3 c hm with h' | ⟨s, hs', e⟩
    ·rcases hc with rfl | rfl
     ·rw [hb.1.1.2] at h'; cases h'
     ·rw [hb.1.2] at h'; cases h'
    ·have := hown s hs'; omega
   have hmlt : ∀ c, m'.testBit c = true → c < 3 + W.parents.length := fun c hm => by
    rcases f3 c hm with h' | ⟨s, hs', e⟩
    ·exact h.must_lt h'
    ·rw [e]; exact (hown s hs').2
   have hX := closeK_get h.w W.parents.length 3 m' rfl
   have hlt : ∀ c, (closeK W W.parents.length 3 m').testBit c = true → c < 3 + W.parents.length := fun c hc => by
    rcases (hX c).1 hc with h1 | ⟨i, h1, h2, _, h4⟩
    ·exact hmlt c h1
    ·have := upB_le h.w i i (Nat.le_refl _) (by omega) c h4; omega
   have hR : ∀ c, (andNotP (closeK W W.parents.length 3 m') 1).testBit c = ((closeK W W.parents.length 3 m').testBit c && !(c == 0)) := fun c => by
    rw [andNot_bit, show (1 : Nat).testBit c = (c == 0) from by
     rcases c with _ | c
     ·rfl
     ·rw [Nat.testBit_succ]; simp]
    cases hc : (closeK W W.parents.length 3 m').testBit c with
    | false => simp
    | true => have := hlt c hc; rw [decide_eq_true (by omega)]; rfl
   have hRm : ∀ c, m'.testBit c = true → c ≠ 0 → (andNotP (closeK W W.parents.length 3 m') 1).testBit c = true := fun c hm hc => by
    rw [hR, (hX c).2 (.inl hm), show (c == 0) = false from by simpa using hc]; rfl
   have hRn : ∀ c, n'.testBit c = true → (andNotP (closeK W W.parents.length 3 m') 1).testBit c = false := fun c hn => by
    have := hz c
    rw [Nat.testBit_and, hn, Bool.and_true] at this; exact this
   refine ⟨hb.1.1.1, hb.1.1.2, hb.1.2, hb.2, fun c hc h0 => hRm c (f1 c hc) h0, fun c hc => hRn c (f2 c hc), fun c hc => ?_, fun c hc => ?_, fun c b hc hub hb0 => ?_, fun s hs' => ?_⟩
   ·rw [hR, Bool.eq_false_iff]; intro hh
    rw [Bool.and_eq_true, Bool.not_eq_true', beq_eq_false_iff_ne] at hh
    rcases (hX c).1 hh.1 with h1 | ⟨i, h1, h2, _, h4⟩
    ·rw [hm12 c (by omega)] at h1; cases h1
    ·have := upB_le h.w i i (Nat.le_refl _) (by omega) c h4; omega
   ·rw [hR, Bool.and_eq_true] at hc; exact hlt c hc.1
   ·rw [hR, Bool.and_eq_true] at hc ⊢
    refine ⟨?_, by simpa using hb0⟩
    rw [hX b]
    rcases (hX c).1 hc.1 with h1 | ⟨i, h1, h2, h3, h4⟩
    ·have hc0 : c ≠ 0 := by simpa using hc.2
     have hcl := hmlt c h1
     have hc12 : c ≠ 1 ∧ c ≠ 2 := ⟨fun e => (by rw [hm12 c (.inl e)] at h1; cases h1), fun e => by rw [hm12 c (.inr e)] at h1; cases h1⟩
     exact .inr ⟨c, by omega, by omega, h1, hub⟩
    ·exact .inr ⟨i, h1, h2, h3, upB_trans h.w i i (Nat.le_refl _) (by omega) c b h4 hub⟩
   ·refine ⟨fun hn => hRm _ ((f4 s hs').1 hn).1 (by have := hown s hs'; omega), fun hr => ?_⟩
    cases hcn : canAt W (stage2 ls) a (p ++ [s]) with
    | true => rfl
    | false => rw [hRn _ ((f4 s hs').2 hcn)] at hr; cases hr
theorem vat_cases {a : Int} {p : List Int} (hp : p.length ≤ 2) (hc : canAt W (stage2 ls) a p = true) :
  (integer2 (stage2 ls) a p = true ∧ vAt W (stage2 ls) a p = .int (freeK (stage2 ls a p).nots (stage2 ls a p).low)) ∨ (none2 (stage2 ls) a p = true ∧ vAt W (stage2 ls) a p = .non) ∨
  ((objAt W (stage2 ls) a p).2 = true ∧ vAt W (stage2 ls) a p = .obj fun c => c == 0 || (objAt W (stage2 ls) a p).1.testBit c) := by
 rw [can_at h hp] at hc
 unfold vAt
 by_cases hi : integer2 (stage2 ls) a p = true
 ·rw [if_pos hi]; exact .inl ⟨hi, rfl⟩
 ·rw [if_neg hi]
  by_cases hn : none2 (stage2 ls) a p = true
  ·rw [if_pos hn]; exact .inr (.inl ⟨hn, rfl⟩)
  ·rw [if_neg hn]
   rw [Bool.eq_false_iff.2 hi, Bool.eq_false_iff.2 hn] at hc
   exact .inr (.inr ⟨by simpa using hc, rfl⟩)
theorem own_ne {s : Int} (hs : 0 ≤ s ∧ s < W.owner.length) : ownerN W s ≠ 0 := by
 have := owner_rng h.w hs; rw [ownerN]; omega
theorem mk_inv (ht : together2 W ls = true) {a : Int} (ha : 0 ≤ a ∧ a < 3) : ∀ (n : Nat) (p : List Int), p.length = n → ∀ v, mkP W (stage2 ls) a p = some v → v = .non ∨ (v = vAt W (stage2 ls) a p ∧ p.length ≤ 2 ∧ canAt W (stage2 ls) a p = true)
 | 0, p, hp, v, hv => by
  rw [List.eq_nil_of_length_eq_zero hp] at hv ⊢
  have e : v = vAt W (stage2 ls) a [] := (Option.some.inj hv).symm
  refine .inr ⟨e, by simp, ?_⟩
  rw [together2, Bool.and_eq_true, Bool.and_eq_true] at ht
  have : a = 0 ∨ a = 1 ∨ a = 2 := by omega
  rcases this with rfl | rfl | rfl
  ·exact ht.1.1
  ·exact ht.1.2
  ·exact ht.2
 | n + 1, p, hp, v, hv => by
  rcases List.eq_nil_or_concat p with rfl | ⟨q, s, rfl⟩
  ·simp at hp
  ·rw [List.concat_eq_append] at hp hv ⊢
   rw [mk_snoc] at hv
   obtain ⟨u, hu, hst⟩ := Option.bind_eq_some_iff.1 hv
   rcases mk_inv ht ha n q (by simpa using hp) u hu with rfl | ⟨rfl, hq, hc⟩
   ·cases hst
   ·rcases vat_cases h hq hc with ⟨_, e⟩ | ⟨_, e⟩ | ⟨ho, e⟩
    ·rw [e] at hst; cases hst
    ·rw [e] at hst; cases hst
    ·rw [e] at hst
     simp only [stepV] at hst
     split at hst
     ·rename_i hcond
      simp only [Bool.and_eq_true, decide_eq_true_eq, Bool.or_eq_true, beq_iff_eq] at hcond
      split at hst
      ·rename_i hcs
       have hcs := List.contains_iff_mem.1 hcs
       have hl := slot_len h hcs
       refine .inr ⟨(Option.some.inj hst).symm, by simp; omega, ((obj_f h ho).slots s hcs).2 ?_⟩
       rcases hcond.2 with e0 | e0
       ·exact absurd e0 (own_ne h hcond.1)
       ·exact e0
      ·exact .inl (Option.some.inj hst).symm
     ·cases hst
theorem mk_ok (ht : together2 W ls = true) : VOk W (mkV W (stage2 ls)) := by
 refine ⟨fun a h0 h3 => ?_, fun a p n hv => ?_, fun a p S hv => ?_, fun a p s h0 h1 => ?_⟩
 ·rw [mkV, if_pos ⟨h0, h3⟩]; rfl
 ·rw [mkV] at hv
  split at hv
  ·rename_i ha
   rcases mk_inv h ht ha p.length p rfl _ hv with e | ⟨e, hp, hc⟩
   ·cases e
   ·rcases vat_cases h hp hc with ⟨hi, e'⟩ | ⟨_, e'⟩ | ⟨_, e'⟩
    ·rw [e'] at e; cases e
     rw [integer2, Bool.and_eq_true, decide_eq_true_eq] at hi
     have hk := freeK_spec (stage2 ls a p).nots (stage2 ls a p).low
     have ht' := h.tri a p
     have hf := (num_fold (freeK (stage2 ls a p).nots (stage2 ls a p).low) (ls.filter (hitL a p)) rs0 (fun l hm => (h.ok l (List.mem_filter.1 hm).1).op)).1 (by rw [← ht']; exact ⟨hk.2.1, hi.1, hk.1⟩)
     exact ⟨hf.1.1, hf.1.2.1⟩
    ·rw [e'] at e; cases e
    ·rw [e'] at e; cases e
  ·cases hv
 ·rw [mkV] at hv
  split at hv
  ·rename_i ha
   rcases mk_inv h ht ha p.length p rfl _ hv with e | ⟨e, hp, hc⟩
   ·cases e
   ·rcases vat_cases h hp hc with ⟨hi, e'⟩ | ⟨_, e'⟩ | ⟨ho, e'⟩
    ·rw [e'] at e; cases e
    ·rw [e'] at e; cases e
    ·rw [e'] at e; cases e
     have hF := obj_f h ho
     refine ⟨rfl, by simp [hF.low], by simp [hF.low], fun c hc' hS b hub => ?_⟩
     simp only [Bool.or_eq_true, beq_iff_eq] at hS ⊢
     by_cases hb0 : b = 0
     ·exact .inl hb0
     ·rcases hS with rfl | hS
      ·rw [upB_low (by omega)] at hub; simp at hub; exact absurd hub hb0
      ·exact .inr (hF.up c b hS hub hb0)
  ·cases hv
 ·rw [mkV]
  by_cases ha : 0 ≤ a ∧ a < 3
  ·simp only [mkV, if_pos ha]
   rw [mk_snoc]
   constructor
   ·intro hs
    obtain ⟨v, hv⟩ := Option.isSome_iff_exists.1 hs
    obtain ⟨u, hu, hst⟩ := Option.bind_eq_some_iff.1 hv
    cases u with
    | int n => cases hst
    | non => cases hst
    | obj S =>
     simp only [stepV] at hst
     split at hst
     ·rename_i hcond
      rw [Bool.and_eq_true] at hcond
      exact ⟨S, hu, hcond.2⟩
     ·cases hst
   ·rintro ⟨S, hS, hSo⟩
    rw [hS]
    simp only [Option.bind_some, stepV]
    rw [if_pos (by simp [h0, h1, hSo])]
    split <;> rfl
  ·simp only [mkV, if_neg ha]
   simp
theorem ends_no {a : Int} {p : List Int} {s : Int} (hs : s ∈ (stage2 ls a p).slots) (hn : (stage2 ls a (p ++ [s])).needed = true) : ends2 (stage2 ls) a p = false := by
 have _ := h
 rw [ends2, List.all_eq_false]; exact ⟨s, hs, by rw [hn]; simp⟩
theorem lit_way {l : FLit} (hl : l ∈ ls) (ht : together2 W ls = true) : ∀ (n : Nat) (p : List Int), p.length = n → p <+: l.f.path →
  (mkP W (stage2 ls) l.f.arg p = none ∧ l.neg = true) ∨ (mkP W (stage2 ls) l.f.arg p = some (vAt W (stage2 ls) l.f.arg p) ∧ canAt W (stage2 ls) l.f.arg p = true)
 | 0, p, hp, _ => by
  have hok := h.ok l hl
  rw [List.eq_nil_of_length_eq_zero hp]
  refine .inr ⟨rfl, ?_⟩
  rcases mk_inv h ht hok.arg 0 [] rfl _ (show mkP W (stage2 ls) l.f.arg [] = some (vAt W (stage2 ls) l.f.arg []) from rfl) with e | e
  ·rw [together2, Bool.and_eq_true, Bool.and_eq_true] at ht
   have ha := hok.arg
   have : l.f.arg = 0 ∨ l.f.arg = 1 ∨ l.f.arg = 2 := by omega
   rcases this with e | e | e <;> rw [e]
   ·exact ht.1.1
   ·exact ht.1.2
   ·exact ht.2
  ·exact e.2.2
 | n + 1, p, hp, hpre => by
  rcases List.eq_nil_or_concat p with rfl | ⟨q, s, rfl⟩
  ·simp at hp
  ·rw [List.concat_eq_append] at hp hpre ⊢
   have hok := h.ok l hl
   have hway : wayL l.f.arg (q ++ [s]) l = true := by rw [wayL, Bool.and_eq_true, beg_iff]; exact ⟨by simp, hpre⟩
   have hs : s ∈ (stage2 ls l.f.arg q).slots := by rw [h.slots]; exact List.any_eq_true.2 ⟨l, hl, hway⟩
   have hnd : l.neg = false → (stage2 ls l.f.arg (q ++ [s])).needed = true := fun hn => by
    rw [h.need]; exact List.any_eq_true.2 ⟨l, hl, by rw [needL, hn, hway]; rfl⟩
   have hq : q.length ≤ 2 := by have := slot_len h hs; omega
   rw [mk_snoc]
   rcases lit_way hl ht n q (by simpa using hp) ((List.prefix_append _ _).trans hpre) with ⟨e, hn⟩ | ⟨e, hc⟩
   ·rw [e]; exact .inl ⟨rfl, hn⟩
   ·rw [e]
    simp only [Option.bind_some]
    rcases vat_cases h hq hc with ⟨hi, e'⟩ | ⟨hi, e'⟩ | ⟨ho, e'⟩
    ·rw [e']
     refine .inl ⟨rfl, ?_⟩
     cases hn : l.neg with
     | true => rfl
     | false =>
      rw [integer2, plain2, ends_no h hs (hnd hn)] at hi
      simp at hi
    ·rw [e']
     refine .inl ⟨rfl, ?_⟩
     cases hn : l.neg with
     | true => rfl
     | false =>
      rw [none2, plain2, ends_no h hs (hnd hn)] at hi
      simp at hi
    ·have hF := (obj_f h ho).slots s hs
     have hr := slot_in h hs
     rw [e']
     simp only [stepV]
     by_cases hcond : (decide (0 ≤ s) && decide (s < W.owner.length) && (ownerN W s == 0 || (objAt W (stage2 ls) l.f.arg q).1.testBit (ownerN W s))) = true
     ·rw [if_pos hcond, if_pos (List.contains_iff_mem.2 hs)]
      simp only [Bool.and_eq_true, decide_eq_true_eq, Bool.or_eq_true, beq_iff_eq] at hcond
      refine .inr ⟨rfl, hF.2 ?_⟩
      rcases hcond.2 with e0 | e0
      ·exact absurd e0 (own_ne h hr)
      ·exact e0
     ·rw [if_neg hcond]
      refine .inl ⟨rfl, ?_⟩
      cases hn : l.neg with
      | true => rfl
      | false =>
       exfalso; apply hcond
       rw [decide_eq_true hr.1, decide_eq_true hr.2, hF.1 (hnd hn)]; simp
theorem mk_lits (ht : together2 W ls = true) : ∀ l ∈ ls, litV (mkV W (stage2 ls)) l = true := by
 intro l hl
 have hok := h.ok l hl
 have hhit : hitL l.f.arg l.f.path l = true := by simp [hitL]
 rw [litV, evL, mkV, if_pos hok.arg]
 rcases lit_way h hl ht _ l.f.path rfl (List.prefix_refl _) with ⟨e, hn⟩ | ⟨e, hc⟩
 ·rw [e, hn]; rfl
 ·rw [e]
  simp only []
  have hcl := hok.cls
  have hmu : l.f.op = 2 → l.neg = false → (stage2 ls l.f.arg l.f.path).must.testBit l.f.cls.toNat = true := fun h2 hn => by
   rw [h.must]; exact List.any_eq_true.2 ⟨l, hl, by rw [isL, hhit, h2, hn]; simp⟩
  have hno : l.f.op = 2 → l.neg = true → (stage2 ls l.f.arg l.f.path).no.testBit l.f.cls.toNat = true := fun h2 hn => by
   rw [h.no]; exact List.any_eq_true.2 ⟨l, hl, by rw [isL, hhit, h2, hn]; simp⟩
  have hwh : l.f.op ≠ 2 → l.neg = false → (stage2 ls l.f.arg l.f.path).whole = true := fun h2 hn => by
   rw [h.whole]; exact List.any_eq_true.2 ⟨l, hl, by rw [wholeL, hhit, hn]; simpa using h2⟩
  rcases vat_cases h hok.path hc with ⟨hi, e'⟩ | ⟨hi, e'⟩ | ⟨ho, e'⟩
  ·rw [e']; unfold valL
   rw [integer2, Bool.and_eq_true, decide_eq_true_eq, plain_iff h] at hi
   by_cases h2 : l.f.op = 2
   ·rw [if_pos h2, isC]
    cases hn : l.neg with
    | false =>
     have := hi.2.1 _ (hmu h2 hn)
     rcases this with e0 | e0
     ·rw [e0]; rfl
     ·rw [e0]; rfl
    | true =>
     have h1 := hno h2 hn
     have : ¬ (l.f.cls.toNat = 0 ∨ l.f.cls.toNat = (1 : Int).toNat) := fun hh => by rw [hi.2.2.1 _ hh] at h1; cases h1
     have e0 : (l.f.cls.toNat == 0 || l.f.cls.toNat == 1) = false := by
      rw [Bool.or_eq_false_iff, beq_eq_false_iff_ne, beq_eq_false_iff_ne]; exact not_or.1 this
     rw [e0]; rfl
   ·rw [if_neg h2]
    simp only []
    have hk := freeK_spec (stage2 ls l.f.arg l.f.path).nots (stage2 ls l.f.arg l.f.path).low
    have ht' := h.tri l.f.arg l.f.path
    have hf := (num_fold (freeK (stage2 ls l.f.arg l.f.path).nots (stage2 ls l.f.arg l.f.path).low) (ls.filter (hitL l.f.arg l.f.path)) rs0 (fun l hm => (h.ok l (List.mem_filter.1 hm).1).op)).1 (by rw [← ht']; exact ⟨hk.2.1, hi.1, hk.1⟩)
    have := hf.2 l (List.mem_filter.2 ⟨hl, hhit⟩)
    rw [numOk, show (l.f.op == 2) = false from by simpa using h2, Bool.false_or] at this
    exact this
  ·rw [e']; unfold valL
   rw [none2, Bool.and_eq_true, Bool.not_eq_true', plain_iff h] at hi
   by_cases h2 : l.f.op = 2
   ·rw [if_pos h2, isC]
    cases hn : l.neg with
    | false =>
     have := hi.2.1 _ (hmu h2 hn)
     rcases this with e0 | e0
     ·rw [e0]; rfl
     ·rw [e0]; rfl
    | true =>
     have h1 := hno h2 hn
     have : ¬ (l.f.cls.toNat = 0 ∨ l.f.cls.toNat = (2 : Int).toNat) := fun hh => by rw [hi.2.2.1 _ hh] at h1; cases h1
     have e0 : (l.f.cls.toNat == 0 || l.f.cls.toNat == 2) = false := by
      rw [Bool.or_eq_false_iff, beq_eq_false_iff_ne, beq_eq_false_iff_ne]; exact not_or.1 this
     rw [e0]; rfl
   ·rw [if_neg h2]
    cases hn : l.neg with
    | false => rw [hwh h2 hn] at hi; cases hi.1
    | true => rfl
  ·rw [e']; unfold valL
   have hF := obj_f h ho
   by_cases h2 : l.f.op = 2
   ·rw [if_pos h2, isC]
    cases hn : l.neg with
    | false =>
     by_cases h0 : l.f.cls.toNat = 0
     ·rw [h0]; rfl
     ·rw [hF.must _ (hmu h2 hn) h0]; simp
    | true =>
     have h1 := hno h2 hn
     have h0 : l.f.cls.toNat ≠ 0 := fun e0 => by rw [e0, hF.n0] at h1; cases h1
     rw [hF.no _ h1, show (l.f.cls.toNat == 0) = false from by simpa using h0]; rfl
   ·rw [if_neg h2]
    cases hn : l.neg with
    | false => have := hwh h2 hn; rw [hF.whole] at this; cases this
    | true => rfl
theorem together_sem : together2 W ls = true ↔ ∃ V, VOk W V ∧ ∀ l ∈ ls, litV V l = true :=
 ⟨fun ht => ⟨_, mk_ok h ht, mk_lits h ht⟩, fun ⟨_, hV, hl⟩ => sem_together h hV hl⟩
end
theorem can_sem {W : FW} (hW : worldP W = true) {f : Fact} (hf : wfB W f = true) : canC W f = true ↔ ∃ V, VOk W V ∧ ev V f = true := by
 rw [canC, List.any_eq_true]
 constructor
 ·rintro ⟨c, hc, ht⟩
  obtain ⟨V, hV, hl⟩ := (together_sem (case_ls hW hf hc)).1 ht
  refine ⟨V, hV, ?_⟩
  have := cases_ev V f (wf_ok f hf) false
  rw [Bool.bne_false] at this
  rw [← this]
  exact List.any_eq_true.2 ⟨c, hc, List.all_eq_true.2 hl⟩
 ·rintro ⟨V, hV, he⟩
  have := cases_ev V f (wf_ok f hf) false
  rw [Bool.bne_false, he] at this
  obtain ⟨c, hc, hl⟩ := List.any_eq_true.1 this
  exact ⟨c, hc, sem_together (case_ls hW hf hc) hV (List.all_eq_true.1 hl)⟩
def okImp (W : FW) (p : Fact × Fact) : Bool := !goodP W [p.1] || !goodP W [p.2] || impC W p.1 p.2
theorem all_take {α : Type} [Inhabited α] {l : List α} {i : Nat} {p : α → Bool} (h : i < l.length) : (l.take (i + 1)).all p = ((l.take i).all p && p (l.getD i default)) := by
 rw [List.take_add_one, List.all_append, getD_lt h, List.getElem?_eq_getElem h]; simp
theorem code0 {b : Bool} : ((if b = true then (0 : Int) else 2) != 0) = !b := by cases b <;> rfl
section
variable {W : FW} {a b c : Fact} (ha : goodP W [a] = true) (hb : goodP W [b] = true) (hc : goodP W [c] = true)
include ha hb
include hc
end
abbrev U8 := Fin 256
abbrev AV.u8 (x : U8) : AV := .val (.int .u8 (x.val : Int))
structure BigW (W W' : FW) : Prop where
 ok : worldP W = true
 ok' : worldP W' = true
 par : W.parents <+: W'.parents
 own : W.owner <+: W'.owner
theorem BigW.np {W W' : FW} (h : BigW W W') : W.parents.length ≤ W'.parents.length := h.par.length_le
theorem BigW.no {W W' : FW} (h : BigW W W') : W.owner.length ≤ W'.owner.length := h.own.length_le
theorem BigW.par_at {W W' : FW} (h : BigW W W') {i : Nat} (hi : i < W.parents.length) : W'.parents.getD i default = W.parents.getD i default := by
 obtain ⟨t, ht⟩ := h.par
 rw [← ht, List.getD_eq_getElem?_getD, List.getElem?_append_left hi, List.getD_eq_getElem?_getD]
theorem BigW.own_at {W W' : FW} (h : BigW W W') {s : Int} (hs : 0 ≤ s ∧ s < W.owner.length) : ownerN W' s = ownerN W s := by
 obtain ⟨t, ht⟩ := h.own
 rw [ownerN, ownerN, ← ht, List.getD_eq_getElem?_getD, List.getElem?_append_left (by omega), List.getD_eq_getElem?_getD]
theorem BigW.up {W W' : FW} (h : BigW W W') : ∀ (n c : Nat), c ≤ n → c < 3 + W.parents.length → ∀ b, upB W' c b = upB W c b := by
 intro n
 induction n with
 | zero => intro c hn hc b; rw [upB_low (by omega), upB_low (by omega)]
 | succ n ih =>
  intro c hn hc b
  by_cases h3 : c < 3
  ·rw [upB_low h3, upB_low h3]
  ·obtain ⟨i, rfl⟩ : ∃ i, c = 3 + i := ⟨c - 3, by omega⟩
   have hnp := h.np
   rw [upB_own h.ok' (by omega), upB_own h.ok (by omega), h.par_at (by omega)]
   congr 1
   refine any_congr_mem fun p hp => ?_
   have h2 := parents_lt i _ _ (by have := parentss_at W.parents 0 i (by have := h.ok; simp only [worldP, Bool.and_eq_true] at this; exact this.1.2) (by omega); simpa using this) p hp
   exact ih p.toNat (by omega) (by omega) b
theorem BigW.node {W W' : FW} (h : BigW W W') {f : Fact} (hf : nodeOkB W f = true) : nodeOkB W' f = true := by
 have hnp := h.np
 have hno := h.no
 simp only [nodeOkB, Bool.and_eq_true] at hf ⊢
 refine ⟨hf.1, ?_⟩
 have h2 := hf.2
 by_cases hl : leafP f = true
 ·rw [if_pos hl] at h2 ⊢
  simp only [Bool.and_eq_true, argP, leafOkP, pathP, Bool.not_eq_true', Bool.or_eq_false_iff, decide_eq_false_iff_not, Bool.not_eq_false', List.all_eq_true, decide_eq_true_eq, slotP] at h2 ⊢
  refine ⟨⟨h2.1.1, h2.1.2.1, fun s hs => ?_⟩, ?_⟩
  ·have := h2.1.2.2 s hs; omega
  ·have h3 := h2.2
   by_cases ho : f.op = 2
   ·rw [if_pos ho] at h3 ⊢
    simp only [Bool.and_eq_true, classP, decide_eq_true_eq] at h3 ⊢
    exact ⟨h3.1, h3.2.1, by omega⟩
   ·rw [if_neg ho] at h3 ⊢; exact h3
 ·rw [if_neg hl] at h2 ⊢; exact h2
theorem BigW.wf {W W' : FW} (h : BigW W W') : ∀ f : Fact, wfB W f = true → wfB W' f = true := by
 refine Fact.ind1 fun f ih hf => ?_
 rw [wfB_iff] at hf ⊢
 exact ⟨h.node hf.1, fun k hk => ih k hk (hf.2 k hk)⟩
theorem BigW.good {W W' : FW} (h : BigW W W') {l : List Fact} (hl : goodP W l = true) : goodP W' l = true := by
 simp only [goodP, Bool.and_eq_true, List.all_eq_true] at hl ⊢
 refine ⟨h.ok', fun f hf => ?_⟩
 have := hl.2 f hf
 rw [← formed_eq, Bool.and_eq_true] at this ⊢
 exact ⟨this.1, h.wf f this.2⟩
def cutVal (n : Nat) : Val → Val
 | .obj S => .obj fun c => S c && decide (c < n)
 | v => v
def cutV (n : Nat) (V : VM) : VM := fun a p => (V a p).map (cutVal n)
theorem cut_isC {n c : Nat} (hc : c < n) (v : Val) : isC (cutVal n v) c = isC v c := by
 cases v with
 | int m => rfl
 | non => rfl
 | obj S => simp [isC, cutVal, hc]
theorem cut_valL {W : FW} {f : Fact} (hf : nodeOkB W f = true) (hl : leafP f = true) (v : Val) : valL f (cutVal (3 + W.parents.length) v) = valL f v := by
 by_cases h2 : f.op = 2
 ·rw [valL_is h2, valL_is h2]
  refine cut_isC ?_ v
  simp only [nodeOkB, Bool.and_eq_true] at hf
  have h3 := hf.2
  rw [if_pos hl, Bool.and_eq_true, leafOkP, if_pos h2] at h3
  simp only [Bool.and_eq_true, classP, decide_eq_true_eq] at h3
  omega
 ·rw [valL_no h2, valL_no h2]
  cases v <;> rfl
theorem ev_congr {W : FW} {V V' : VM} (h : ∀ f, nodeOkB W f = true → leafP f = true → evL V' f = evL V f) : ∀ f : Fact, wfB W f = true → ev V' f = ev V f := by
 refine Fact.ind1 fun f ih hf => ?_
 have hk := (wfB_iff.1 hf).2
 have hn := (wfB_iff.1 hf).1
 have hok := wf_ok f hf
 by_cases hl : leafP f = true
 ·rw [ev_leaf hl, ev_leaf hl, h f hn hl]
 by_cases h1 : f.op = 1
 ·rw [ev_true h1, ev_true h1]
 by_cases h5 : f.op = 5
 ·have := kids_one hok h5
  rw [ev_not h5 (by omega), ev_not h5 (by omega), ih _ (getD_mem (by omega)) (hk _ (getD_mem (by omega)))]
 have hlf' : leafP f = false := by simpa using hl
 have h2 := kids_two hok h1 h5 hlf'
 have h67 : f.op = 6 ∨ f.op = 7 := by
  simp only [nodeOkB, Bool.and_eq_true, decide_eq_true_eq] at hn
  simp only [leafP, Bool.and_eq_false_iff, decide_eq_false_iff_not] at hlf'
  omega
 have e0 := ih _ (getD_mem (l := f.kids) (k := 0) (by omega)) (hk _ (getD_mem (by omega)))
 have e1 := ih _ (getD_mem (l := f.kids) (k := 1) (by omega)) (hk _ (getD_mem (by omega)))
 rcases h67 with e | e
 ·rw [ev_and e (by omega), ev_and e (by omega), e0, e1]
 ·rw [ev_or e (by omega), ev_or e (by omega), e0, e1]
theorem BigW.cut_ok {W W' : FW} (h : BigW W W') {V : VM} (hV : VOk W' V) : VOk W (cutV (3 + W.parents.length) V) := by
 have hnp := h.np
 have hno := h.no
 refine ⟨fun a h0 h3 => by rw [cutV, Option.isSome_map]; exact hV.root a h0 h3, fun a p n hv => ?_, fun a p S hv => ?_, fun a p s h0 h1 => ?_⟩
 ·obtain ⟨v, h1, h2⟩ := Option.map_eq_some_iff.1 hv
  cases v with
  | int m => cases h2; exact hV.int a p _ h1
  | non => cases h2
  | obj S => cases h2
 ·obtain ⟨v, h1, h2⟩ := Option.map_eq_some_iff.1 hv
  cases v with
  | int m => cases h2
  | non => cases h2
  | obj S' =>
   cases h2
   obtain ⟨a1, a2, a3, a4⟩ := hV.obj a p S' h1
   refine ⟨by simp [a1]; omega, by simp [a2], by simp [a3], fun c hc hS b hub => ?_⟩
   simp only [Bool.and_eq_true, decide_eq_true_eq] at hS ⊢
   have hb := upB_le h.ok c c (Nat.le_refl _) hc b hub
   refine ⟨a4 c (by omega) hS.1 b ?_, by omega⟩
   rw [h.up c c (Nat.le_refl _) hc]; exact hub
 ·rw [cutV, cutV, Option.isSome_map, hV.step a p s h0 (by omega)]
  have ho := owner_rng h.ok ⟨h0, h1⟩
  rw [h.own_at ⟨h0, h1⟩]
  constructor
  ·rintro ⟨S, hS, hSo⟩
   refine ⟨_, by rw [hS]; rfl, ?_⟩
   simp only [Bool.and_eq_true, decide_eq_true_eq]
   exact ⟨hSo, by rw [ownerN]; omega⟩
  ·rintro ⟨S, hS, hSo⟩
   obtain ⟨v, h2, h3⟩ := Option.map_eq_some_iff.1 hS
   cases v with
   | int m => cases h3
   | non => cases h3
   | obj S' =>
    cases h3
    simp only [Bool.and_eq_true] at hSo
    exact ⟨S', h2, hSo.1⟩
def oldB (W : FW) (p : List Int) : Bool := p.all fun s => decide (0 ≤ s) && decide (s < W.owner.length)
def extV (W W' : FW) (V : VM) : VM := fun a p =>
 if oldB W p = true then V a p
 else match p.getLast? with
  | none => none
  | some s => if oldB W p.dropLast = true ∧ 0 ≤ s ∧ s < W'.owner.length then (match V a p.dropLast with | some (.obj S) => if (S (ownerN W' s) && decide (ownerN W' s < 3 + W.parents.length)) = true then some .non else none | _ => none) else none
theorem cut_old {W W' : FW} (h : BigW W W') {V : VM} (hV : VOk W V) : VOk W (cutV (3 + W.parents.length) V) := BigW.cut_ok ⟨h.ok, h.ok, List.prefix_refl _, List.prefix_refl _⟩ hV
theorem ext_ok {W W' : FW} (h : BigW W W') {V : VM} (hV : VOk W V) (hcut : ∀ a p S, V a p = some (.obj S) → ∀ c, S c = true → c < 3 + W.parents.length) : VOk W' (extV W W' V) := by
 have hnp := h.np
 have hno := h.no
 have old : ∀ a p, oldB W p = true → extV W W' V a p = V a p := fun a p hp => by rw [extV, if_pos hp]
 have new : ∀ a p v, oldB W p = false → extV W W' V a p = some v → v = .non := fun a p v hp hv => by
  rw [extV, if_neg (by rw [hp]; simp)] at hv
  split at hv
  ·cases hv
  ·split at hv
   ·split at hv
    ·split at hv
     ·exact (Option.some.inj hv).symm
     ·cases hv
    ·cases hv
   ·cases hv
 refine ⟨fun a h0 h3 => by rw [old a [] rfl]; exact hV.root a h0 h3, fun a p n hv => ?_, fun a p S hv => ?_, fun a p s h0 h1 => ?_⟩
 ·cases ho : oldB W p with
  | true => rw [old a p ho] at hv; exact hV.int a p n hv
  | false => cases new a p _ ho hv
 ·cases ho : oldB W p with
  | true =>
   rw [old a p ho] at hv
   obtain ⟨a1, a2, a3, a4⟩ := hV.obj a p S hv
   refine ⟨a1, a2, a3, fun c hc hS b hub => ?_⟩
   have hcl := hcut a p S hv c hS
   rw [h.up c c (Nat.le_refl _) hcl] at hub
   exact a4 c hcl hS b hub
  | false => cases new a p _ ho hv
 ·cases ho : oldB W p with
  | true =>
   rw [old a p ho]
   by_cases hs : s < W.owner.length
   ·rw [old a (p ++ [s]) (by rw [oldB, List.all_append, ← oldB, ho]; simp [h0, hs]), hV.step a p s h0 hs, h.own_at ⟨h0, hs⟩]
   ·have hn : oldB W (p ++ [s]) = false := by rw [oldB, List.all_append, ← oldB, ho]; simp; omega
    rw [extV, if_neg (by rw [hn]; simp), List.getLast?_concat, List.dropLast_concat]
    simp only []
    rw [if_pos ⟨ho, h0, h1⟩]
    cases hv : V a p with
    | none => simp
    | some v =>
     cases v with
     | int m => simp
     | non => simp
     | obj S =>
      simp only []
      constructor
      ·intro hh
       split at hh
       ·rename_i hc
        rw [Bool.and_eq_true] at hc
        exact ⟨S, rfl, hc.1⟩
       ·cases hh
      ·rintro ⟨S', e, hS⟩
       cases e
       rw [if_pos (by rw [hS, decide_eq_true (hcut a p S hv _ hS)]; rfl)]; rfl
  | false =>
   have hn : oldB W (p ++ [s]) = false := by rw [oldB, List.all_append, ← oldB, ho]; rfl
   have e1 : extV W W' V a (p ++ [s]) = none := by
    rw [extV, if_neg (by rw [hn]; simp), List.getLast?_concat, List.dropLast_concat]
    simp only []
    rw [if_neg (by rw [ho]; simp)]
   rw [e1]
   constructor
   ·intro hh; cases hh
   ·rintro ⟨S, hS, _⟩
    cases new a p _ ho hS
theorem leaf_old {W : FW} {f : Fact} (hf : nodeOkB W f = true) (hl : leafP f = true) : oldB W f.path = true := by
 simp only [nodeOkB, Bool.and_eq_true] at hf
 have h3 := hf.2
 rw [if_pos hl] at h3
 simp only [Bool.and_eq_true, argP, pathP, Bool.not_eq_true', Bool.or_eq_false_iff, Bool.not_eq_false'] at h3
 exact h3.1.2.2
theorem BigW.can {W W' : FW} (h : BigW W W') {f : Fact} (hf : wfB W f = true) : canC W' f = canC W f := by
 rw [Bool.eq_iff_iff, can_sem h.ok' (h.wf f hf), can_sem h.ok hf]
 constructor
 ·rintro ⟨V, hV, he⟩
  refine ⟨_, h.cut_ok hV, ?_⟩
  rw [← he]
  refine ev_congr (W := W) (fun f hf hl => ?_) f hf
  rw [evL, evL, cutV]
  cases V f.arg f.path with
  | none => rfl
  | some v => exact cut_valL hf hl v
 ·rintro ⟨V, hV, he⟩
  have h1 := cut_old h hV
  refine ⟨_, ext_ok h h1 (fun a p S hS c hc => ?_), ?_⟩
  ·obtain ⟨v, e1, e2⟩ := Option.map_eq_some_iff.1 hS
   cases v with
   | int m => cases e2
   | non => cases e2
   | obj S' =>
    cases e2
    simp only [Bool.and_eq_true, decide_eq_true_eq] at hc
    exact hc.2
  ·rw [← he]
   refine ev_congr (W := W) (fun f hf hl => ?_) f hf
   rw [evL, evL, extV, if_pos (leaf_old hf hl), cutV]
   cases V f.arg f.path with
   | none => rfl
   | some v => exact cut_valL hf hl v
theorem BigW.imp {W W' : FW} (h : BigW W W') {a b : Fact} (ha : wfB W a = true) (hb : wfB W b = true) : impC W' a b = impC W a b := by
 rw [impC, impC, h.can (wf_and ha (wf_not hb))]
theorem parentss_snoc {x : List Int} : ∀ (l : List (List Int)) (i : Nat), parentssP i (l ++ [x]) = (parentssP i l && parentsP (i + l.length) [] x)
 | [], i => by simp [parentssP]
 | p :: r, i => by
  rw [List.cons_append, parentssP, parentssP, parentss_snoc r, Bool.and_assoc, List.length_cons, show i + 1 + r.length = i + (r.length + 1) by omega]
theorem world_lens {W : FW} (h : worldP W = true) : W.parents.length ≤ 60 ∧ W.owner.length ≤ 40 := by
 simp only [worldP, Bool.and_eq_true, decide_eq_true_eq] at h; exact h.1.1
theorem ints_one (l : List Int) (x : Int) : AV.ints (l ++ [x]) = .sl 1 (l.map (fun n => [AV.i n]) ++ [[AV.i x]]) := congrArg _ List.map_append
open Go.ChangeShapes
section
variable {H : Type} {enc : TypeId × Value → H} {w : World} {base : Nat} {spare : Nat → Bool} {held : Bool}
end
section
variable {H : Type} {enc : TypeId × Value → H} {w : World} {v : Value} {d : DataW H} {ps : List MemPlace} {base base' : Nat} {r : Reach}
end
def zeroF : Fact := .mk 0 0 [] 0 0 []
theorem zero_le : AVleL [.i 0, .i 0, .val (.slice none 0 0), .i 0, .i 0, .val (.slice none 0 0)] (Fcells zeroF) := nilFact_le 0
structure ShortOk (W : FW) (f g : Fact) : Prop where
 good : goodP W [g] = true
 le : nodesN g ≤ 12
 same : (okImp W (g, f) && okImp W (f, g)) = true
 again : shortF2 W g = g
 cant : canC W f = false → g = noF
 less : canC W f = true → nodesN g ≤ nodesN f
end Go.Proofs.YtiljpbljebfhnaaGreat
