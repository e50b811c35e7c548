/- Part 11 of the proof: contracts of functions of the program and what they need. No condition beyond those that each theorem names. -/
import Derived.Test.YtiljpbljebfhnaaGreatSdP10
import Derived.ProofKit
set_option linter.unusedVariables false
set_option linter.unusedSimpArgs false
set_option maxRecDepth 10000
namespace Go.Proofs.YtiljpbljebfhnaaGreat
open Go.Eng
open Go.Eng.Fc
theorem slots2_congr {W : FW} {kn : K2} {a : Int} {p : List Int} {c1 c2 : List Int → Bool} : ∀ (l : List Int) (must no : Nat), (∀ s ∈ l, c1 (p ++ [s]) = c2 (p ++ [s])) → slots2 W kn c1 a p l must no = slots2 W kn c2 a p l must no
 | [], _, _, _ => rfl
 | s :: r, must, no, h => by
  have h1 := h s (.head _)
  have hr : ∀ x ∈ r, c1 (p ++ [x]) = c2 (p ++ [x]) := fun x hx => h x (.tail _ hx)
  rw [slots2, slots2, h1, slots2_congr r _ _ hr, slots2_congr r _ _ hr, slots2_congr r _ _ hr]
theorem object2_congr {W : FW} {kn : K2} {a : Int} {p : List Int} {c1 c2 : List Int → Bool} (h : ∀ s ∈ (kn a p).slots, c1 (p ++ [s]) = c2 (p ++ [s])) : object2 W kn c1 a p = object2 W kn c2 a p := by
 rw [object2, object2, slots2_congr _ _ _ h]
def canAt (W : FW) (kn : K2) (a : Int) (p : List Int) : Bool := can2 W kn (2 - p.length) a p
def objAt (W : FW) (kn : K2) (a : Int) (p : List Int) : Nat × Bool := object2 W kn (canAt W kn a) a p
def vAt (W : FW) (kn : K2) (a : Int) (p : List Int) : Val :=
 if integer2 kn a p = true then .int (freeK (kn a p).nots (kn a p).low)
 else if none2 kn a p = true then .non
 else .obj fun c => c == 0 || (objAt W kn a p).1.testBit c
def stepV (W : FW) (kn : K2) (a : Int) (p : List Int) (v : Val) (s : Int) : Option Val := match v with
 | .obj S => if (decide (0 ≤ s) && decide (s < W.owner.length) && S (ownerN W s)) = true then (if (kn a p).slots.contains s = true then some (vAt W kn a (p ++ [s])) else some .non) else none
 | _ => none
def mkP (W : FW) (kn : K2) (a : Int) (p : List Int) : Option Val := (p.foldl (fun (st : List Int × Option Val) s => (st.1 ++ [s], st.2.bind fun v => stepV W kn a st.1 v s)) ([], some (vAt W kn a []))).2
def mkV (W : FW) (kn : K2) : VM := fun a p => if 0 ≤ a ∧ a < 3 then mkP W kn a p else none
theorem mk_fst (W : FW) (kn : K2) (a : Int) : ∀ (p : List Int) (st : List Int × Option Val), (p.foldl (fun (st : List Int × Option Val) s => (st.1 ++ [s], st.2.bind fun v => stepV W kn a st.1 v s)) st).1 = st.1 ++ p
 | [], st => by simp
 | s :: r, st => by rw [List.foldl_cons, mk_fst W kn a r]; simp
theorem mk_snoc (W : FW) (kn : K2) (a : Int) (p : List Int) (s : Int) : mkP W kn a (p ++ [s]) = (mkP W kn a p).bind fun v => stepV W kn a p v s := by
 rw [mkP, List.foldl_append, List.foldl_cons, List.foldl_nil, mk_fst]; rfl
theorem slots2_facts {W : FW} {kn : K2} {can : List Int → Bool} {a : Int} {p : List Int} : ∀ (l : List Int) (must no m' n' : Nat), slots2 W kn can a p l must no = some (m', n') →
  (∀ c, must.testBit c = true → m'.testBit c = true) ∧ (∀ c, no.testBit c = true → n'.testBit c = true) ∧ (∀ c, m'.testBit c = true → must.testBit c = true ∨ ∃ s ∈ l, c = ownerN W s) ∧
  ∀ s ∈ l, ((kn a (p ++ [s])).needed = true → m'.testBit (ownerN W s) = true ∧ can (p ++ [s]) = true) ∧ (can (p ++ [s]) = false → n'.testBit (ownerN W s) = true)
 | [], must, no, m', n', h => by
  rw [slots2] at h; cases h
  exact ⟨fun _ h => h, fun _ h => h, fun _ h => .inl h, fun s hs => by cases hs⟩
 | s :: r, must, no, m', n', h => by
  rw [slots2] at h
  cases hnd : (kn a (p ++ [s])).needed with
  | true =>
   rw [hnd] at h
   cases hcn : can (p ++ [s]) with
   | false => rw [hcn] at h; cases h
   | true =>
    rw [hcn] at h
    simp only [Bool.not_true, Bool.and_false, Bool.false_eq_true, if_false, if_true] at h
    obtain ⟨i1, i2, i3, i4⟩ := slots2_facts r _ _ _ _ h
    refine ⟨fun c hc => i1 c (by rw [or_bit, hc]; rfl), i2, fun c hc => ?_, fun x hx => ?_⟩
    ·rcases i3 c hc with h' | ⟨x, hx, e⟩
     ·rw [or_bit, Bool.or_eq_true, beq_iff_eq] at h'
      rcases h' with h' | h'
      ·exact .inl h'
      ·exact .inr ⟨s, .head _, h'⟩
     ·exact .inr ⟨x, .tail _ hx, e⟩
    ·rcases List.mem_cons.1 hx with rfl | hx
     ·exact ⟨fun _ => ⟨i1 _ (by rw [or_bit]; simp [ownerN]), hcn⟩, fun hf => by rw [hcn] at hf; cases hf⟩
     ·exact i4 x hx
  | false =>
   rw [hnd] at h
   cases hcn : can (p ++ [s]) with
   | false =>
    rw [hcn] at h
    simp only [Bool.not_false, Bool.and_true, Bool.false_and, Bool.false_eq_true, if_false, if_true] at h
    obtain ⟨i1, i2, i3, i4⟩ := slots2_facts r _ _ _ _ h
    refine ⟨i1, fun c hc => i2 c (by rw [or_bit, hc]; rfl), fun c hc => ?_, fun x hx => ?_⟩
    ·rcases i3 c hc with h' | ⟨x, hx, e⟩
     ·exact .inl h'
     ·exact .inr ⟨x, .tail _ hx, e⟩
    ·rcases List.mem_cons.1 hx with rfl | hx
     ·exact ⟨fun hf => (by rw [hnd] at hf; cases hf), fun _ => i2 _ (by rw [or_bit]; simp [ownerN])⟩
     ·exact i4 x hx
   | true =>
    rw [hcn] at h
    simp only [Bool.not_true, Bool.false_and, Bool.false_eq_true, if_false] at h
    obtain ⟨i1, i2, i3, i4⟩ := slots2_facts r _ _ _ _ h
    refine ⟨i1, i2, fun c hc => ?_, fun x hx => ?_⟩
    ·rcases i3 c hc with h' | ⟨x, hx, e⟩
     ·exact .inl h'
     ·exact .inr ⟨x, .tail _ hx, e⟩
    ·rcases List.mem_cons.1 hx with rfl | hx
     ·exact ⟨fun hf => (by rw [hnd] at hf; cases hf), fun hf => by rw [hcn] at hf; cases hf⟩
     ·exact i4 x hx
structure ObjF (W : FW) (kn : K2) (a : Int) (p : List Int) (R : Nat) : Prop where
 whole : (kn a p).whole = false
 m1 : (kn a p).must.testBit 1 = false
 m2 : (kn a p).must.testBit 2 = false
 n0 : (kn a p).no.testBit 0 = false
 must : ∀ c, (kn a p).must.testBit c = true → c ≠ 0 → R.testBit c = true
 no : ∀ c, (kn a p).no.testBit c = true → R.testBit c = false
 low : ∀ c, c < 3 → R.testBit c = false
 lt : ∀ c, R.testBit c = true → c < 3 + W.parents.length
 up : ∀ c b, R.testBit c = true → upB W c b = true → b ≠ 0 → R.testBit b = true
 slots : ∀ s ∈ (kn a p).slots, ((kn a (p ++ [s])).needed = true → R.testBit (ownerN W s) = true) ∧ (R.testBit (ownerN W s) = true → canAt W kn a (p ++ [s]) = true)
section
variable {W : FW} {ls : List FLit} (h : LsOk W ls)
include h
theorem can_at {a : Int} {p : List Int} (hp : p.length ≤ 2) : canAt W (stage2 ls) a p = (integer2 (stage2 ls) a p || none2 (stage2 ls) a p || (objAt W (stage2 ls) a p).2) := by
 rw [canAt, objAt]
 by_cases h2 : p.length = 2
 ·rw [h2, show 2 - 2 = 0 from rfl, can2, object2_congr (c2 := canAt W (stage2 ls) a) (fun s hs => absurd (slot_len h hs) (by omega))]
 ·obtain ⟨d, hd⟩ : ∃ d, 2 - p.length = d + 1 := ⟨1 - p.length, by omega⟩
  rw [hd, can2, object2_congr (c2 := canAt W (stage2 ls) a) (fun s hs => by rw [canAt]; congr 1; simp; omega)]
theorem obj_f {a : Int} {p : List Int} (ho : (objAt W (stage2 ls) a p).2 = true) : ObjF W (stage2 ls) a p (objAt W (stage2 ls) a p).1 := by
 have hW := world_len h.w
 rw [objAt] at ho ⊢
 generalize hob : object2 W (stage2 ls) (canAt W (stage2 ls) a) a p = ob at ho ⊢
 rw [object2] at hob
 by_cases hb : ((stage2 ls a p).whole || (stage2 ls a p).must.testBit 1 || (stage2 ls a p).must.testBit 2 || (stage2 ls a p).no.testBit 0) = true
 ·rw [if_pos hb] at hob; rw [← hob] at ho; cases ho
 ·rw [if_neg hb] at hob
  have hb := Bool.eq_false_iff.2 hb
  simp only [Bool.or_eq_false_iff] at hb
  cases hs : slots2 W (stage2 ls) (canAt W (stage2 ls) a) a p (stage2 ls a p).slots (stage2 ls a p).must (stage2 ls a p).no with
  | none => rw [hs] at hob; rw [← hob] at ho; cases ho
  | some mn =>
   obtain ⟨m', n'⟩ := mn
   rw [hs] at hob
   simp only [] at hob
   obtain ⟨f1, f2, f3, f4⟩ := slots2_facts _ _ _ _ _ hs
   rw [← hob] at ho ⊢
   simp only [] at ho ⊢
   have hz := zero_bits.1 ho
   have hown : ∀ s ∈ (stage2 ls a p).slots, 3 ≤ ownerN W s ∧ ownerN W s < 3 + W.parents.length := fun s hs => by
    have := owner_rng h.w (slot_in h hs)
    rw [ownerN]; omega
   have hm12 : ∀ c, c = 1 ∨ c = 2 → m'.testBit c = false := fun c hc => by
    rw [Bool.eq_false_iff]; intro hm
    rcases f3 c hm with h' | ⟨s, hs', e⟩
    ·rcases hc with rfl | rfl
     ·rw [hb.1.1.2] at h'; cases h'
     ·rw [hb.1.2] at h'; cases h'
    ·have := hown s hs'; omega
   have hmlt : ∀ c, m'.testBit c = true → c < 3 + W.parents.length := fun c hm => by
    rcases f3 c hm with h' | ⟨s, hs', e⟩
    ·exact h.must_lt h'
    ·rw [e]; exact (hown s hs').2
   have hX := closeK_get h.w W.parents.length 3 m' rfl
   have hlt : ∀ c, (closeK W W.parents.length 3 m').testBit c = true → c < 3 + W.parents.length := fun c hc => by
    rcases (hX c).1 hc with h1 | ⟨i, h1, h2, _, h4⟩
    ·exact hmlt c h1
    ·have := upB_le h.w i i (Nat.le_refl _) (by omega) c h4; omega
   have hR : ∀ c, (andNotP (closeK W W.parents.length 3 m') 1).testBit c = ((closeK W W.parents.length 3 m').testBit c && !(c == 0)) := fun c => by
    rw [andNot_bit, show (1 : Nat).testBit c = (c == 0) from by
     rcases c with _ | c
     ·rfl
     ·rw [Nat.testBit_succ]; simp]
    cases hc : (closeK W W.parents.length 3 m').testBit c with
    | false => simp
    | true => have := hlt c hc; rw [decide_eq_true (by omega)]; rfl
   have hRm : ∀ c, m'.testBit c = true → c ≠ 0 → (andNotP (closeK W W.parents.length 3 m') 1).testBit c = true := fun c hm hc => by
    rw [hR, (hX c).2 (.inl hm), show (c == 0) = false from by simpa using hc]; rfl
   have hRn : ∀ c, n'.testBit c = true → (andNotP (closeK W W.parents.length 3 m') 1).testBit c = false := fun c hn => by
    have := hz c
    rw [Nat.testBit_and, hn, Bool.and_true] at this; exact this
   refine ⟨hb.1.1.1, hb.1.1.2, hb.1.2, hb.2, fun c hc h0 => hRm c (f1 c hc) h0, fun c hc => hRn c (f2 c hc), fun c hc => ?_, fun c hc => ?_, fun c b hc hub hb0 => ?_, fun s hs' => ?_⟩
   ·rw [hR, Bool.eq_false_iff]; intro hh
    rw [Bool.and_eq_true, Bool.not_eq_true', beq_eq_false_iff_ne] at hh
    rcases (hX c).1 hh.1 with h1 | ⟨i, h1, h2, _, h4⟩
    ·rw [hm12 c (by omega)] at h1; cases h1
    ·have := upB_le h.w i i (Nat.le_refl _) (by omega) c h4; omega
   ·rw [hR, Bool.and_eq_true] at hc; exact hlt c hc.1
   ·rw [hR, Bool.and_eq_true] at hc ⊢
    refine ⟨?_, by simpa using hb0⟩
    rw [hX b]
    rcases (hX c).1 hc.1 with h1 | ⟨i, h1, h2, h3, h4⟩
    ·have hc0 : c ≠ 0 := by simpa using hc.2
     have hcl := hmlt c h1
     have hc12 : c ≠ 1 ∧ c ≠ 2 := ⟨fun e => (by rw [hm12 c (.inl e)] at h1; cases h1), fun e => by rw [hm12 c (.inr e)] at h1; cases h1⟩
     exact .inr ⟨c, by omega, by omega, h1, hub⟩
    ·exact .inr ⟨i, h1, h2, h3, upB_trans h.w i i (Nat.le_refl _) (by omega) c b h4 hub⟩
   ·refine ⟨fun hn => hRm _ ((f4 s hs').1 hn).1 (by have := hown s hs'; omega), fun hr => ?_⟩
    cases hcn : canAt W (stage2 ls) a (p ++ [s]) with
    | true => rfl
    | false => rw [hRn _ ((f4 s hs').2 hcn)] at hr; cases hr
theorem vat_cases {a : Int} {p : List Int} (hp : p.length ≤ 2) (hc : canAt W (stage2 ls) a p = true) :
  (integer2 (stage2 ls) a p = true ∧ vAt W (stage2 ls) a p = .int (freeK (stage2 ls a p).nots (stage2 ls a p).low)) ∨ (none2 (stage2 ls) a p = true ∧ vAt W (stage2 ls) a p = .non) ∨
  ((objAt W (stage2 ls) a p).2 = true ∧ vAt W (stage2 ls) a p = .obj fun c => c == 0 || (objAt W (stage2 ls) a p).1.testBit c) := by
 rw [can_at h hp] at hc
 unfold vAt
 by_cases hi : integer2 (stage2 ls) a p = true
 ·rw [if_pos hi]; exact .inl ⟨hi, rfl⟩
 ·rw [if_neg hi]
  by_cases hn : none2 (stage2 ls) a p = true
  ·rw [if_pos hn]; exact .inr (.inl ⟨hn, rfl⟩)
  ·rw [if_neg hn]
   rw [Bool.eq_false_iff.2 hi, Bool.eq_false_iff.2 hn] at hc
   exact .inr (.inr ⟨by simpa using hc, rfl⟩)
theorem own_ne {s : Int} (hs : 0 ≤ s ∧ s < W.owner.length) : ownerN W s ≠ 0 := by
 have := owner_rng h.w hs; rw [ownerN]; omega
theorem mk_inv (ht : together2 W ls = true) {a : Int} (ha : 0 ≤ a ∧ a < 3) : ∀ (n : Nat) (p : List Int), p.length = n → ∀ v, mkP W (stage2 ls) a p = some v → v = .non ∨ (v = vAt W (stage2 ls) a p ∧ p.length ≤ 2 ∧ canAt W (stage2 ls) a p = true)
 | 0, p, hp, v, hv => by
  rw [List.eq_nil_of_length_eq_zero hp] at hv ⊢
  have e : v = vAt W (stage2 ls) a [] := (Option.some.inj hv).symm
  refine .inr ⟨e, by simp, ?_⟩
  rw [together2, Bool.and_eq_true, Bool.and_eq_true] at ht
  have : a = 0 ∨ a = 1 ∨ a = 2 := by omega
  rcases this with rfl | rfl | rfl
  ·exact ht.1.1
  ·exact ht.1.2
  ·exact ht.2
 | n + 1, p, hp, v, hv => by
  rcases List.eq_nil_or_concat p with rfl | ⟨q, s, rfl⟩
  ·simp at hp
  ·rw [List.concat_eq_append] at hp hv ⊢
   rw [mk_snoc] at hv
   obtain ⟨u, hu, hst⟩ := Option.bind_eq_some_iff.1 hv
   rcases mk_inv ht ha n q (by simpa using hp) u hu with rfl | ⟨rfl, hq, hc⟩
   ·cases hst
   ·rcases vat_cases h hq hc with ⟨_, e⟩ | ⟨_, e⟩ | ⟨ho, e⟩
    ·rw [e] at hst; cases hst
    ·rw [e] at hst; cases hst
    ·rw [e] at hst
     simp only [stepV] at hst
     split at hst
     ·rename_i hcond
      simp only [Bool.and_eq_true, decide_eq_true_eq, Bool.or_eq_true, beq_iff_eq] at hcond
      split at hst
      ·rename_i hcs
       have hcs := List.contains_iff_mem.1 hcs
       have hl := slot_len h hcs
       refine .inr ⟨(Option.some.inj hst).symm, by simp; omega, ((obj_f h ho).slots s hcs).2 ?_⟩
       rcases hcond.2 with e0 | e0
       ·exact absurd e0 (own_ne h hcond.1)
       ·exact e0
      ·exact .inl (Option.some.inj hst).symm
     ·cases hst
theorem mk_ok (ht : together2 W ls = true) : VOk W (mkV W (stage2 ls)) := by
 refine ⟨fun a h0 h3 => ?_, fun a p n hv => ?_, fun a p S hv => ?_, fun a p s h0 h1 => ?_⟩
 ·rw [mkV, if_pos ⟨h0, h3⟩]; rfl
 ·rw [mkV] at hv
  split at hv
  ·rename_i ha
   rcases mk_inv h ht ha p.length p rfl _ hv with e | ⟨e, hp, hc⟩
   ·cases e
   ·rcases vat_cases h hp hc with ⟨hi, e'⟩ | ⟨_, e'⟩ | ⟨_, e'⟩
    ·rw [e'] at e; cases e
     rw [integer2, Bool.and_eq_true, decide_eq_true_eq] at hi
     have hk := freeK_spec (stage2 ls a p).nots (stage2 ls a p).low
     have ht' := h.tri a p
     have hf := (num_fold (freeK (stage2 ls a p).nots (stage2 ls a p).low) (ls.filter (hitL a p)) rs0 (fun l hm => (h.ok l (List.mem_filter.1 hm).1).op)).1 (by rw [← ht']; exact ⟨hk.2.1, hi.1, hk.1⟩)
     exact ⟨hf.1.1, hf.1.2.1⟩
    ·rw [e'] at e; cases e
    ·rw [e'] at e; cases e
  ·cases hv
 ·rw [mkV] at hv
  split at hv
  ·rename_i ha
   rcases mk_inv h ht ha p.length p rfl _ hv with e | ⟨e, hp, hc⟩
   ·cases e
   ·rcases vat_cases h hp hc with ⟨hi, e'⟩ | ⟨_, e'⟩ | ⟨ho, e'⟩
    ·rw [e'] at e; cases e
    ·rw [e'] at e; cases e
    ·rw [e'] at e; cases e
     have hF := obj_f h ho
     refine ⟨rfl, by simp [hF.low], by simp [hF.low], fun c hc' hS b hub => ?_⟩
     simp only [Bool.or_eq_true, beq_iff_eq] at hS ⊢
     by_cases hb0 : b = 0
     ·exact .inl hb0
     ·rcases hS with rfl | hS
      ·rw [upB_low (by omega)] at hub; simp at hub; exact absurd hub hb0
      ·exact .inr (hF.up c b hS hub hb0)
  ·cases hv
 ·rw [mkV]
  by_cases ha : 0 ≤ a ∧ a < 3
  ·simp only [mkV, if_pos ha]
   rw [mk_snoc]
   constructor
   ·intro hs
    obtain ⟨v, hv⟩ := Option.isSome_iff_exists.1 hs
    obtain ⟨u, hu, hst⟩ := Option.bind_eq_some_iff.1 hv
    cases u with
    | int n => cases hst
    | non => cases hst
    | obj S =>
     simp only [stepV] at hst
     split at hst
     ·rename_i hcond
      rw [Bool.and_eq_true] at hcond
      exact ⟨S, hu, hcond.2⟩
     ·cases hst
   ·rintro ⟨S, hS, hSo⟩
    rw [hS]
    simp only [Option.bind_some, stepV]
    rw [if_pos (by simp [h0, h1, hSo])]
    split <;> rfl
  ·simp only [mkV, if_neg ha]
   simp
theorem ends_no {a : Int} {p : List Int} {s : Int} (hs : s ∈ (stage2 ls a p).slots) (hn : (stage2 ls a (p ++ [s])).needed = true) : ends2 (stage2 ls) a p = false := by
 have _ := h
 rw [ends2, List.all_eq_false]; exact ⟨s, hs, by rw [hn]; simp⟩
theorem lit_way {l : FLit} (hl : l ∈ ls) (ht : together2 W ls = true) : ∀ (n : Nat) (p : List Int), p.length = n → p <+: l.f.path →
  (mkP W (stage2 ls) l.f.arg p = none ∧ l.neg = true) ∨ (mkP W (stage2 ls) l.f.arg p = some (vAt W (stage2 ls) l.f.arg p) ∧ canAt W (stage2 ls) l.f.arg p = true)
 | 0, p, hp, _ => by
  have hok := h.ok l hl
  rw [List.eq_nil_of_length_eq_zero hp]
  refine .inr ⟨rfl, ?_⟩
  rcases mk_inv h ht hok.arg 0 [] rfl _ (show mkP W (stage2 ls) l.f.arg [] = some (vAt W (stage2 ls) l.f.arg []) from rfl) with e | e
  ·rw [together2, Bool.and_eq_true, Bool.and_eq_true] at ht
   have ha := hok.arg
   have : l.f.arg = 0 ∨ l.f.arg = 1 ∨ l.f.arg = 2 := by omega
   rcases this with e | e | e <;> rw [e]
   ·exact ht.1.1
   ·exact ht.1.2
   ·exact ht.2
  ·exact e.2.2
 | n + 1, p, hp, hpre => by
  rcases List.eq_nil_or_concat p with rfl | ⟨q, s, rfl⟩
  ·simp at hp
  ·rw [List.concat_eq_append] at hp hpre ⊢
   have hok := h.ok l hl
   have hway : wayL l.f.arg (q ++ [s]) l = true := by rw [wayL, Bool.and_eq_true, beg_iff]; exact ⟨by simp, hpre⟩
   have hs : s ∈ (stage2 ls l.f.arg q).slots := by rw [h.slots]; exact List.any_eq_true.2 ⟨l, hl, hway⟩
   have hnd : l.neg = false → (stage2 ls l.f.arg (q ++ [s])).needed = true := fun hn => by
    rw [h.need]; exact List.any_eq_true.2 ⟨l, hl, by rw [needL, hn, hway]; rfl⟩
   have hq : q.length ≤ 2 := by have := slot_len h hs; omega
   rw [mk_snoc]
   rcases lit_way hl ht n q (by simpa using hp) ((List.prefix_append _ _).trans hpre) with ⟨e, hn⟩ | ⟨e, hc⟩
   ·rw [e]; exact .inl ⟨rfl, hn⟩
   ·rw [e]
    simp only [Option.bind_some]
    rcases vat_cases h hq hc with ⟨hi, e'⟩ | ⟨hi, e'⟩ | ⟨ho, e'⟩
    ·rw [e']
     refine .inl ⟨rfl, ?_⟩
     cases hn : l.neg with
     | true => rfl
     | false =>
      rw [integer2, plain2, ends_no h hs (hnd hn)] at hi
      simp at hi
    ·rw [e']
     refine .inl ⟨rfl, ?_⟩
     cases hn : l.neg with
     | true => rfl
     | false =>
      rw [none2, plain2, ends_no h hs (hnd hn)] at hi
      simp at hi
    ·have hF := (obj_f h ho).slots s hs
     have hr := slot_in h hs
     rw [e']
     simp only [stepV]
     by_cases hcond : (decide (0 ≤ s) && decide (s < W.owner.length) && (ownerN W s == 0 || (objAt W (stage2 ls) l.f.arg q).1.testBit (ownerN W s))) = true
     ·rw [if_pos hcond, if_pos (List.contains_iff_mem.2 hs)]
      simp only [Bool.and_eq_true, decide_eq_true_eq, Bool.or_eq_true, beq_iff_eq] at hcond
      refine .inr ⟨rfl, hF.2 ?_⟩
      rcases hcond.2 with e0 | e0
      ·exact absurd e0 (own_ne h hr)
      ·exact e0
     ·rw [if_neg hcond]
      refine .inl ⟨rfl, ?_⟩
      cases hn : l.neg with
      | true => rfl
      | false =>
       exfalso; apply hcond
       rw [decide_eq_true hr.1, decide_eq_true hr.2, hF.1 (hnd hn)]; simp
theorem mk_lits (ht : together2 W ls = true) : ∀ l ∈ ls, litV (mkV W (stage2 ls)) l = true := by
 intro l hl
 have hok := h.ok l hl
 have hhit : hitL l.f.arg l.f.path l = true := by simp [hitL]
 rw [litV, evL, mkV, if_pos hok.arg]
 rcases lit_way h hl ht _ l.f.path rfl (List.prefix_refl _) with ⟨e, hn⟩ | ⟨e, hc⟩
 ·rw [e, hn]; rfl
 ·rw [e]
  simp only []
  have hcl := hok.cls
  have hmu : l.f.op = 2 → l.neg = false → (stage2 ls l.f.arg l.f.path).must.testBit l.f.cls.toNat = true := fun h2 hn => by
   rw [h.must]; exact List.any_eq_true.2 ⟨l, hl, by rw [isL, hhit, h2, hn]; simp⟩
  have hno : l.f.op = 2 → l.neg = true → (stage2 ls l.f.arg l.f.path).no.testBit l.f.cls.toNat = true := fun h2 hn => by
   rw [h.no]; exact List.any_eq_true.2 ⟨l, hl, by rw [isL, hhit, h2, hn]; simp⟩
  have hwh : l.f.op ≠ 2 → l.neg = false → (stage2 ls l.f.arg l.f.path).whole = true := fun h2 hn => by
   rw [h.whole]; exact List.any_eq_true.2 ⟨l, hl, by rw [wholeL, hhit, hn]; simpa using h2⟩
  rcases vat_cases h hok.path hc with ⟨hi, e'⟩ | ⟨hi, e'⟩ | ⟨ho, e'⟩
  ·rw [e']; unfold valL
   rw [integer2, Bool.and_eq_true, decide_eq_true_eq, plain_iff h] at hi
   by_cases h2 : l.f.op = 2
   ·rw [if_pos h2, isC]
    cases hn : l.neg with
    | false =>
     have := hi.2.1 _ (hmu h2 hn)
     rcases this with e0 | e0
     ·rw [e0]; rfl
     ·rw [e0]; rfl
    | true =>
     have h1 := hno h2 hn
     have : ¬ (l.f.cls.toNat = 0 ∨ l.f.cls.toNat = (1 : Int).toNat) := fun hh => by rw [hi.2.2.1 _ hh] at h1; cases h1
     have e0 : (l.f.cls.toNat == 0 || l.f.cls.toNat == 1) = false := by
      rw [Bool.or_eq_false_iff, beq_eq_false_iff_ne, beq_eq_false_iff_ne]; exact not_or.1 this
     rw [e0]; rfl
   ·rw [if_neg h2]
    simp only []
    have hk := freeK_spec (stage2 ls l.f.arg l.f.path).nots (stage2 ls l.f.arg l.f.path).low
    have ht' := h.tri l.f.arg l.f.path
    have hf := (num_fold (freeK (stage2 ls l.f.arg l.f.path).nots (stage2 ls l.f.arg l.f.path).low) (ls.filter (hitL l.f.arg l.f.path)) rs0 (fun l hm => (h.ok l (List.mem_filter.1 hm).1).op)).1 (by rw [← ht']; exact ⟨hk.2.1, hi.1, hk.1⟩)
    have := hf.2 l (List.mem_filter.2 ⟨hl, hhit⟩)
    rw [numOk, show (l.f.op == 2) = false from by simpa using h2, Bool.false_or] at this
    exact this
  ·rw [e']; unfold valL
   rw [none2, Bool.and_eq_true, Bool.not_eq_true', plain_iff h] at hi
   by_cases h2 : l.f.op = 2
   ·rw [if_pos h2, isC]
    cases hn : l.neg with
    | false =>
     have := hi.2.1 _ (hmu h2 hn)
     rcases this with e0 | e0
     ·rw [e0]; rfl
     ·rw [e0]; rfl
    | true =>
     have h1 := hno h2 hn
     have : ¬ (l.f.cls.toNat = 0 ∨ l.f.cls.toNat = (2 : Int).toNat) := fun hh => by rw [hi.2.2.1 _ hh] at h1; cases h1
     have e0 : (l.f.cls.toNat == 0 || l.f.cls.toNat == 2) = false := by
      rw [Bool.or_eq_false_iff, beq_eq_false_iff_ne, beq_eq_false_iff_ne]; exact not_or.1 this
     rw [e0]; rfl
   ·rw [if_neg h2]
    cases hn : l.neg with
    | false => rw [hwh h2 hn] at hi; cases hi.1
    | true => rfl
  ·rw [e']; unfold valL
   have hF := obj_f h ho
   by_cases h2 : l.f.op = 2
   ·rw [if_pos h2, isC]
    cases hn : l.neg with
    | false =>
     by_cases h0 : l.f.cls.toNat = 0
     ·rw [h0]; rfl
     ·rw [hF.must _ (hmu h2 hn) h0]; simp
    | true =>
     have h1 := hno h2 hn
     have h0 : l.f.cls.toNat ≠ 0 := fun e0 => by rw [e0, hF.n0] at h1; cases h1
     rw [hF.no _ h1, show (l.f.cls.toNat == 0) = false from by simpa using h0]; rfl
   ·rw [if_neg h2]
    cases hn : l.neg with
    | false => have := hwh h2 hn; rw [hF.whole] at this; cases this
    | true => rfl
theorem together_sem : together2 W ls = true ↔ ∃ V, VOk W V ∧ ∀ l ∈ ls, litV V l = true :=
 ⟨fun ht => ⟨_, mk_ok h ht, mk_lits h ht⟩, fun ⟨_, hV, hl⟩ => sem_together h hV hl⟩
end
theorem can_sem {W : FW} (hW : worldP W = true) {f : Fact} (hf : wfB W f = true) : canC W f = true ↔ ∃ V, VOk W V ∧ ev V f = true := by
 rw [canC, List.any_eq_true]
 constructor
 ·rintro ⟨c, hc, ht⟩
  obtain ⟨V, hV, hl⟩ := (together_sem (case_ls hW hf hc)).1 ht
  refine ⟨V, hV, ?_⟩
  have := cases_ev V f (wf_ok f hf) false
  rw [Bool.bne_false] at this
  rw [← this]
  exact List.any_eq_true.2 ⟨c, hc, List.all_eq_true.2 hl⟩
 ·rintro ⟨V, hV, he⟩
  have := cases_ev V f (wf_ok f hf) false
  rw [Bool.bne_false, he] at this
  obtain ⟨c, hc, hl⟩ := List.any_eq_true.1 this
  exact ⟨c, hc, sem_together (case_ls hW hf hc) hV (List.all_eq_true.1 hl)⟩
theorem imp_sem {W : FW} (hW : worldP W = true) {a b : Fact} (ha : wfB W a = true) (hb : wfB W b = true) : impC W a b = true ↔ ∀ V, VOk W V → ev V a = true → ev V b = true := by
 rw [impC, Bool.not_eq_true', Bool.eq_false_iff, ne_eq, can_sem hW (wf_and ha (wf_not hb))]
 constructor
 ·intro hn V hV h1
  cases h2 : ev V b with
  | true => rfl
  | false => exact absurd ⟨V, hV, by rw [ev_andF, ev_notF, h1, h2]; rfl⟩ hn
 ·rintro hh ⟨V, hV, h1⟩
  rw [ev_andF, ev_notF, Bool.and_eq_true] at h1
  rw [hh V hV h1.1] at h1
  cases h1.2
def okImp (W : FW) (p : Fact × Fact) : Bool := !goodP W [p.1] || !goodP W [p.2] || impC W p.1 p.2
theorem all_take {α : Type} [Inhabited α] {l : List α} {i : Nat} {p : α → Bool} (h : i < l.length) : (l.take (i + 1)).all p = ((l.take i).all p && p (l.getD i default)) := by
 rw [List.take_add_one, List.all_append, getD_lt h, List.getElem?_eq_getElem h]; simp
theorem code0 {b : Bool} : ((if b = true then (0 : Int) else 2) != 0) = !b := by cases b <;> rfl
section
variable {W : FW} {a b c : Fact} (ha : goodP W [a] = true) (hb : goodP W [b] = true) (hc : goodP W [c] = true)
include ha hb
include hc
end
abbrev U8 := Fin 256
abbrev AV.u8 (x : U8) : AV := .val (.int .u8 (x.val : Int))
structure BigW (W W' : FW) : Prop where
 ok : worldP W = true
 ok' : worldP W' = true
 par : W.parents <+: W'.parents
 own : W.owner <+: W'.owner
theorem BigW.np {W W' : FW} (h : BigW W W') : W.parents.length ≤ W'.parents.length := h.par.length_le
theorem BigW.no {W W' : FW} (h : BigW W W') : W.owner.length ≤ W'.owner.length := h.own.length_le
theorem BigW.par_at {W W' : FW} (h : BigW W W') {i : Nat} (hi : i < W.parents.length) : W'.parents.getD i default = W.parents.getD i default := by
 obtain ⟨t, ht⟩ := h.par
 rw [← ht, List.getD_eq_getElem?_getD, List.getElem?_append_left hi, List.getD_eq_getElem?_getD]
theorem BigW.own_at {W W' : FW} (h : BigW W W') {s : Int} (hs : 0 ≤ s ∧ s < W.owner.length) : ownerN W' s = ownerN W s := by
 obtain ⟨t, ht⟩ := h.own
 rw [ownerN, ownerN, ← ht, List.getD_eq_getElem?_getD, List.getElem?_append_left (by omega), List.getD_eq_getElem?_getD]
theorem BigW.up {W W' : FW} (h : BigW W W') : ∀ (n c : Nat), c ≤ n → c < 3 + W.parents.length → ∀ b, upB W' c b = upB W c b := by
 intro n
 induction n with
 | zero => intro c hn hc b; rw [upB_low (by omega), upB_low (by omega)]
 | succ n ih =>
  intro c hn hc b
  by_cases h3 : c < 3
  ·rw [upB_low h3, upB_low h3]
  ·obtain ⟨i, rfl⟩ : ∃ i, c = 3 + i := ⟨c - 3, by omega⟩
   have hnp := h.np
   rw [upB_own h.ok' (by omega), upB_own h.ok (by omega), h.par_at (by omega)]
   congr 1
   refine any_congr_mem fun p hp => ?_
   have h2 := parents_lt i _ _ (by have := parentss_at W.parents 0 i (by have := h.ok; simp only [worldP, Bool.and_eq_true] at this; exact this.1.2) (by omega); simpa using this) p hp
   exact ih p.toNat (by omega) (by omega) b
theorem BigW.node {W W' : FW} (h : BigW W W') {f : Fact} (hf : nodeOkB W f = true) : nodeOkB W' f = true := by
 have hnp := h.np
 have hno := h.no
 simp only [nodeOkB, Bool.and_eq_true] at hf ⊢
 refine ⟨hf.1, ?_⟩
 have h2 := hf.2
 by_cases hl : leafP f = true
 ·rw [if_pos hl] at h2 ⊢
  simp only [Bool.and_eq_true, argP, leafOkP, pathP, Bool.not_eq_true', Bool.or_eq_false_iff, decide_eq_false_iff_not, Bool.not_eq_false', List.all_eq_true, decide_eq_true_eq, slotP] at h2 ⊢
  refine ⟨⟨h2.1.1, h2.1.2.1, fun s hs => ?_⟩, ?_⟩
  ·have := h2.1.2.2 s hs; omega
  ·have h3 := h2.2
   by_cases ho : f.op = 2
   ·rw [if_pos ho] at h3 ⊢
    simp only [Bool.and_eq_true, classP, decide_eq_true_eq] at h3 ⊢
    exact ⟨h3.1, h3.2.1, by omega⟩
   ·rw [if_neg ho] at h3 ⊢; exact h3
 ·rw [if_neg hl] at h2 ⊢; exact h2
theorem BigW.wf {W W' : FW} (h : BigW W W') : ∀ f : Fact, wfB W f = true → wfB W' f = true := by
 refine Fact.ind1 fun f ih hf => ?_
 rw [wfB_iff] at hf ⊢
 exact ⟨h.node hf.1, fun k hk => ih k hk (hf.2 k hk)⟩
theorem BigW.good {W W' : FW} (h : BigW W W') {l : List Fact} (hl : goodP W l = true) : goodP W' l = true := by
 simp only [goodP, Bool.and_eq_true, List.all_eq_true] at hl ⊢
 refine ⟨h.ok', fun f hf => ?_⟩
 have := hl.2 f hf
 rw [← formed_eq, Bool.and_eq_true] at this ⊢
 exact ⟨this.1, h.wf f this.2⟩
def cutVal (n : Nat) : Val → Val
 | .obj S => .obj fun c => S c && decide (c < n)
 | v => v
def cutV (n : Nat) (V : VM) : VM := fun a p => (V a p).map (cutVal n)
theorem cut_isC {n c : Nat} (hc : c < n) (v : Val) : isC (cutVal n v) c = isC v c := by
 cases v with
 | int m => rfl
 | non => rfl
 | obj S => simp [isC, cutVal, hc]
theorem cut_valL {W : FW} {f : Fact} (hf : nodeOkB W f = true) (hl : leafP f = true) (v : Val) : valL f (cutVal (3 + W.parents.length) v) = valL f v := by
 by_cases h2 : f.op = 2
 ·rw [valL_is h2, valL_is h2]
  refine cut_isC ?_ v
  simp only [nodeOkB, Bool.and_eq_true] at hf
  have h3 := hf.2
  rw [if_pos hl, Bool.and_eq_true, leafOkP, if_pos h2] at h3
  simp only [Bool.and_eq_true, classP, decide_eq_true_eq] at h3
  omega
 ·rw [valL_no h2, valL_no h2]
  cases v <;> rfl
theorem ev_congr {W : FW} {V V' : VM} (h : ∀ f, nodeOkB W f = true → leafP f = true → evL V' f = evL V f) : ∀ f : Fact, wfB W f = true → ev V' f = ev V f := by
 refine Fact.ind1 fun f ih hf => ?_
 have hk := (wfB_iff.1 hf).2
 have hn := (wfB_iff.1 hf).1
 have hok := wf_ok f hf
 by_cases hl : leafP f = true
 ·rw [ev_leaf hl, ev_leaf hl, h f hn hl]
 by_cases h1 : f.op = 1
 ·rw [ev_true h1, ev_true h1]
 by_cases h5 : f.op = 5
 ·have := kids_one hok h5
  rw [ev_not h5 (by omega), ev_not h5 (by omega), ih _ (getD_mem (by omega)) (hk _ (getD_mem (by omega)))]
 have hlf' : leafP f = false := by simpa using hl
 have h2 := kids_two hok h1 h5 hlf'
 have h67 : f.op = 6 ∨ f.op = 7 := by
  simp only [nodeOkB, Bool.and_eq_true, decide_eq_true_eq] at hn
  simp only [leafP, Bool.and_eq_false_iff, decide_eq_false_iff_not] at hlf'
  omega
 have e0 := ih _ (getD_mem (l := f.kids) (k := 0) (by omega)) (hk _ (getD_mem (by omega)))
 have e1 := ih _ (getD_mem (l := f.kids) (k := 1) (by omega)) (hk _ (getD_mem (by omega)))
 rcases h67 with e | e
 ·rw [ev_and e (by omega), ev_and e (by omega), e0, e1]
 ·rw [ev_or e (by omega), ev_or e (by omega), e0, e1]
theorem BigW.cut_ok {W W' : FW} (h : BigW W W') {V : VM} (hV : VOk W' V) : VOk W (cutV (3 + W.parents.length) V) := by
 have hnp := h.np
 have hno := h.no
 refine ⟨fun a h0 h3 => by rw [cutV, Option.isSome_map]; exact hV.root a h0 h3, fun a p n hv => ?_, fun a p S hv => ?_, fun a p s h0 h1 => ?_⟩
 ·obtain ⟨v, h1, h2⟩ := Option.map_eq_some_iff.1 hv
  cases v with
  | int m => cases h2; exact hV.int a p _ h1
  | non => cases h2
  | obj S => cases h2
 ·obtain ⟨v, h1, h2⟩ := Option.map_eq_some_iff.1 hv
  cases v with
  | int m => cases h2
  | non => cases h2
  | obj S' =>
   cases h2
   obtain ⟨a1, a2, a3, a4⟩ := hV.obj a p S' h1
   refine ⟨by simp [a1]; omega, by simp [a2], by simp [a3], fun c hc hS b hub => ?_⟩
   simp only [Bool.and_eq_true, decide_eq_true_eq] at hS ⊢
   have hb := upB_le h.ok c c (Nat.le_refl _) hc b hub
   refine ⟨a4 c (by omega) hS.1 b ?_, by omega⟩
   rw [h.up c c (Nat.le_refl _) hc]; exact hub
 ·rw [cutV, cutV, Option.isSome_map, hV.step a p s h0 (by omega)]
  have ho := owner_rng h.ok ⟨h0, h1⟩
  rw [h.own_at ⟨h0, h1⟩]
  constructor
  ·rintro ⟨S, hS, hSo⟩
   refine ⟨_, by rw [hS]; rfl, ?_⟩
   simp only [Bool.and_eq_true, decide_eq_true_eq]
   exact ⟨hSo, by rw [ownerN]; omega⟩
  ·rintro ⟨S, hS, hSo⟩
   obtain ⟨v, h2, h3⟩ := Option.map_eq_some_iff.1 hS
   cases v with
   | int m => cases h3
   | non => cases h3
   | obj S' =>
    cases h3
    simp only [Bool.and_eq_true] at hSo
    exact ⟨S', h2, hSo.1⟩
def oldB (W : FW) (p : List Int) : Bool := p.all fun s => decide (0 ≤ s) && decide (s < W.owner.length)
def extV (W W' : FW) (V : VM) : VM := fun a p =>
 if oldB W p = true then V a p
 else match p.getLast? with
  | none => none
  | some s => if oldB W p.dropLast = true ∧ 0 ≤ s ∧ s < W'.owner.length then (match V a p.dropLast with | some (.obj S) => if (S (ownerN W' s) && decide (ownerN W' s < 3 + W.parents.length)) = true then some .non else none | _ => none) else none
theorem cut_old {W W' : FW} (h : BigW W W') {V : VM} (hV : VOk W V) : VOk W (cutV (3 + W.parents.length) V) := BigW.cut_ok ⟨h.ok, h.ok, List.prefix_refl _, List.prefix_refl _⟩ hV
theorem ext_ok {W W' : FW} (h : BigW W W') {V : VM} (hV : VOk W V) (hcut : ∀ a p S, V a p = some (.obj S) → ∀ c, S c = true → c < 3 + W.parents.length) : VOk W' (extV W W' V) := by
 have hnp := h.np
 have hno := h.no
 have old : ∀ a p, oldB W p = true → extV W W' V a p = V a p := fun a p hp => by rw [extV, if_pos hp]
 have new : ∀ a p v, oldB W p = false → extV W W' V a p = some v → v = .non := fun a p v hp hv => by
  rw [extV, if_neg (by rw [hp]; simp)] at hv
  split at hv
  ·cases hv
  ·split at hv
   ·split at hv
    ·split at hv
     ·exact (Option.some.inj hv).symm
     ·cases hv
    ·cases hv
   ·cases hv
 refine ⟨fun a h0 h3 => by rw [old a [] rfl]; exact hV.root a h0 h3, fun a p n hv => ?_, fun a p S hv => ?_, fun a p s h0 h1 => ?_⟩
 ·cases ho : oldB W p with
  | true => rw [old a p ho] at hv; exact hV.int a p n hv
  | false => cases new a p _ ho hv
 ·cases ho : oldB W p with
  | true =>
   rw [old a p ho] at hv
   obtain ⟨a1, a2, a3, a4⟩ := hV.obj a p S hv
   refine ⟨a1, a2, a3, fun c hc hS b hub => ?_⟩
   have hcl := hcut a p S hv c hS
   rw [h.up c c (Nat.le_refl _) hcl] at hub
   exact a4 c hcl hS b hub
  | false => cases new a p _ ho hv
 ·cases ho : oldB W p with
  | true =>
   rw [old a p ho]
   by_cases hs : s < W.owner.length
   ·rw [old a (p ++ [s]) (by rw [oldB, List.all_append, ← oldB, ho]; simp [h0, hs]), hV.step a p s h0 hs, h.own_at ⟨h0, hs⟩]
   ·have hn : oldB W (p ++ [s]) = false := by rw [oldB, List.all_append, ← oldB, ho]; simp; omega
    rw [extV, if_neg (by rw [hn]; simp), List.getLast?_concat, List.dropLast_concat]
    simp only []
    rw [if_pos ⟨ho, h0, h1⟩]
    cases hv : V a p with
    | none => simp
    | some v =>
     cases v with
     | int m => simp
     | non => simp
     | obj S =>
      simp only []
      constructor
      ·intro hh
       split at hh
       ·rename_i hc
        rw [Bool.and_eq_true] at hc
        exact ⟨S, rfl, hc.1⟩
       ·cases hh
      ·rintro ⟨S', e, hS⟩
       cases e
       rw [if_pos (by rw [hS, decide_eq_true (hcut a p S hv _ hS)]; rfl)]; rfl
  | false =>
   have hn : oldB W (p ++ [s]) = false := by rw [oldB, List.all_append, ← oldB, ho]; rfl
   have e1 : extV W W' V a (p ++ [s]) = none := by
    rw [extV, if_neg (by rw [hn]; simp), List.getLast?_concat, List.dropLast_concat]
    simp only []
    rw [if_neg (by rw [ho]; simp)]
   rw [e1]
   constructor
   ·intro hh; cases hh
   ·rintro ⟨S, hS, _⟩
    cases new a p _ ho hS
theorem leaf_old {W : FW} {f : Fact} (hf : nodeOkB W f = true) (hl : leafP f = true) : oldB W f.path = true := by
 simp only [nodeOkB, Bool.and_eq_true] at hf
 have h3 := hf.2
 rw [if_pos hl] at h3
 simp only [Bool.and_eq_true, argP, pathP, Bool.not_eq_true', Bool.or_eq_false_iff, Bool.not_eq_false'] at h3
 exact h3.1.2.2
theorem BigW.can {W W' : FW} (h : BigW W W') {f : Fact} (hf : wfB W f = true) : canC W' f = canC W f := by
 rw [Bool.eq_iff_iff, can_sem h.ok' (h.wf f hf), can_sem h.ok hf]
 constructor
 ·rintro ⟨V, hV, he⟩
  refine ⟨_, h.cut_ok hV, ?_⟩
  rw [← he]
  refine ev_congr (W := W) (fun f hf hl => ?_) f hf
  rw [evL, evL, cutV]
  cases V f.arg f.path with
  | none => rfl
  | some v => exact cut_valL hf hl v
 ·rintro ⟨V, hV, he⟩
  have h1 := cut_old h hV
  refine ⟨_, ext_ok h h1 (fun a p S hS c hc => ?_), ?_⟩
  ·obtain ⟨v, e1, e2⟩ := Option.map_eq_some_iff.1 hS
   cases v with
   | int m => cases e2
   | non => cases e2
   | obj S' =>
    cases e2
    simp only [Bool.and_eq_true, decide_eq_true_eq] at hc
    exact hc.2
  ·rw [← he]
   refine ev_congr (W := W) (fun f hf hl => ?_) f hf
   rw [evL, evL, extV, if_pos (leaf_old hf hl), cutV]
   cases V f.arg f.path with
   | none => rfl
   | some v => exact cut_valL hf hl v
theorem BigW.imp {W W' : FW} (h : BigW W W') {a b : Fact} (ha : wfB W a = true) (hb : wfB W b = true) : impC W' a b = impC W a b := by
 rw [impC, impC, h.can (wf_and ha (wf_not hb))]
theorem parentss_snoc {x : List Int} : ∀ (l : List (List Int)) (i : Nat), parentssP i (l ++ [x]) = (parentssP i l && parentsP (i + l.length) [] x)
 | [], i => by simp [parentssP]
 | p :: r, i => by
  rw [List.cons_append, parentssP, parentssP, parentss_snoc r, Bool.and_assoc, List.length_cons, show i + 1 + r.length = i + (r.length + 1) by omega]
theorem world_lens {W : FW} (h : worldP W = true) : W.parents.length ≤ 60 ∧ W.owner.length ≤ 40 := by
 simp only [worldP, Bool.and_eq_true, decide_eq_true_eq] at h; exact h.1.1
theorem ints_one (l : List Int) (x : Int) : AV.ints (l ++ [x]) = .sl 1 (l.map (fun n => [AV.i n]) ++ [[AV.i x]]) := congrArg _ List.map_append
open Go.ChangeShapes
section
variable {H : Type} {enc : TypeId × Value → H} {w : World} {base : Nat} {spare : Nat → Bool} {held : Bool}
end
section
variable {H : Type} {enc : TypeId × Value → H} {w : World} {v : Value} {d : DataW H} {ps : List MemPlace} {base base' : Nat} {r : Reach}
end
def zeroF : Fact := .mk 0 0 [] 0 0 []
theorem zero_le : AVleL [.i 0, .i 0, .val (.slice none 0 0), .i 0, .i 0, .val (.slice none 0 0)] (Fcells zeroF) := nilFact_le 0
theorem shape567 {W : FW} {p k : Fact} (hp : wfB W p = true) (hk : k ∈ p.kids) : (p = notF k) ∨ (∃ q, p = andF k q ∨ p = andF q k ∨ p = orF k q ∨ p = orF q k) := by
 have hn := (wfB_iff.1 hp).1
 simp only [nodeOkB, Bool.and_eq_true, decide_eq_true_eq, beq_iff_eq] at hn
 have hl : ¬ leafP p = true := by
  intro hl
  have h2 := hn.1.2
  simp only [leafP, Bool.and_eq_true, decide_eq_true_eq] at hl
  rw [kidsP, if_neg (by omega), if_neg (by omega)] at h2
  rw [List.eq_nil_of_length_eq_zero (l := p.kids) (by omega)] at hk; cases hk
 have h2 := hn.2
 rw [if_neg hl] at h2
 simp only [plainP, Bool.not_eq_true', Bool.or_eq_false_iff, decide_eq_false_iff_not, bne_eq_false_iff_eq] at h2
 have hpath : p.path = [] := List.eq_nil_of_length_eq_zero (by have := h2.1.1.2; omega)
 have hlen := hn.1.2
 rw [kidsP] at hlen
 by_cases h5 : p.op = 5
 ·rw [if_pos h5] at hlen
  obtain ⟨a, ha⟩ := List.length_eq_one_iff.1 (show p.kids.length = 1 by omega)
  rw [ha, List.mem_singleton] at hk
  subst hk
  exact .inl (Fact.ext' h5 h2.1.1.1 hpath h2.1.2 h2.2 ha)
 ·rw [if_neg h5] at hlen
  by_cases h6 : p.op = 6 ∨ p.op = 7
  ·rw [if_pos h6] at hlen
   obtain ⟨a, b, hab⟩ : ∃ a b, p.kids = [a, b] := by
    match hm : p.kids, (show p.kids.length = 2 by omega) with
    | [a, b], _ => exact ⟨a, b, rfl⟩
   have mk : ∀ op, p.op = op → p = .mk op 0 [] 0 0 [a, b] := fun op e => Fact.ext' e h2.1.1.1 hpath h2.1.2 h2.2 hab
   rw [hab] at hk
   simp only [List.mem_cons, List.not_mem_nil, or_false] at hk
   right
   rcases hk with rfl | rfl
   ·refine ⟨b, ?_⟩
    rcases h6 with e | e
    ·exact .inl (mk 6 e)
    ·exact .inr (.inr (.inl (mk 7 e)))
   ·refine ⟨a, ?_⟩
    rcases h6 with e | e
    ·exact .inr (.inl (mk 6 e))
    ·exact .inr (.inr (.inr (mk 7 e)))
  ·rw [if_neg h6] at hlen
   rw [List.eq_nil_of_length_eq_zero (l := p.kids) (by omega)] at hk; cases hk
structure ShortOk (W : FW) (f g : Fact) : Prop where
 good : goodP W [g] = true
 le : nodesN g ≤ 12
 same : (okImp W (g, f) && okImp W (f, g)) = true
 again : shortF2 W g = g
 cant : canC W f = false → g = noF
 less : canC W f = true → nodesN g ≤ nodesN f
theorem kids_two2 {W : FW} {f : Fact} (h : wfB W f = true) : f.kids.length ≤ 2 := by
 have hn := (wfB_iff.1 h).1
 simp only [nodeOkB, Bool.and_eq_true, decide_eq_true_eq, beq_iff_eq] at hn
 have := hn.1.2
 unfold kidsP at this
 split at this <;> (try split at this) <;> omega
theorem LsOk.pick {W : FW} {c : List FLit} (h : LsOk W c) {ns : List Int} (hr : ∀ n ∈ ns, 0 ≤ n ∧ n < c.length) : LsOk W (pickL c ns) := by
 have hm : ∀ l ∈ pickL c ns, l ∈ c := fun l hl => by
  obtain ⟨n, hn, rfl⟩ := List.mem_map.1 hl
  have := hr n hn
  exact getD_mem (by omega)
 exact ⟨h.w, fun l hl => h.ok l (hm l hl), fun l hl => h.cls l (hm l hl)⟩
structure CsOk (W : FW) (cs : List (List FLit)) : Prop where
 ls : ∀ c ∈ cs, LsOk W c
 len : ∀ c ∈ cs, c.length ≤ 300
 cO : ∀ c ∈ cs, CaseOk W c
abbrev AV.vl (v : Int × Int) : AV := .agg [AV.i v.1, AV.i v.2]
abbrev AV.thing (o : Int × List (Int × Int)) : AV := .agg [AV.i o.1, AV.vals o.2]
theorem b223 {B : Nat} {f : Fn} {fs cs : List AV} {F : List Ent → Prop} {J Jx : List (Int × Int) → List Ent → Prop} (l : List (Int × Int)) (hg : FindOk B Tryz.prog (.fn f fs cs) AV.vl l F J Jx) (H Hx : List Ent) (hF : F Hx) (hJ : J [] H) :
  BCall B Tryz.prog 223 [.sl 2 (l.map fun v => [AV.i v.1, AV.i v.2]), .fn f fs cs] (H ++ Hx) (FoundAt J Jx l Hx) (fun _ => False) := by
 refine BCall.of (n := 19) Tryz.func223 rfl (by kernel_rfl) rfl rfl (fun I w0 => ?_)
 refine CW.boundM (t := 0) rfl (fun hb0 => ?_)
 refine S2 ?_; refine Oas ?_; refine S5 ?_; refine Omv ?_; refine Oln ?_; refine Omv ?_; refine S3 ?_
 refine lj (fun m st => ∃ (k : Nat) (H1 : List Ent), st = ⟨[(8, .i k), (7, .i l.length), (0, .sl 2 (l.map fun v => [AV.i v.1, AV.i v.2])), (1, .fn f fs cs)], H1 ++ Hx⟩ ∧ m = l.length - k ∧ k ≤ l.length ∧ J (l.take k) H1) (⟨0, H, rfl, rfl, by simp, hJ⟩) ?_
 rintro m _ ⟨k, H1, rfl, rfl, hk, hJ1⟩
 refine S2 ?_; refine Ocm ?_; refine S3 ?_
 refine CW.cond rfl (fun h0 => ?_) (fun h0 => ?_)
 ·
  replace h0 := nm h0
  refine S6 ?_; refine Omv ?_; refine Oas ?_; refine S4 ?_; refine Omv ?_; refine Omv ?_; refine Omv ?_; refine Oix ?_; refine Ola ?_
  refine OL.vcallC rfl rfl rfl rfl rfl rfl rfl rfl (AVleL.refl _) (hg (l.take k) (l.getD k default) H1 Hx (by rw [take_getD (by omega)]; exact List.take_prefix _ _) hF hJ1) ?_
  rintro _ _ ⟨b, H2, rfl, rfl, hb1, hb2⟩
  rw [take_getD (by omega)] at hb1 hb2
  refine S2 ?_
  refine CW.cond rfl (fun h1 => ?_) (fun h1 => ?_)
  ·
   replace h1 := nm h1
   refine S2 ?_; refine Omv ?_; refine Oas ?_; refine S8 ?_
   refine Done.retR (rs := [.tmp 4]) rfl (.tmp rfl (.nil)) (AVleL.refl _) (by repeat (first | exact List.Sublist.refl _ | refine List.Sublist.cons _ ?_)) ?_
   exact ⟨H2, rfl, .inr ⟨l.take k, l.getD k default, l.drop (k + 1), split_getD (by omega), retI (by rw [List.length_take, Nat.min_eq_left (by omega)]), by rw [take_getD (by omega)]; exact hb2 h1⟩⟩
  ·
   replace h1 := nm h1
   refine S4 ?_; refine Oar ?_; refine Omv ?_; refine S1 ?_
   exact ag (⟨k + 1, H2, rfl, rfl, by omega, hb1 h1⟩)
 ·
  replace h0 := nm h0
  refine S7 ?_; refine Oas ?_; refine S3 ?_
  refine Done.retR (rs := [.tmp 4]) rfl (.tmp rfl (.nil)) (AVleL.refl _) (by repeat (first | exact List.Sublist.refl _ | refine List.Sublist.cons _ ?_)) ?_
  exact ⟨H1, rfl, .inl ⟨rfl, by have e : k = l.length := (by omega); rw [e, List.take_length] at hJ1; exact hJ1⟩⟩
theorem q223 {Hm : List Ent} {f : Fn} {fs cs : List AV} {p : (Int × Int) → Bool} {l : List (Int × Int)} (hg : PredOn Tryz.prog Hm (.fn f fs cs) AV.vl l p) : QCallIn Tryz.prog Hm 223 [.sl 2 (l.map fun v => [AV.i v.1, AV.i v.2]), .fn f fs cs] (fun y => ∃ n : Int, y = .i n ∧ decide (n ≥ 0) = l.any p) :=
 find_pure (by kernel_rfl) (fun B F J Jx h H Hx hF hJ => b223 l h H Hx hF hJ) hg
theorem pi207 {Hm : List Ent} {f : Fn} {fs cs : List AV} {p : (Int × Int) → Bool} {l : List (Int × Int)} (hg : PredOn Tryz.prog Hm (.fn f fs cs) AV.vl l p) : PCallIn Tryz.prog Hm 207 [.sl 2 (l.map fun v => [AV.i v.1, AV.i v.2]), .fn f fs cs] (.b (l.any p)) := by
 intro H hm
 refine ACall.mk' (n := 9) Tryz.func207 rfl (by kernel_rfl) rfl rfl (fun B I w0 => ?_)
 refine S2 ?_; refine Oas ?_; refine S4 ?_; refine Omv ?_; refine Omv ?_
 refine OL.qcallIn rfl rfl rfl (.mk' rfl rfl rfl rfl rfl) (q223 hg) hm (fun y hy => ?_)
 obtain ⟨n, rfl, hn⟩ := hy
 refine Ocm ?_; refine Oas ?_; refine S3 ?_
 refine r1 4 (H) ?_
 exact ⟨retB hn, rfl⟩
theorem pi208 {Hm : List Ent} {f : Fn} {fs cs : List AV} {p : (Int × Int) → Bool} {l : List (Int × Int)} (hg : PredOn Tryz.prog Hm (.fn f fs cs) AV.vl l p) (x : (Int × Int)) (hx : x ∈ l) : PCallIn Tryz.prog Hm 208 [AV.vl x, .ptr [.fn f fs cs]] (.b (!p x)) := by
 intro H hm
 refine ACall.mk' (n := 8) Tryz.func208 rfl (by kernel_rfl) rfl rfl (fun B I w0 => ?_)
 refine S2 ?_; refine Obx ?_; refine Oas ?_; refine S4 ?_; refine Old ?_; refine Ola ?_
 refine OL.vcallC rfl rfl rfl rfl rfl rfl rfl rfl (AVleL.refl _) (hg x hx B H hm) ?_
 rintro _ Hn ⟨rfl, hH⟩
 have hH := hH.symm
 subst hH
 refine Ont ?_; refine Oas ?_; refine S3 ?_
 refine r1 3 (H) ?_
 exact ⟨by first | rfl | exact retI (by simp_all) | exact retB (by simp_all) | simp_all, rfl⟩
theorem pi174 {Hm : List Ent} {f : Fn} {fs cs : List AV} {p : (Int × Int) → Bool} {l : List (Int × Int)} (hg : PredOn Tryz.prog Hm (.fn f fs cs) AV.vl l p) : PCallIn Tryz.prog Hm 174 [.sl 2 (l.map fun v => [AV.i v.1, AV.i v.2]), .fn f fs cs] (.b (l.all p)) := by
 intro H hm
 refine ACall.mk' (n := 9) Tryz.func174 rfl (by kernel_rfl) rfl rfl (fun B I w0 => ?_)
 refine S2 ?_; refine Obx ?_; refine Oas ?_; refine S4 ?_; refine Omv ?_; refine Omf ?_
 refine OL.popC rfl rfl rfl (POp.callIn (.mk' rfl rfl rfl rfl rfl) (AVleL.refl _) (pi207 (.of (fun x hx => pi208 hg x hx))) (fun e he => by repeat (first | exact hm e he | apply List.mem_cons_of_mem))) ?_
 refine Ont ?_; refine Oas ?_; refine S3 ?_
 refine r1 4 (H) ?_
 exact ⟨retB (by simp [List.not_any_eq_all_not]), rfl⟩
theorem p174 {f : Fn} {fs cs : List AV} {p : (Int × Int) → Bool} (hg : PredOk Tryz.prog (.fn f fs cs) AV.vl p) (l : List (Int × Int)) : PCall Tryz.prog 174 [.sl 2 (l.map fun v => [AV.i v.1, AV.i v.2]), .fn f fs cs] (.b (l.all p)) := (pi174 (hg.on l)).pure
theorem b226 {B : Nat} {f : Fn} {fs cs : List AV} {F : List Ent → Prop} {J Jx : List (Int × List (Int × Int)) → List Ent → Prop} (l : List (Int × List (Int × Int))) (hg : FindOk B Tryz.prog (.fn f fs cs) AV.thing l F J Jx) (H Hx : List Ent) (hF : F Hx) (hJ : J [] H) :
  BCall B Tryz.prog 226 [.sl 2 (l.map fun o => [AV.i o.1, AV.vals o.2]), .fn f fs cs] (H ++ Hx) (FoundAt J Jx l Hx) (fun _ => False) := by
 refine BCall.of (n := 19) Tryz.func226 rfl (by kernel_rfl) rfl rfl (fun I w0 => ?_)
 refine CW.boundM (t := 0) rfl (fun hb0 => ?_)
 refine S2 ?_; refine Oas ?_; refine S5 ?_; refine Omv ?_; refine Oln ?_; refine Omv ?_; refine S3 ?_
 refine lj (fun m st => ∃ (k : Nat) (H1 : List Ent), st = ⟨[(8, .i k), (7, .i l.length), (0, .sl 2 (l.map fun o => [AV.i o.1, AV.vals o.2])), (1, .fn f fs cs)], H1 ++ Hx⟩ ∧ m = l.length - k ∧ k ≤ l.length ∧ J (l.take k) H1) (⟨0, H, rfl, rfl, by simp, hJ⟩) ?_
 rintro m _ ⟨k, H1, rfl, rfl, hk, hJ1⟩
 refine S2 ?_; refine Ocm ?_; refine S3 ?_
 refine CW.cond rfl (fun h0 => ?_) (fun h0 => ?_)
 ·
  replace h0 := nm h0
  refine S6 ?_; refine Omv ?_; refine Oas ?_; refine S4 ?_; refine Omv ?_; refine Omv ?_; refine Omv ?_; refine Oix ?_; refine Ola ?_
  refine OL.vcallC rfl rfl rfl rfl rfl rfl rfl rfl (AVleL.refl _) (hg (l.take k) (l.getD k default) H1 Hx (by rw [take_getD (by omega)]; exact List.take_prefix _ _) hF hJ1) ?_
  rintro _ _ ⟨b, H2, rfl, rfl, hb1, hb2⟩
  rw [take_getD (by omega)] at hb1 hb2
  refine S2 ?_
  refine CW.cond rfl (fun h1 => ?_) (fun h1 => ?_)
  ·
   replace h1 := nm h1
   refine S2 ?_; refine Omv ?_; refine Oas ?_; refine S8 ?_
   refine Done.retR (rs := [.tmp 4]) rfl (.tmp rfl (.nil)) (AVleL.refl _) (by repeat (first | exact List.Sublist.refl _ | refine List.Sublist.cons _ ?_)) ?_
   exact ⟨H2, rfl, .inr ⟨l.take k, l.getD k default, l.drop (k + 1), split_getD (by omega), retI (by rw [List.length_take, Nat.min_eq_left (by omega)]), by rw [take_getD (by omega)]; exact hb2 h1⟩⟩
  ·
   replace h1 := nm h1
   refine S4 ?_; refine Oar ?_; refine Omv ?_; refine S1 ?_
   exact ag (⟨k + 1, H2, rfl, rfl, by omega, hb1 h1⟩)
 ·
  replace h0 := nm h0
  refine S7 ?_; refine Oas ?_; refine S3 ?_
  refine Done.retR (rs := [.tmp 4]) rfl (.tmp rfl (.nil)) (AVleL.refl _) (by repeat (first | exact List.Sublist.refl _ | refine List.Sublist.cons _ ?_)) ?_
  exact ⟨H1, rfl, .inl ⟨rfl, by have e : k = l.length := (by omega); rw [e, List.take_length] at hJ1; exact hJ1⟩⟩
theorem q226 {Hm : List Ent} {f : Fn} {fs cs : List AV} {p : (Int × List (Int × Int)) → Bool} {l : List (Int × List (Int × Int))} (hg : PredOn Tryz.prog Hm (.fn f fs cs) AV.thing l p) : QCallIn Tryz.prog Hm 226 [.sl 2 (l.map fun o => [AV.i o.1, AV.vals o.2]), .fn f fs cs] (fun y => ∃ n : Int, y = .i n ∧ decide (n ≥ 0) = l.any p) :=
 find_pure (by kernel_rfl) (fun B F J Jx h H Hx hF hJ => b226 l h H Hx hF hJ) hg
theorem pi221 {Hm : List Ent} {f : Fn} {fs cs : List AV} {p : (Int × List (Int × Int)) → Bool} {l : List (Int × List (Int × Int))} (hg : PredOn Tryz.prog Hm (.fn f fs cs) AV.thing l p) : PCallIn Tryz.prog Hm 221 [.sl 2 (l.map fun o => [AV.i o.1, AV.vals o.2]), .fn f fs cs] (.b (l.any p)) := by
 intro H hm
 refine ACall.mk' (n := 9) Tryz.func221 rfl (by kernel_rfl) rfl rfl (fun B I w0 => ?_)
 refine S2 ?_; refine Oas ?_; refine S4 ?_; refine Omv ?_; refine Omv ?_
 refine OL.qcallIn rfl rfl rfl (.mk' rfl rfl rfl rfl rfl) (q226 hg) hm (fun y hy => ?_)
 obtain ⟨n, rfl, hn⟩ := hy
 refine Ocm ?_; refine Oas ?_; refine S3 ?_
 refine r1 4 (H) ?_
 exact ⟨retB hn, rfl⟩
theorem pi222 {Hm : List Ent} {f : Fn} {fs cs : List AV} {p : (Int × List (Int × Int)) → Bool} {l : List (Int × List (Int × Int))} (hg : PredOn Tryz.prog Hm (.fn f fs cs) AV.thing l p) (x : (Int × List (Int × Int))) (hx : x ∈ l) : PCallIn Tryz.prog Hm 222 [AV.thing x, .ptr [.fn f fs cs]] (.b (!p x)) := by
 intro H hm
 refine ACall.mk' (n := 8) Tryz.func222 rfl (by kernel_rfl) rfl rfl (fun B I w0 => ?_)
 refine S2 ?_; refine Obx ?_; refine Oas ?_; refine S4 ?_; refine Old ?_; refine Ola ?_
 refine OL.vcallC rfl rfl rfl rfl rfl rfl rfl rfl (AVleL.refl _) (hg x hx B H hm) ?_
 rintro _ Hn ⟨rfl, hH⟩
 have hH := hH.symm
 subst hH
 refine Ont ?_; refine Oas ?_; refine S3 ?_
 refine r1 3 (H) ?_
 exact ⟨by first | rfl | exact retI (by simp_all) | exact retB (by simp_all) | simp_all, rfl⟩
theorem pi204 {Hm : List Ent} {f : Fn} {fs cs : List AV} {p : (Int × List (Int × Int)) → Bool} {l : List (Int × List (Int × Int))} (hg : PredOn Tryz.prog Hm (.fn f fs cs) AV.thing l p) : PCallIn Tryz.prog Hm 204 [.sl 2 (l.map fun o => [AV.i o.1, AV.vals o.2]), .fn f fs cs] (.b (l.all p)) := by
 intro H hm
 refine ACall.mk' (n := 9) Tryz.func204 rfl (by kernel_rfl) rfl rfl (fun B I w0 => ?_)
 refine S2 ?_; refine Obx ?_; refine Oas ?_; refine S4 ?_; refine Omv ?_; refine Omf ?_
 refine OL.popC rfl rfl rfl (POp.callIn (.mk' rfl rfl rfl rfl rfl) (AVleL.refl _) (pi221 (.of (fun x hx => pi222 hg x hx))) (fun e he => by repeat (first | exact hm e he | apply List.mem_cons_of_mem))) ?_
 refine Ont ?_; refine Oas ?_; refine S3 ?_
 refine r1 4 (H) ?_
 exact ⟨retB (by simp [List.not_any_eq_all_not]), rfl⟩
theorem p204 {f : Fn} {fs cs : List AV} {p : (Int × List (Int × Int)) → Bool} (hg : PredOk Tryz.prog (.fn f fs cs) AV.thing p) (l : List (Int × List (Int × Int))) : PCall Tryz.prog 204 [.sl 2 (l.map fun o => [AV.i o.1, AV.vals o.2]), .fn f fs cs] (.b (l.all p)) := (pi204 (hg.on l)).pure
def valP (v : Int × Int) (m : Int) : Bool := if v.1 = 1 then decide (v.2 ≥ -1000000000) && decide (v.2 ≤ 1000000000) else if v.1 = 2 then v.2 == 0 else v.1 == 3 && decide (v.2 ≥ 0) && decide (v.2 < m)
def hasP (W : FW) (c s : Int) : Bool := belowP W c (W.owner.getD s.toNat default)
def slotsOf (W : FW) (c : Int) : List Int := (numL W.owner.length).filter (hasP W c)
def thingP (W : FW) (m : Int) (o : Int × List (Int × Int)) : Bool := ownP W o.1 && ((o.2.length : Int) == ((slotsOf W o.1).length : Int)) && o.2.all (valP · m)
def thingsP (W : FW) (objs : List (Int × List (Int × Int))) : Bool := decide ((objs.length : Int) ≤ 40) && objs.all (thingP W objs.length)
def argsP (args : List (Int × Int)) (m : Int) : Bool := decide ((args.length : Int) ≥ 1) && decide ((args.length : Int) ≤ 3) && args.all (valP · m)
def handedP (W : FW) (objs : List (Int × List (Int × Int))) (args : List (Int × Int)) : Bool := thingsP W objs && argsP args objs.length
theorem p176 (v : Int × Int) (m : Int) : PCall Tryz.prog 176 [AV.vl v, .i m] (.b (valP v m)) := by
 intro H
 refine ACall.mk' (n := 36) Tryz.func176 rfl (by kernel_rfl) rfl rfl (fun B I w0 => ?_)
 refine S2 ?_; refine Obx ?_; refine Oas ?_; refine S5 ?_; refine Ofa ?_; refine Old ?_; refine S5 ?_; refine Ocm ?_; refine Oas ?_; refine S2 ?_
 refine CW.cond rfl (fun h0 => ?_) (fun h0 => ?_)
 ·
  replace h0 := nm h0
  refine S2 ?_; refine Ofa ?_; refine Old ?_; refine Ocm ?_; refine Omv ?_; refine Pfa ?_; refine Pld ?_; refine Pcm ?_; refine Opk ?_; refine Oas ?_; refine S5 ?_
  refine r1 4 (H) ?_
  exact ⟨retB (by simp only [valP]; rw [if_pos h0]; simp), rfl⟩
 ·
  replace h0 := nm h0
  refine S2 ?_; refine Ocm ?_; refine Oas ?_; refine S2 ?_
  refine CW.cond rfl (fun h1 => ?_) (fun h1 => ?_)
  ·
   replace h1 := nm h1
   refine S2 ?_; refine Ofa ?_; refine Old ?_; refine Ocm ?_; refine Oas ?_; refine S5 ?_
   refine r1 4 (H) ?_
   exact ⟨retB (by simp only [valP]; rw [if_neg h0, if_pos h1]), rfl⟩
  ·
   replace h1 := nm h1
   refine S5 ?_; refine Ofa ?_; refine Old ?_; refine Ocm ?_; refine Omv ?_; refine Pfa ?_; refine Pld ?_; refine Pcm ?_; refine Opk ?_; refine Omv ?_; refine Pfa ?_; refine Pld ?_
   refine Pmv ?_; refine Pcm ?_; refine Opk ?_; refine Oas ?_; refine S3 ?_
   refine r1 4 (H) ?_
   exact ⟨retB (by simp only [valP]; rw [if_neg h0, if_neg h1]; simp [Bool.and_assoc]), rfl⟩
theorem p172 (v : Int × Int) (m : Int) : PCall Tryz.prog 172 [AV.vl v, .i m] (.b (valP v m)) := by
 intro H
 refine ACall.mk' (n := 33) Tryz.func172 rfl (by kernel_rfl) rfl rfl (fun B I w0 => ?_)
 refine S2 ?_; refine Obx ?_; refine Oas ?_; refine S5 ?_; refine Ofa ?_; refine Old ?_; refine S5 ?_; refine Ocm ?_; refine Oas ?_; refine S2 ?_
 refine CW.cond rfl (fun h0 => ?_) (fun h0 => ?_)
 ·
  replace h0 := nm h0
  refine S2 ?_; refine Ofa ?_; refine Old ?_; refine Ocm ?_; refine Omv ?_; refine Pfa ?_; refine Pld ?_; refine Pcm ?_; refine Opk ?_; refine Oas ?_; refine S5 ?_
  refine r1 4 (H) ?_
  exact ⟨retB (by simp only [valP]; rw [if_pos h0]; simp), rfl⟩
 ·
  replace h0 := nm h0
  refine S2 ?_; refine Ocm ?_; refine Oas ?_; refine S2 ?_
  refine CW.cond rfl (fun h1 => ?_) (fun h1 => ?_)
  ·
   replace h1 := nm h1
   refine S2 ?_; refine Ofa ?_; refine Old ?_; refine Ocm ?_; refine Oas ?_; refine S5 ?_
   refine r1 4 (H) ?_
   exact ⟨retB (by simp only [valP]; rw [if_neg h0, if_pos h1]), rfl⟩
  ·
   replace h1 := nm h1
   refine S2 ?_; refine Ocm ?_; refine Oas ?_; refine S2 ?_
   refine CW.cond rfl (fun h2 => ?_) (fun h2 => ?_)
   ·
    replace h2 := nm h2
    refine S2 ?_; refine Ofa ?_; refine Old ?_; refine Ocm ?_; refine Omv ?_; refine Pfa ?_; refine Pld ?_; refine Pmv ?_; refine Pcm ?_; refine Opk ?_; refine Oas ?_; refine S5 ?_
    refine r1 4 (H) ?_
    exact ⟨retB (by simp only [valP]; rw [if_neg h0, if_neg h1, h2]; simp), rfl⟩
   ·
    replace h2 := nm h2
    refine S5 ?_; refine Oas ?_; refine S3 ?_
    refine r1 4 (H) ?_
    exact ⟨retB (by simp only [valP]; rw [if_neg h0, if_neg h1, beq_eq_false_iff_ne.2 h2]; rfl), rfl⟩
theorem p175 (objs : List (Int × List (Int × Int))) (v : Int × Int) : PCall Tryz.prog 175 [AV.vl v, .ptr [AV.things objs]] (.b (valP v objs.length)) := by
 intro H
 refine ACall.mk' (n := 8) Tryz.func175 rfl (by kernel_rfl) rfl rfl (fun B I w0 => ?_)
 refine S2 ?_; refine Obx ?_; refine Oas ?_; refine S4 ?_; refine Ola ?_; refine Old ?_; refine Oln ?_
 refine OL.popC rfl rfl rfl (POp.call (.mk' rfl rfl rfl rfl rfl) (p176 v _)) ?_
 refine Oas ?_; refine S3 ?_
 refine r1 3 (H) ?_
 exact ⟨by first | rfl | exact retI (by simp_all) | exact retB (by simp_all) | simp_all, rfl⟩
theorem p206 (objs : List (Int × List (Int × Int))) (v : Int × Int) : PCall Tryz.prog 206 [AV.vl v, .ptr [AV.things objs]] (.b (valP v objs.length)) := by
 intro H
 refine ACall.mk' (n := 8) Tryz.func206 rfl (by kernel_rfl) rfl rfl (fun B I w0 => ?_)
 refine S2 ?_; refine Obx ?_; refine Oas ?_; refine S4 ?_; refine Ola ?_; refine Old ?_; refine Oln ?_
 refine OL.popC rfl rfl rfl (POp.call (.mk' rfl rfl rfl rfl rfl) (p176 v _)) ?_
 refine Oas ?_; refine S3 ?_
 refine r1 3 (H) ?_
 exact ⟨by first | rfl | exact retI (by simp_all) | exact retB (by simp_all) | simp_all, rfl⟩
theorem p178 {W : FW} (h : worldP W = true) {c s : Int} (hc : 0 ≤ c ∧ c < 3 + W.parents.length) (hs : 0 ≤ s ∧ s < W.owner.length) : PCall Tryz.prog 178 [Wptr W, .i c, .i s] (.b (hasP W c s)) := by
 intro H
 refine ACall.mk' (n := 22) Tryz.func178 rfl (by kernel_rfl) rfl rfl (fun B I w0 => ?_)
 have hP := world_len h
 have ho := owner_rng h hs
 refine S2 ?_; refine Oas ?_; refine S3 ?_
 refine CW.dp mixed ?_
 refine DP.anyC 0 14 22 rfl (by decide +kernel) rfl rfl (by decide +kernel) ?_
 refine Amv ?_; refine Amv ?_; refine Anc ?_; refine Afa ?_; refine Aia ?_
 refine AD.popC rfl rfl rfl (POp.ld1 rfl rfl rfl (up_drop (c := c.toNat) (by simp) (by rw [ups_len]; omega))) ?_
 refine Amv ?_; refine Anc ?_; refine Afa ?_; refine Afa ?_; refine Ald ?_; refine Amv ?_; refine Aix ?_; refine Ald ?_
 refine AD.nil ?_
 refine DP.tailC 14 (by decide +kernel) rfl ?_
 refine OL.popC rfl rfl rfl (POp.call (.mk' rfl rfl rfl rfl rfl) (p107 _ _ (by omega) (u_get (ups_lt hP) _))) ?_
 refine Oas ?_; refine S3 ?_
 refine r1 6 (H) ?_
 exact ⟨by rfl, rfl⟩
theorem p179 {W : FW} (h : worldP W = true) {c : Int} (hc : 0 ≤ c ∧ c < 3 + W.parents.length) : PCall Tryz.prog 179 [Wptr W, .i c] (AV.ints (slotsOf W c)) := by
 intro H
 refine ACall.mk' (n := 26) Tryz.func179 rfl (by kernel_rfl) rfl rfl (fun B I w0 => ?_)
 have hP := world_lens h
 refine S2 ?_; refine Oas ?_; refine S4 ?_; refine Oas ?_; refine S4 ?_
 refine CW.ownNil 5 3 1 rfl ?_
 refine S1 ?_; refine Omv ?_; refine Onc ?_; refine Ofa ?_; refine Ofa ?_; refine Old ?_; refine Oln ?_; refine Omv ?_; refine S3 ?_
 refine lj (fun m st => ∃ (k : Nat) (v : Value), st = ⟨[(13, .i k), (12, .i W.owner.length), (5, .as (AV.ints ((numL k).filter (hasP W c))) v), (0, Wptr W), (1, .i c)], .own 3 1 v :: H⟩ ∧ m = W.owner.length - k ∧ k ≤ W.owner.length) (⟨0, _, rfl, rfl, by omega⟩) ?_
 rintro m _ ⟨k, v, rfl, rfl, hk⟩
 refine S2 ?_; refine Ocm ?_; refine S3 ?_
 refine CW.cond rfl (fun h0 => ?_) (fun h0 => ?_)
 ·
  replace h0 := nm h0
  have hkl : k < W.owner.length := by omega
  have hfl : ((numL k).filter (hasP W c)).length ≤ 40 := Nat.le_trans (List.length_filter_le _ _) (by rw [num_len]; omega)
  refine S6 ?_; refine Omv ?_; refine Oas ?_; refine S4 ?_; refine Omv ?_; refine Omv ?_; refine Omv ?_
  refine OL.popC rfl rfl rfl (POp.call (.mk' rfl rfl rfl rfl rfl) (p178 h hc (by omega))) ?_
  refine S2 ?_
  refine CW.cond rfl (fun h1 => ?_) (fun h1 => ?_)
  ·
   have e : ((numL (k + 1)).filter (hasP W c)) = ((numL k).filter (hasP W c)) ++ [(k : Int)] := by rw [num_succ, List.filter_append]; simp [h1]
   refine S1 ?_; refine Omv ?_; refine Omv ?_
   refine OL.popC rfl rfl rfl (POp.row rfl rfl (by first | rfl | simp_all [strip]) rfl rfl rfl rfl rfl rfl) ?_
   refine OL.appendC rfl rfl rfl rfl rfl rfl rfl rfl (AVle.refl _) (rfl) (fun v => by repeat (first | exact Upd.head _ _ _ | apply Upd.tail)) (by simp only [partsOf, List.zip, List.zipWith, List.map, List.length_map, List.length_cons, List.length_nil]; omega) (by simp only [partsOf, List.zip, List.zipWith, List.map, List.length_map, List.length_cons, List.length_nil]; omega) (fun v23 => ?_)
   refine Oas ?_; refine S3 ?_
   refine CW.le 5 (y := .as (AV.ints ((numL (k + 1)).filter (hasP W c))) v23) rfl (by rw [e, ints_one]; exact AVle.refl _) ?_
   refine S1 ?_; refine Oar ?_; refine Omv ?_; refine S1 ?_
   exact ag (⟨k + 1, v23, rfl, rfl, by omega⟩)
  ·
   have e : ((numL (k + 1)).filter (hasP W c)) = ((numL k).filter (hasP W c)) := by rw [num_succ, List.filter_append]; simp [h1]
   refine S3 ?_
   rw [← e]
   refine S1 ?_; refine Oar ?_; refine Omv ?_; refine S1 ?_
   exact ag (⟨k + 1, v, rfl, rfl, by omega⟩)
 ·
  replace h0 := nm h0
  obtain rfl : k = W.owner.length := by omega
  refine S7 ?_; refine Omv ?_; refine Oas ?_; refine S3 ?_
  refine Done.retR (rs := [.tmp 4]) (H' := H) rfl (.tmp rfl (.nil)) (.cons (AVle.asL _ _) .nil) (by repeat (first | exact List.Sublist.refl _ | refine List.Sublist.cons _ ?_)) ?_
  exact ⟨by rfl, rfl⟩
theorem own_rng {W : FW} {c : Int} (h : ownP W c = true) : 3 ≤ c ∧ c < 3 + W.parents.length := by
 simpa [ownP] using h
theorem own_rng0 {W : FW} {c : Int} (h : ownP W c = true) : 0 ≤ c ∧ c < 3 + W.parents.length := by
 have := own_rng h; omega
theorem p205 {W : FW} (h : worldP W = true) (objs : List (Int × List (Int × Int))) (o : Int × List (Int × Int)) : PCall Tryz.prog 205 [AV.thing o, .ptr [Wptr W], .ptr [AV.things objs]] (.b (thingP W objs.length o)) := by
 intro H
 refine ACall.mk' (n := 26) Tryz.func205 rfl (by kernel_rfl) rfl rfl (fun B I w0 => ?_)
 have hP := world_len h
 refine S2 ?_; refine Obx ?_; refine Oas ?_; refine S3 ?_
 refine CW.dp mixed ?_
 refine DP.anyC 0 3 26 rfl (by decide +kernel) rfl rfl (by decide +kernel) ?_
 refine Ald ?_; refine Afa ?_; refine Ald ?_
 refine AD.nil ?_
 refine DP.one (k := 3) (by decide +kernel) rfl ?_
 refine OL.popC rfl rfl rfl (POp.call (.mk' rfl rfl rfl rfl rfl) (p153 W o.1 hP)) ?_
 refine OL.nil (Done.dp ?_)
 refine DP.one (k := 4) (by decide +kernel) rfl ?_
 refine Omv ?_
 refine OL.nil (Done.dp ?_)
 refine DP.anyC 5 13 26 rfl (by decide +kernel) rfl rfl (by decide +kernel) ?_
 refine AD.guardC rfl rfl rfl rfl rfl (fun hg => (by first | exact POp.fa rfl rfl rfl rfl | exact POp.faP rfl rfl rfl rfl)) ?_
 refine AD.guardC rfl rfl rfl rfl rfl (fun hg => (by first | exact POp.ld1 rfl rfl (gd hg) rfl | (apply POp.ld1H rfl rfl (gd hg); (case hm => repeat (first | exact .head _ | refine .tail _ ?_)); (case hy => rfl)))) ?_
 refine AD.guardC rfl rfl rfl rfl rfl (fun hg => (by first | exact POp.lenM rfl rfl (gd hg) | exact POp.lenA rfl rfl (gd hg) | exact POp.lenV rfl rfl (gd hg) | exact POp.len' rfl rfl (gd hg))) ?_
 refine AD.guardC rfl rfl rfl rfl rfl (fun hg => (by first | exact POp.ld1 rfl rfl rfl rfl | (apply POp.ld1H rfl rfl rfl; (case hm => repeat (first | exact .head _ | refine .tail _ ?_)); (case hy => rfl)))) ?_
 refine AD.guardC rfl rfl rfl rfl rfl (fun hg => (by first | exact POp.fa rfl rfl rfl rfl | exact POp.faP rfl rfl rfl rfl)) ?_
 refine AD.guardC rfl rfl rfl rfl rfl (fun hg => (by first | exact POp.ld1 rfl rfl (gd hg) rfl | (apply POp.ld1H rfl rfl (gd hg); (case hm => repeat (first | exact .head _ | refine .tail _ ?_)); (case hy => rfl)))) ?_
 refine AD.guardC rfl rfl rfl rfl rfl (fun hg => POp.call (.mk' rfl rfl rfl rfl (by first | rfl | ((repeat (first | exact hg | rfl | refine Bool.and_eq_true_iff.2 ⟨?_, ?_⟩)); done) | simp_all [strip, constAV])) (p179 h (own_rng0 hg))) ?_
 refine AD.guardC rfl rfl rfl rfl rfl (fun hg => (by first | exact POp.lenM rfl rfl (gd hg) | exact POp.lenA rfl rfl (gd hg) | exact POp.lenV rfl rfl (gd hg) | exact POp.len' rfl rfl (gd hg))) ?_
 refine AD.nil ?_
 refine DP.one (k := 13) (by decide +kernel) rfl ?_
 refine Pcm ?_
 refine OL.nil (Done.dp ?_)
 refine DP.one (k := 14) (by decide +kernel) rfl ?_
 refine Opk ?_
 refine OL.nil (Done.dp ?_)
 refine DP.one (k := 15) (by decide +kernel) rfl ?_
 refine Omv ?_
 refine OL.nil (Done.dp ?_)
 refine DP.anyC 16 19 26 rfl (by decide +kernel) rfl rfl (by decide +kernel) ?_
 refine AD.guardC rfl rfl rfl rfl rfl (fun hg => (by first | exact POp.fa rfl rfl rfl rfl | exact POp.faP rfl rfl rfl rfl)) ?_
 refine AD.guardC rfl rfl rfl rfl rfl (fun hg => (by first | exact POp.ld1 rfl rfl (gd hg) rfl | (apply POp.ld1H rfl rfl (gd hg); (case hm => repeat (first | exact .head _ | refine .tail _ ?_)); (case hy => rfl)))) ?_
 refine AD.guardC rfl rfl rfl rfl rfl (fun hg => POp.makeFunc rfl rfl rfl (by first | rfl | simp_all [strip]) (by first | rfl | simp_all [strip])) ?_
 refine AD.nil ?_
 refine DP.tailC 19 (by decide +kernel) rfl ?_
 refine OL.guardC rfl rfl rfl rfl rfl rfl (fun hg => POp.call (.mk' rfl rfl rfl rfl (by first | rfl | ((repeat (first | exact hg | rfl | refine Bool.and_eq_true_iff.2 ⟨?_, ?_⟩)); done) | simp_all [strip, constAV])) (p174 (.of (p206 objs)) o.2)) ?_
 refine Opk ?_; refine Oas ?_; refine S3 ?_
 refine r1 4 (H) ?_
 exact ⟨retB (by rw [thingP]; cases ownP W o.1 <;> simp), rfl⟩
theorem p173 {W : FW} (h : worldP W = true) (objs : List (Int × List (Int × Int))) : PCall Tryz.prog 173 [Wptr W, AV.things objs] (.b (thingsP W objs)) := by
 intro H
 refine ACall.mk' (n := 13) Tryz.func173 rfl (by kernel_rfl) rfl rfl (fun B I w0 => ?_)
 refine CW.boundM (t := 1) rfl (fun hb => ?_)
 refine S2 ?_; refine Obx ?_; refine Obx ?_; refine Oas ?_; refine S4 ?_; refine Old ?_; refine Oln ?_; refine Ocm ?_; refine Omv ?_; refine Pld ?_; refine Pmf ?_
 refine OL.guardC rfl rfl rfl rfl rfl rfl (fun hg => POp.call (.mk' rfl rfl rfl rfl (by first | rfl | ((repeat (first | exact hg | rfl | refine Bool.and_eq_true_iff.2 ⟨?_, ?_⟩)); done) | simp_all [strip, constAV])) (p204 (.of (p205 h objs)) objs)) ?_
 refine Opk ?_; refine Oas ?_; refine S3 ?_
 refine r1 4 (H) ?_
 exact ⟨retB (by rw [thingsP]; cases decide ((objs.length : Int) ≤ 40) <;> rfl), rfl⟩
theorem p122 {W : FW} (h : worldP W = true) (objs : List (Int × List (Int × Int))) (args : List (Int × Int)) : PCall Tryz.prog 122 [Wptr W, AV.things objs, AV.vals args] (.b (handedP W objs args)) := by
 intro H
 refine ACall.mk' (n := 25) Tryz.func122 rfl (by kernel_rfl) rfl rfl (fun B I w0 => ?_)
 refine CW.boundM (t := 2) rfl (fun hb => ?_)
 refine S2 ?_; refine Obx ?_; refine Oas ?_; refine S4 ?_; refine Omv ?_; refine Old ?_
 refine OL.popC rfl rfl rfl (POp.call (.mk' rfl rfl rfl rfl rfl) (p173 h objs)) ?_
 refine Omv ?_; refine Pmv ?_; refine Pln ?_; refine Pcm ?_; refine Opk ?_; refine Omv ?_; refine Pmv ?_; refine Pln ?_; refine Pcm ?_; refine Opk ?_; refine Omv ?_; refine Pmv ?_
 refine Pmf ?_
 refine OL.guardC rfl rfl rfl rfl rfl rfl (fun hg => POp.call (.mk' rfl rfl rfl rfl (by first | rfl | ((repeat (first | exact hg | rfl | refine Bool.and_eq_true_iff.2 ⟨?_, ?_⟩)); done) | simp_all [strip, constAV])) (p174 (.of (p175 objs)) args)) ?_
 refine Opk ?_; refine Oas ?_; refine S3 ?_
 refine r1 6 (H) ?_
 exact ⟨retB (by rw [handedP, argsP]; cases thingsP W objs <;> cases decide ((args.length : Int) ≥ 1) <;> cases decide ((args.length : Int) ≤ 3) <;> rfl), rfl⟩
theorem p120 (l : List (Int × Int)) (n : Int) : PCall Tryz.prog 120 [AV.vals l, .i n] (.b (l.all (valP · n))) := by
 intro H
 refine ACall.mk' (n := 18) Tryz.func120 rfl (by kernel_rfl) rfl rfl (fun B I w0 => ?_)
 refine S2 ?_; refine Oas ?_; refine S5 ?_; refine Omv ?_; refine Oln ?_; refine Omv ?_; refine S3 ?_
 refine lj (fun m st => ∃ i : Nat, st = ⟨[(9, .i i), (8, .i l.length), (7, AV.vals l), (4, .b false), (1, .i n)], H⟩ ∧ m = l.length - i ∧ i ≤ l.length ∧ (l.take i).all (valP · n) = true) (⟨0, rfl, rfl, by omega, rfl⟩) ?_
 rintro m _ ⟨i, rfl, rfl, hi, hall⟩
 refine CW.boundM (t := 7) rfl (fun hb => ?_)
 refine S2 ?_; refine Ocm ?_; refine S3 ?_
 refine CW.cond rfl (fun h0 => ?_) (fun h0 => ?_)
 ·
  replace h0 := nm h0
  have hil : i < l.length := by omega
  refine S6 ?_; refine Oix ?_; refine Ola ?_
  refine OL.alC rfl rfl rfl rfl (fun b0 => ?_)
  refine Sto ?_; refine S4 ?_; refine Ola ?_; refine Omv ?_
  refine OL.popC rfl rfl rfl (POp.call (.mk' rfl rfl rfl rfl rfl) (p172 (l.getD i default) n)) ?_
  refine Ont ?_; refine S2 ?_
  refine CW.cond rfl (fun h1 => ?_) (fun h1 => ?_)
  ·
   replace h1 := nm h1
   refine S2 ?_; refine Oas ?_; refine S8 ?_
   refine r1 4 (H) ?_
   exact ⟨retB (by symm; rw [List.all_eq_false]; exact ⟨_, getD_mem hil, by simpa using h1⟩), rfl⟩
  ·
   replace h1 := nm h1
   refine S4 ?_; refine Oar ?_; refine Omv ?_; refine S1 ?_
   exact ag (⟨i + 1, rfl, rfl, by omega, by rw [all_take hil, hall, show valP (l.getD i default) n = true by simpa using h1]; rfl⟩)
 ·
  replace h0 := nm h0
  obtain rfl : i = l.length := by omega
  rw [List.take_length] at hall
  refine S7 ?_; refine Oas ?_; refine S3 ?_
  refine r1 4 (H) ?_
  exact ⟨retB hall.symm, rfl⟩
mutual
def spkN : Fact → Int
 | .mk op arg path cls n kids => spkNs kids (if 2 ≤ op ∧ op ≤ 4 then arg + 1 else 0)
def spkNs : List Fact → Int → Int
 | [], a => a
 | k :: r, a => spkNs r (if spkN k > a then spkN k else a)
end
theorem spkN_eq (f : Fact) : spkN f = spkNs f.kids (if leafP f = true then f.arg + 1 else 0) := by
 cases f; rw [spkN]; exact congrArg _ (ite_congr (propext ⟨fun h => Bool.and_eq_true_iff.2 ⟨decide_eq_true h.1, decide_eq_true h.2⟩, fun h => ⟨of_decide_eq_true (Bool.and_eq_true_iff.1 h).1, of_decide_eq_true (Bool.and_eq_true_iff.1 h).2⟩⟩) (fun _ => rfl) (fun _ => rfl))
theorem spkNs_snoc (x : Fact) : ∀ (l : List Fact) (a : Int), spkNs (l ++ [x]) a = if spkN x > spkNs l a then spkN x else spkNs l a
 | [], a => by rw [List.nil_append, spkNs, spkNs, spkNs]
 | k :: r, a => by rw [List.cons_append, spkNs, spkNs, spkNs_snoc x r]
theorem leaf_arg {W : FW} {f : Fact} (hw : wfB W f = true) (hl : leafP f = true) : 0 ≤ f.arg ∧ f.arg < 3 := by
 have hf := (wfB_iff.1 hw).1
 simp only [nodeOkB, Bool.and_eq_true] at hf
 have h3 := hf.2
 rw [if_pos hl] at h3
 simp only [Bool.and_eq_true, argP, Bool.not_eq_true', Bool.or_eq_false_iff, decide_eq_false_iff_not] at h3
 omega
theorem p123_step {W : FW} (f : Fact) (hw : wfB W f = true) (hk2 : f.kids.length ≤ 2) (ih : ∀ k ∈ f.kids, PCall Tryz.prog 123 [AV.fact k] (.i (spkN k))) : PCall Tryz.prog 123 [AV.fact f] (.i (spkN f)) := by
 intro H
 refine ACall.mk' (n := 24) Tryz.func123 rfl (by kernel_rfl) rfl rfl (fun B I w0 => ?_)
 rw [spkN_eq]
 refine S2 ?_; refine Obx ?_; refine Oas ?_; refine S4 ?_; refine Oas ?_; refine S2 ?_
 refine CW.cutJ (fun st => st = ⟨[(3, .i (if leafP f = true then f.arg + 1 else 0)), (1, .ptr (Fcells f))], H⟩) ?_ ?_
 ·
  refine S2 ?_; refine Ola ?_
  refine OL.popC rfl rfl rfl (POp.call (.mk' rfl rfl rfl rfl rfl) (p134 f)) ?_
  refine S2 ?_
  refine CW.cond rfl (fun h0 => ?_) (fun h0 => ?_)
  ·
   have hl : leafP f = true := by exact h0
   have har := leaf_arg hw hl
   refine S1 ?_; refine Ofa ?_; refine Old ?_; refine Oar ?_; refine Oas ?_; refine S1 ?_
   refine Done.le 3 (y := .i (if leafP f = true then f.arg + 1 else 0)) rfl (AVle.eqI (by rw [if_pos hl])) ?_
   exact Done.cutJ rfl (by repeat (first | exact trivial | refine ⟨rfl, ?_⟩)) (by repeat (first | exact List.Sublist.refl _ | refine List.Sublist.cons _ ?_))
  ·
   have hl : leafP f = false := by exact h0
   refine S1 ?_
   refine Done.le 3 (y := .i (if leafP f = true then f.arg + 1 else 0)) rfl (AVle.eqI (by rw [hl]; rfl)) ?_
   exact Done.cutJ rfl (by repeat (first | exact trivial | refine ⟨rfl, ?_⟩)) (by repeat (first | exact List.Sublist.refl _ | refine List.Sublist.cons _ ?_))
 ·
  rintro _ rfl
  refine S2 ?_
  generalize (if leafP f = true then f.arg + 1 else 0) = a0
  refine S1 ?_; refine Ofa ?_; refine Old ?_; refine Oln ?_; refine Omv ?_; refine S3 ?_
  refine lj (fun m st => ∃ j : Nat, st = ⟨[(14, .i j), (13, .i f.kids.length), (12, AV.facts f.kids), (3, .i (spkNs (f.kids.take j) a0))], H⟩ ∧ m = f.kids.length - j ∧ j ≤ f.kids.length) (⟨0, rfl, rfl, by omega⟩) ?_
  rintro m _ ⟨j, rfl, rfl, hj⟩
  refine S2 ?_; refine Ocm ?_; refine S3 ?_
  refine CW.cond rfl (fun h1 => ?_) (fun h1 => ?_)
  ·
   replace h1 := nm h1
   have hjl : j < f.kids.length := by omega
   have hkm := getD_mem hjl
   have hsn := spkNs_snoc (f.kids.getD j default) (f.kids.take j) a0
   rw [take_getD hjl] at hsn
   refine S6 ?_; refine Oix ?_; refine Ola ?_
   refine OL.alC rfl rfl rfl rfl (fun b0 => ?_)
   refine Sto ?_; refine S3 ?_; refine Omv ?_; refine Ola ?_
   refine OL.popC rfl rfl rfl (POp.call (.mk' rfl rfl rfl rfl rfl) (ih _ hkm)) ?_
   refine OL.popC rfl rfl rfl (POp.max2 rfl rfl rfl rfl rfl rfl) ?_
   refine Oas ?_; refine S3 ?_
   refine CW.le 3 (y := .i (spkNs (f.kids.take (j + 1)) a0)) rfl (AVle.eqI (by rw [hsn])) ?_
   refine S1 ?_; refine Oar ?_; refine Omv ?_; refine S1 ?_
   exact ag (⟨j + 1, rfl, rfl, by omega⟩)
  ·
   replace h1 := nm h1
   obtain rfl : j = f.kids.length := by omega
   rw [List.take_length]
   refine S7 ?_; refine Omv ?_; refine Oas ?_; refine S3 ?_
   refine r1 2 (H) ?_
   exact ⟨by rfl, rfl⟩
theorem p123 {W : FW} : ∀ f : Fact, wfB W f = true → PCall Tryz.prog 123 [AV.fact f] (.i (spkN f)) := Fact.ind1 fun f ih hw => p123_step f hw (kids_two2 hw) fun k hk => ih k hk ((wfB_iff.1 hw).2 k hk)
abbrev Th := Int × List (Int × Int)
def clsAt (objs : List Th) (v : Int × Int) : Int := (objs.getD v.2.toNat default).1
def stepO (W : FW) (objs : List Th) (v : Int × Int) (s : Int) : Int × Int := (objs.getD v.2.toNat default).2.getD (idxP (slotsOf W (clsAt objs v)) s).toNat default
def okO (W : FW) (objs : List Th) (v : Int × Int) (s : Int) : Bool := (v.1 == 3) && hasP W (clsAt objs v) s
def atP (W : FW) (objs : List Th) : Int × Int → List Int → (Int × Int) × Bool
 | v, [] => (v, true)
 | v, s :: r => if okO W objs v s = true then atP W objs (stepO W objs v s) r else ((0, 0), false)
structure ObjsOk (W : FW) (objs : List Th) : Prop where
 w : worldP W = true
 len : objs.length ≤ 40
 own : ∀ o ∈ objs, ownP W o.1 = true
 slots : ∀ o ∈ objs, o.2.length = (slotsOf W o.1).length
 vals : ∀ o ∈ objs, ∀ v ∈ o.2, valP v objs.length = true
theorem objs_ok {W : FW} (hw : worldP W = true) {objs : List Th} (h : thingsP W objs = true) : ObjsOk W objs := by
 simp only [thingsP, thingP, Bool.and_eq_true, decide_eq_true_eq, List.all_eq_true, beq_iff_eq] at h
 exact ⟨hw, by omega, fun o ho => (h.2 o ho).1.1, fun o ho => by have := (h.2 o ho).1.2; omega, fun o ho v hv => (h.2 o ho).2 v hv⟩
theorem val_obj {v : Int × Int} {n : Nat} (h : valP v n = true) (h3 : v.1 = 3) : 0 ≤ v.2 ∧ v.2 < n := by
 rw [valP, if_neg (by omega), if_neg (by omega)] at h
 simp only [Bool.and_eq_true, decide_eq_true_eq] at h
 exact ⟨h.1.2, h.2⟩
theorem val_kind {v : Int × Int} {n : Int} (h : valP v n = true) : v.1 = 1 ∨ v.1 = 2 ∨ v.1 = 3 := by
 by_cases h1 : v.1 = 1
 ·exact .inl h1
 by_cases h2 : v.1 = 2
 ·exact .inr (.inl h2)
 ·rw [valP, if_neg h1, if_neg h2] at h
  simp only [Bool.and_eq_true, beq_iff_eq] at h
  exact .inr (.inr h.1.1)
theorem idx_at {l : List Int} {s : Int} (h : s ∈ l) : 0 ≤ idxP l s ∧ idxP l s < l.length := by
 rw [idxP]
 cases hi : l.findIdx? (fun x => x == s) with
 | none =>
  rw [List.findIdx?_eq_none_iff] at hi
  have := hi s h; simp at this
 | some i =>
  rw [List.findIdx?_eq_some_iff_getElem] at hi
  obtain ⟨h1, _⟩ := hi
  simp only []; omega
theorem slots_mem {W : FW} {c s : Int} : s ∈ slotsOf W c ↔ (0 ≤ s ∧ s < W.owner.length) ∧ hasP W c s = true := by
 rw [slotsOf, List.mem_filter]
 refine and_congr_left fun _ => ?_
 rw [numL, List.mem_map]
 constructor
 ·rintro ⟨a, ha, rfl⟩
  have := List.mem_range.1 ha; omega
 ·intro h
  exact ⟨s.toNat, List.mem_range.2 (by omega), by omega⟩
section
variable {W : FW} {objs : List Th} (h : ObjsOk W objs) {v : Int × Int} (hv : valP v objs.length = true) {s : Int} (hs : 0 ≤ s ∧ s < W.owner.length)
include h hv
theorem obj_mem (h3 : v.1 = 3) : objs.getD v.2.toNat default ∈ objs := by
 have _ := h
 have := val_obj hv h3
 exact getD_mem (by omega)
theorem cls_rng (h3 : v.1 = 3) : 3 ≤ clsAt objs v ∧ clsAt objs v < 3 + W.parents.length := own_rng (h.own _ (obj_mem h hv h3))
include hs
theorem step_idx (hk : okO W objs v s = true) : 0 ≤ idxP (slotsOf W (clsAt objs v)) s ∧ idxP (slotsOf W (clsAt objs v)) s < (objs.getD v.2.toNat default).2.length := by
 rw [okO, Bool.and_eq_true, beq_iff_eq] at hk
 have h1 := h.slots _ (obj_mem h hv hk.1)
 have := idx_at (slots_mem.2 ⟨hs, hk.2⟩)
 rw [clsAt] at this ⊢
 rw [h1]; exact this
theorem step_val (hk : okO W objs v s = true) : valP (stepO W objs v s) objs.length = true := by
 have h1 := step_idx h hv hs hk
 rw [okO, Bool.and_eq_true, beq_iff_eq] at hk
 exact h.vals _ (obj_mem h hv hk.1) _ (getD_mem (by omega))
end
theorem at_val {W : FW} {objs : List Th} (h : ObjsOk W objs) : ∀ (p : List Int) (v : Int × Int), valP v objs.length = true → (∀ s ∈ p, 0 ≤ s ∧ s < W.owner.length) → (atP W objs v p).2 = true → valP (atP W objs v p).1 objs.length = true
 | [], v, hv, _, _ => hv
 | s :: r, v, hv, hp, ht => by
  rw [atP] at ht ⊢
  by_cases hk : okO W objs v s = true
  ·rw [if_pos hk] at ht ⊢
   exact at_val h r _ (step_val h hv (hp s (.head _)) hk) (fun x hx => hp x (.tail _ hx)) ht
  ·rw [if_neg hk] at ht; cases ht
theorem p127 {W : FW} {objs : List Th} (h : ObjsOk W objs) {v : Int × Int} (hv : valP v objs.length = true) {p : List Int} (hp : ∀ s ∈ p, 0 ≤ s ∧ s < W.owner.length) : PCall Tryz.prog 127 [Wptr W, AV.things objs, AV.vl v, AV.ints p] (.tup [AV.vl (atP W objs v p).1, .b (atP W objs v p).2]) := by
 intro H
 refine ACall.mk' (n := 54) Tryz.func127 rfl (by kernel_rfl) rfl rfl (fun B I w0 => ?_)
 refine S2 ?_
 refine OL.boxC rfl rfl rfl rfl rfl rfl rfl (fun vb => ?_)
 refine OL.alC rfl rfl rfl rfl (fun rb => ?_)
 refine Oas ?_; refine S5 ?_; refine Omv ?_; refine Oln ?_; refine Omv ?_; refine S3 ?_
 refine lj (fun m st => ∃ (j : Nat) (cur : Int × Int), st = ⟨[(14, .i j), (13, .i p.length), (12, AV.ints p), (9, .b false), (8, .p rb 0), (6, .p vb 0), (1, AV.things objs), (0, Wptr W)], .blk rb 97 [.i 0, .i 0] :: .blk vb 97 [AV.i cur.1, AV.i cur.2] :: H⟩ ∧ m = p.length - j ∧ j ≤ p.length ∧ valP cur objs.length = true ∧ atP W objs cur (p.drop j) = atP W objs v p) (⟨0, v, rfl, rfl, by omega, hv, rfl⟩) ?_
 rintro m _ ⟨j, cur, rfl, rfl, hj, hc, hat⟩
 refine CW.boundM (t := 12) rfl (fun hb => ?_)
 refine S2 ?_; refine Ocm ?_; refine S3 ?_
 refine CW.cond rfl (fun h0 => ?_) (fun h0 => ?_)
 ·
  replace h0 := nm h0
  have hjl : j < p.length := by omega
  have hsr := hp _ (getD_mem hjl)
  rw [List.drop_eq_getElem_cons hjl, ← getD_lt hjl, atP] at hat
  refine S6 ?_; refine Oix ?_; refine Old ?_; refine Oas ?_; refine S5 ?_; refine Ofa ?_; refine Old ?_; refine Ocm ?_; refine Omv ?_; refine Pmv ?_; refine Pmv ?_; refine Pfa ?_
  refine Pld ?_
  refine OL.guardC rfl rfl rfl rfl rfl rfl (fun hg => (by first | exact POp.ixM rfl rfl (gd hg) rfl (gd hg) (by have hk3 : cur.1 = 3 := (by simpa using hg); have := val_obj hc hk3; omega) | exact POp.ixI rfl rfl (gd hg) rfl (gd hg) (by have hk3 : cur.1 = 3 := (by simpa using hg); have := val_obj hc hk3; omega))) ?_
  refine Pfa ?_; refine Pld ?_; refine Pmv ?_
  refine OL.guardC rfl rfl rfl rfl rfl rfl (fun hg => POp.call (.mk' rfl rfl rfl rfl (by first | rfl | ((repeat (first | exact hg | rfl | refine Bool.and_eq_true_iff.2 ⟨?_, ?_⟩)); done) | simp_all [strip, constAV])) (p178 (W := W) (c := (clsAt objs cur)) h.w (by have hk3 : cur.1 = 3 := (by simpa using hg); have := cls_rng h hc hk3; omega) hsr)) ?_
  refine Pnt ?_; refine Opk ?_; refine S2 ?_
  refine CW.cond rfl (fun h1 => ?_) (fun h1 => ?_)
  ·
   have hno : okO W objs cur (p.getD j default) = false := by rw [okO]; by_cases hk3 : cur.1 = 3 <;> simp_all [clsAt]
   rw [if_neg (by rw [hno]; simp)] at hat
   refine S2 ?_; refine Obd ?_; refine Sto ?_; refine Oas ?_; refine S9 ?_
   refine Done.retR (rs := [.cell 8 97, .tmp 9]) (H' := H) rfl ((by first | exact .cellA inferInstance rfl (by repeat (first | exact .head _ | refine .tail _ ?_)) rfl rfl (.tmp rfl (.nil)) | exact .ptrA inferInstance rfl rfl (.tmp rfl (.nil)))) (AVleL.refl _) (by repeat (first | exact List.Sublist.refl _ | refine List.Sublist.cons _ ?_)) ?_
   exact ⟨by rw [← hat]; rfl, rfl⟩
  ·
   have hok : okO W objs cur (p.getD j default) = true := by rw [okO]; by_cases hk3 : cur.1 = 3 <;> simp_all [clsAt]
   rw [if_pos hok] at hat
   have hk3 : cur.1 = 3 := by rw [okO, Bool.and_eq_true, beq_iff_eq] at hok; exact hok.1
   have hvr := val_obj hc hk3
   have hcr := cls_rng h hc hk3
   have hix := step_idx h hc hsr hok
   refine S2 ?_
   refine CW.dp mixed ?_
   refine DP.anyC 0 16 54 rfl (by decide +kernel) rfl rfl (by decide +kernel) ?_
   refine Amv ?_; refine Afa ?_; refine Ald ?_; refine Aix ?_; refine Afa ?_; refine Ald ?_; refine Amv ?_; refine Amv ?_; refine Afa ?_; refine Ald ?_; refine Aix ?_; refine Afa ?_
   refine Ald ?_
   refine AD.popC rfl rfl rfl (POp.call (.mk' rfl rfl rfl rfl rfl) (p179 (c := (clsAt objs cur)) h.w (by omega))) ?_
   refine Amv ?_
   refine AD.popC rfl rfl rfl (POp.call (.mk' rfl rfl rfl rfl rfl) (p100 _ _)) ?_
   refine AD.nil ?_
   refine DP.tailC 16 (by decide +kernel) rfl ?_
   refine OL.popC rfl rfl rfl ((by first | exact POp.ixM rfl rfl rfl rfl rfl (by exact hix) | exact POp.ixI rfl rfl rfl rfl rfl (by exact hix))) ?_
   refine Ola ?_; refine Sto ?_; refine S4 ?_; refine Oar ?_; refine Omv ?_; refine S1 ?_
   exact ag (⟨j + 1, stepO W objs cur (p.getD j default), rfl, rfl, by omega, step_val h hc hsr hok, hat⟩)
 ·
  replace h0 := nm h0
  obtain rfl : j = p.length := by omega
  rw [List.drop_length, atP] at hat
  refine S7 ?_; refine Ola ?_; refine Sto ?_; refine Oas ?_; refine S3 ?_
  refine Done.retR (rs := [.cell 8 97, .tmp 9]) (H' := H) rfl ((by first | exact .cellA inferInstance rfl (by repeat (first | exact .head _ | refine .tail _ ?_)) rfl rfl (.tmp rfl (.nil)) | exact .ptrA inferInstance rfl rfl (.tmp rfl (.nil)))) (AVleL.refl _) (by repeat (first | exact List.Sublist.refl _ | refine List.Sublist.cons _ ?_)) ?_
  exact ⟨by rw [← hat]; rfl, rfl⟩
def toVal (W : FW) (objs : List Th) (v : Int × Int) : Val := if v.1 = 1 then .int v.2 else if v.1 = 2 then .non else .obj fun c => upB W (clsAt objs v).toNat c
def VO (W : FW) (objs : List Th) (args : List (Int × Int)) : VM := fun a p =>
 if 0 ≤ a ∧ a < args.length then (if oldB W p = true then (if (atP W objs (args.getD a.toNat default) p).2 = true then some (toVal W objs (atP W objs (args.getD a.toNat default) p).1) else none) else none)
 else if 0 ≤ a ∧ a < 3 ∧ p = [] then some .non else none
theorem vo_leaf {W : FW} {objs : List Th} {args : List (Int × Int)} {f : Fact} (hf : nodeOkB W f = true) (hl : leafP f = true) (ha : f.arg < args.length) :
  VO W objs args f.arg f.path = if (atP W objs (args.getD f.arg.toNat default) f.path).2 = true then some (toVal W objs (atP W objs (args.getD f.arg.toNat default) f.path).1) else none := by
 have h0 : 0 ≤ f.arg := by
  simp only [nodeOkB, Bool.and_eq_true] at hf
  have h3 := hf.2
  rw [if_pos hl] at h3
  simp only [Bool.and_eq_true, argP, Bool.not_eq_true', Bool.or_eq_false_iff, decide_eq_false_iff_not] at h3
  omega
 rw [VO, if_pos ⟨h0, ha⟩, if_pos (leaf_old hf hl)]
theorem spkNs_le : ∀ (l : List Fact) (a : Int), a ≤ spkNs l a ∧ ∀ k ∈ l, spkN k ≤ spkNs l a
 | [], a => by rw [spkNs]; exact ⟨Int.le_refl _, fun k hk => by cases hk⟩
 | x :: r, a => by
  rw [spkNs]
  obtain ⟨h1, h2⟩ := spkNs_le r (if spkN x > a then spkN x else a)
  have hle : a ≤ if spkN x > a then spkN x else a := by split <;> omega
  have hlx : spkN x ≤ if spkN x > a then spkN x else a := by split <;> omega
  refine ⟨Int.le_trans hle h1, fun k hk => ?_⟩
  rcases List.mem_cons.1 hk with rfl | hk
  ·exact Int.le_trans hlx h1
  ·exact h2 k hk
theorem spk_kid {f k : Fact} (hk : k ∈ f.kids) : spkN k ≤ spkN f := by rw [spkN_eq f]; exact (spkNs_le _ _).2 k hk
theorem spk_leaf {f : Fact} (hl : leafP f = true) : f.arg + 1 ≤ spkN f := by
 have := (spkNs_le f.kids (if leafP f = true then f.arg + 1 else 0)).1
 rw [← spkN_eq, if_pos hl] at this; exact this
structure HOk (W : FW) (objs : List Th) (args : List (Int × Int)) : Prop where
 o : ObjsOk W objs
 a : ∀ v ∈ args, valP v objs.length = true
 n : 1 ≤ args.length ∧ args.length ≤ 3
theorem handed_ok {W : FW} (hw : worldP W = true) {objs : List Th} {args : List (Int × Int)} (h : handedP W objs args = true) : HOk W objs args := by
 simp only [handedP, argsP, Bool.and_eq_true, decide_eq_true_eq, List.all_eq_true] at h
 exact ⟨objs_ok hw h.1, h.2.2, by omega⟩
theorem leaf_cls {W : FW} {f : Fact} (hf : nodeOkB W f = true) (hl : leafP f = true) (h2 : f.op = 2) : classP W f.cls = true := by
 simp only [nodeOkB, Bool.and_eq_true] at hf
 have h3 := hf.2
 rw [if_pos hl, Bool.and_eq_true, leafOkP, if_pos h2, Bool.and_eq_true] at h3
 exact h3.2.2
theorem leaf_of {W : FW} {f : Fact} (hf : nodeOkB W f = true) (h1 : ¬ f.op = 1) (h5 : ¬ f.op = 5) (h6 : ¬ f.op = 6) (h7 : ¬ f.op = 7) : leafP f = true := by
 simp only [nodeOkB, Bool.and_eq_true, decide_eq_true_eq] at hf
 simp only [leafP, Bool.and_eq_true, decide_eq_true_eq]; omega
theorem kids2_of {W : FW} {f : Fact} (hf : nodeOkB W f = true) (h : f.op = 6 ∨ f.op = 7) : f.kids.length = 2 := by
 simp only [nodeOkB, Bool.and_eq_true, decide_eq_true_eq, beq_iff_eq] at hf
 have := hf.1.2
 rw [kidsP, if_neg (by omega), if_pos h] at this; omega
theorem kids1_of {W : FW} {f : Fact} (hf : nodeOkB W f = true) (h : f.op = 5) : f.kids.length = 1 := by
 simp only [nodeOkB, Bool.and_eq_true, decide_eq_true_eq, beq_iff_eq] at hf
 have := hf.1.2
 rw [kidsP, if_pos h] at this; omega
def leafH (W : FW) (objs : List Th) (f : Fact) (r : (Int × Int) × Bool) : Bool :=
 if f.op = 2 then r.2 && belowP W (if r.1.1 = 1 then 1 else if r.1.1 = 2 then 2 else clsAt objs r.1) f.cls
 else if f.op = 3 then r.2 && (r.1.1 == 1) && decide (r.1.2 < f.n) else r.2 && (r.1.1 == 1) && (r.1.2 == f.n)
theorem ev_leafH {W : FW} {objs : List Th} {args : List (Int × Int)} {f : Fact} (hw : worldP W = true) (hf : nodeOkB W f = true) (hl : leafP f = true) (ha : f.arg < args.length) :
  ev (VO W objs args) f = leafH W objs f (atP W objs (args.getD f.arg.toNat default) f.path) := by
 rw [ev_leaf hl, evL, vo_leaf hf hl ha]
 generalize atP W objs (args.getD f.arg.toNat default) f.path = r
 obtain ⟨v, b⟩ := r
 cases b with
 | false => unfold leafH; simp
 | true =>
  simp only [if_true]
  unfold leafH
  by_cases h2 : f.op = 2
  ·rw [if_pos h2, valL_is h2]
   simp only [Bool.true_and]
   unfold toVal
   by_cases h1 : v.1 = 1
   ·rw [if_pos h1, if_pos h1]
    show _ = upB W 1 _
    rw [upB_low (by omega)]; rfl
   ·rw [if_neg h1, if_neg h1]
    by_cases h3 : v.1 = 2
    ·rw [if_pos h3, if_pos h3]
     show _ = upB W 2 _
     rw [upB_low (by omega)]; rfl
    ·rw [if_neg h3, if_neg h3]; rfl
  ·rw [if_neg h2, valL_no h2]
   unfold toVal
   by_cases h1 : v.1 = 1
   ·rw [if_pos h1]
    simp only [numV, h1]
    by_cases h3 : f.op = 3
    ·rw [if_pos h3, if_pos h3]; simp
    ·rw [if_neg h3, if_neg h3]; simp
   ·rw [if_neg h1]
    have e : (v.1 == 1) = false := by simpa using h1
    simp only [e]
    by_cases h3 : v.1 = 2
    ·rw [if_pos h3]; simp
    ·rw [if_neg h3]; simp
theorem p121 {W : FW} {objs : List Th} (h : ObjsOk W objs) {v : Int × Int} (hv : valP v objs.length = true) : PCall Tryz.prog 121 [AV.things objs, AV.vl v] (.i (if v.1 = 1 then 1 else if v.1 = 2 then 2 else clsAt objs v)) := by
 intro H
 refine ACall.mk' (n := 17) Tryz.func121 rfl (by kernel_rfl) rfl rfl (fun B I w0 => ?_)
 refine S2 ?_; refine Obx ?_; refine Oas ?_; refine S5 ?_; refine Ofa ?_; refine Old ?_; refine S5 ?_; refine Ocm ?_; refine Oas ?_; refine S2 ?_
 refine CW.cond rfl (fun h0 => ?_) (fun h0 => ?_)
 ·
  replace h0 := nm h0
  refine S2 ?_; refine Oas ?_; refine S5 ?_
  refine r1 4 (H) ?_
  exact ⟨retI (by rw [if_pos h0]), rfl⟩
 ·
  replace h0 := nm h0
  refine S2 ?_; refine Ocm ?_; refine Oas ?_; refine S2 ?_
  refine CW.cond rfl (fun h1 => ?_) (fun h1 => ?_)
  ·
   replace h1 := nm h1
   refine S2 ?_; refine Oas ?_; refine S5 ?_
   refine r1 4 (H) ?_
   exact ⟨retI (by rw [if_neg h0, if_pos h1]), rfl⟩
  ·
   replace h1 := nm h1
   have hr := val_obj hv (by have := val_kind hv; omega)
   refine S5 ?_; refine Omv ?_; refine Ofa ?_; refine Old ?_; refine Oix ?_; refine Ofa ?_; refine Old ?_; refine Oas ?_; refine S3 ?_
   refine r1 4 (H) ?_
   exact ⟨retI (by rw [if_neg h0, if_neg h1]; rfl), rfl⟩
theorem num_alt {W : FW} {objs : List Th} {f : Fact} (hf : nodeOkB W f = true) (hl : leafP f = true) (h2 : ¬ f.op = 2) {r : (Int × Int) × Bool} (hb : r.2 = true) :
  (bif (bif r.1.1 == 1 then (r.1.2 == f.n) == (f.op == 4) else false) then decide (r.1.2 ≤ f.n) else false) = leafH W objs f r := by
 simp only [leafP, Bool.and_eq_true, decide_eq_true_eq] at hl
 rw [leafH, if_neg h2, hb]
 have h34 : f.op = 3 ∨ f.op = 4 := by omega
 rcases h34 with e | e
 ·rw [if_pos e, e]
  cases hk : (r.1.1 == 1) with
  | false => rfl
  | true =>
   simp only [Bool.true_and, cond_true]
   by_cases hlt : r.1.2 < f.n
   ·have h1 : (r.1.2 == f.n) = false := by simp; omega
    rw [h1, decide_eq_true hlt, decide_eq_true (Int.le_of_lt hlt)]; rfl
   ·by_cases heq : r.1.2 = f.n
    ·rw [heq]; simp
    ·rw [decide_eq_false hlt, decide_eq_false (show ¬ r.1.2 ≤ f.n by omega)]; cases ((r.1.2 == f.n) == ((3 : Int) == 4)) <;> rfl
 ·rw [if_neg (by omega), e]
  cases hk : (r.1.1 == 1) with
  | false => rfl
  | true =>
   simp only [Bool.true_and, cond_true]
   by_cases heq : r.1.2 = f.n
   ·rw [heq]; simp
   ·have h1 : (r.1.2 == f.n) = false := by simpa using heq
    rw [h1]; rfl
theorem p124_step {W : FW} {objs : List Th} {args : List (Int × Int)} (h : HOk W objs args) (f : Fact) (hw : wfB W f = true) (hs : spkN f ≤ args.length) (ih : ∀ k ∈ f.kids, PCall Tryz.prog 124 [Wptr W, AV.fact k, AV.things objs, AV.vals args] (.b (ev (VO W objs args) k))) : PCall Tryz.prog 124 [Wptr W, AV.fact f, AV.things objs, AV.vals args] (.b (ev (VO W objs args) f)) := by
 intro H
 refine ACall.mk' (n := 135) Tryz.func124 rfl (by kernel_rfl) rfl rfl (fun B I w0 => ?_)
 have hf := (wfB_iff.1 hw).1
 refine S2 ?_; refine Obx ?_; refine Oas ?_; refine S5 ?_; refine Ofa ?_; refine Old ?_; refine S5 ?_; refine Ocm ?_; refine Oas ?_; refine S2 ?_
 refine CW.cond rfl (fun h0 => ?_) (fun h0 => ?_)
 ·
  replace h0 := nm h0
  refine S2 ?_; refine Oas ?_; refine S5 ?_
  refine r1 8 (H) ?_
  exact ⟨retB (by rw [ev_true h0]), rfl⟩
 ·
  replace h0 := nm h0
  refine S2 ?_; refine Ocm ?_; refine Oas ?_; refine S2 ?_
  refine CW.cond rfl (fun h1 => ?_) (fun h1 => ?_)
  ·
   replace h1 := nm h1
   have hk := kids1_of hf h1
   refine S2 ?_; refine Omv ?_; refine Ofa ?_; refine Old ?_
   refine OL.popC rfl rfl rfl ((by first | exact POp.ixM rfl rfl rfl rfl rfl (by simp; omega) | exact POp.ixI rfl rfl rfl rfl rfl (by simp; omega))) ?_
   refine Ola ?_; refine Omv ?_; refine Omv ?_
   refine OL.popC rfl rfl rfl (POp.call (.mk' rfl rfl rfl rfl rfl) (ih (f.kids.getD 0 default) (getD_mem (by omega)))) ?_
   refine Ont ?_; refine Oas ?_; refine S5 ?_
   refine r1 8 (H) ?_
   exact ⟨retB (by rw [ev_not h1 (by omega)]), rfl⟩
  ·
   replace h1 := nm h1
   refine S2 ?_; refine Ocm ?_; refine Oas ?_; refine S2 ?_
   refine CW.cond rfl (fun h2 => ?_) (fun h2 => ?_)
   ·
    replace h2 := nm h2
    have hk := kids2_of hf (.inl h2)
    refine S2 ?_; refine Omv ?_; refine Ofa ?_; refine Old ?_
    refine OL.popC rfl rfl rfl ((by first | exact POp.ixM rfl rfl rfl rfl rfl (by simp; omega) | exact POp.ixI rfl rfl rfl rfl rfl (by simp; omega))) ?_
    refine Ola ?_; refine Omv ?_; refine Omv ?_
    refine OL.popC rfl rfl rfl (POp.call (.mk' rfl rfl rfl rfl rfl) (ih (f.kids.getD 0 default) (getD_mem (by omega)))) ?_
    refine Omv ?_; refine Pmv ?_; refine Pfa ?_; refine Pld ?_
    refine OL.guardC rfl rfl rfl rfl rfl rfl (fun hg => (by first | exact POp.ixM rfl rfl (gd hg) rfl rfl (by simp; omega) | exact POp.ixI rfl rfl (gd hg) rfl rfl (by simp; omega))) ?_
    refine Pla ?_; refine Pmv ?_; refine Pmv ?_
    refine OL.guardC rfl rfl rfl rfl rfl rfl (fun hg => POp.call (.mk' rfl rfl rfl rfl (by first | rfl | ((repeat (first | exact hg | rfl | refine Bool.and_eq_true_iff.2 ⟨?_, ?_⟩)); done) | simp_all [strip, constAV])) (ih (f.kids.getD 1 default) (getD_mem (by omega)))) ?_
    refine Opk ?_; refine Oas ?_; refine S5 ?_
    refine r1 8 (H) ?_
    exact ⟨retB (by rw [ev_and h2 (by omega)]; simp), rfl⟩
   ·
    replace h2 := nm h2
    refine S2 ?_; refine Ocm ?_; refine Oas ?_; refine S2 ?_
    refine CW.cond rfl (fun h3 => ?_) (fun h3 => ?_)
    ·
     replace h3 := nm h3
     have hk := kids2_of hf (.inr h3)
     refine S2 ?_; refine Omv ?_; refine Ofa ?_; refine Old ?_
     refine OL.popC rfl rfl rfl ((by first | exact POp.ixM rfl rfl rfl rfl rfl (by simp; omega) | exact POp.ixI rfl rfl rfl rfl rfl (by simp; omega))) ?_
     refine Ola ?_; refine Omv ?_; refine Omv ?_
     refine OL.popC rfl rfl rfl (POp.call (.mk' rfl rfl rfl rfl rfl) (ih (f.kids.getD 0 default) (getD_mem (by omega)))) ?_
     refine Omv ?_; refine Pmv ?_; refine Pfa ?_; refine Pld ?_
     refine OL.guardC rfl rfl rfl rfl rfl rfl (fun hg => (by first | exact POp.ixM rfl rfl (gd hg) rfl rfl (by simp; omega) | exact POp.ixI rfl rfl (gd hg) rfl rfl (by simp; omega))) ?_
     refine Pla ?_; refine Pmv ?_; refine Pmv ?_
     refine OL.guardC rfl rfl rfl rfl rfl rfl (fun hg => POp.call (.mk' rfl rfl rfl rfl (by first | rfl | ((repeat (first | exact hg | rfl | refine Bool.and_eq_true_iff.2 ⟨?_, ?_⟩)); done) | simp_all [strip, constAV])) (ih (f.kids.getD 1 default) (getD_mem (by omega)))) ?_
     refine Opk ?_; refine Oas ?_; refine S5 ?_
     refine r1 8 (H) ?_
     exact ⟨retB (by rw [ev_or h3 (by omega)]; simp), rfl⟩
    ·
     replace h3 := nm h3
     have hl := leaf_of hf h0 h1 h2 h3
     have har := leaf_arg hw hl
     have hsl := spk_leaf hl
     have hpr : ∀ s ∈ f.path, 0 ≤ s ∧ s < W.owner.length := fun s hs => by have := List.all_eq_true.1 (leaf_old hf hl) s hs; simpa using this
     have hav := h.a _ (getD_mem (l := args) (k := f.arg.toNat) (by omega))
     have hrv := at_val h.o f.path _ hav hpr
     have hev := ev_leafH (objs := objs) (args := args) h.o.w hf hl (by omega)
     generalize hr : atP W objs (args.getD f.arg.toNat default) f.path = r at hev hrv
     refine S4 ?_
     refine CW.dp mixed ?_
     refine DP.anyAC (fun sj b => match sj with | 0 => .blk b 97 [.i 0, .i 0] :: H | _ => .blk b 97 [AV.i r.1.1, AV.i r.1.2] :: H) 9 [13, 14] 1 0 15 135 rfl (by decide +kernel) rfl rfl rfl rfl (by decide +kernel) ?_
     refine TD.popA (by decide +kernel) rfl rfl rfl rfl (fun _ => POp.move rfl rfl rfl) ?_
     refine TD.popA (by decide +kernel) rfl rfl rfl rfl (fun _ => POp.move rfl rfl rfl) ?_
     refine TD.popA (by decide +kernel) rfl rfl rfl rfl (fun _ => POp.move rfl rfl rfl) ?_
     refine TD.popA (by decide +kernel) rfl rfl rfl rfl (fun _ => (by first | exact POp.fa rfl rfl rfl rfl | exact POp.faP rfl rfl rfl rfl)) ?_
     refine TD.popA (by decide +kernel) rfl rfl rfl rfl (fun _ => (by first | exact POp.ld1 rfl rfl rfl rfl | (apply POp.ld1H rfl rfl rfl; (case hm => repeat (first | exact .head _ | refine .tail _ ?_)); (case hy => rfl)))) ?_
     refine TD.popA (by decide +kernel) rfl rfl rfl rfl (fun _ => (by first | exact POp.ixM rfl rfl rfl rfl rfl (by omega) | exact POp.ixI rfl rfl rfl rfl rfl (by omega))) ?_
     refine TD.popA (by decide +kernel) rfl rfl rfl rfl (fun _ => (by first | exact POp.ldA rfl rfl rfl rfl | (apply POp.ldAH rfl rfl rfl; (case hm => repeat (first | exact .head _ | refine .tail _ ?_)); (case hy => rfl); (case hn => rfl)))) ?_
     refine TD.popA (by decide +kernel) rfl rfl rfl rfl (fun _ => (by first | exact POp.fa rfl rfl rfl rfl | exact POp.faP rfl rfl rfl rfl)) ?_
     refine TD.popA (by decide +kernel) rfl rfl rfl rfl (fun _ => (by first | exact POp.ld1 rfl rfl rfl rfl | (apply POp.ld1H rfl rfl rfl; (case hm => repeat (first | exact .head _ | refine .tail _ ?_)); (case hy => rfl)))) ?_
     refine TD.popA (by decide +kernel) rfl rfl rfl rfl (fun _ => POp.call (.mk' rfl rfl rfl rfl rfl) ((by have := p127 (W := W) h.o hav hpr; rw [hr] at this; exact this))) ?_
     refine TD.popA (by decide +kernel) rfl rfl rfl rfl (fun _ => POp.move rfl rfl rfl) ?_
     refine TD.popA (by decide +kernel) rfl rfl rfl rfl (fun _ => POp.extract rfl rfl rfl rfl) ?_
     refine TD.popA (by decide +kernel) rfl rfl rfl rfl (fun _ => POp.extract rfl rfl rfl rfl) ?_
     refine TD.effA (by decide +kernel) (by decide +kernel) rfl rfl rfl rfl (fun _ => rfl) ?_
     refine TD.stoA 0 (by decide +kernel) (by decide +kernel) (by decide +kernel) rfl rfl (fun b => .store rfl rfl rfl rfl rfl rfl rfl rfl (by repeat (first | exact Upd.head _ _ _ | apply Upd.tail)) (by exact rfl) (by exact rfl)) ?_
     refine TD.nil (fun vb => ?_)
     refine DP.tailC 15 (by decide +kernel) rfl ?_
     refine Oas ?_; refine S5 ?_
     refine CW.freezeP (d := 9) rfl (by repeat (first | exact Del.head _ _ | apply Del.tail)) ?_
     refine S1 ?_; refine Omv ?_; refine Ont ?_; refine Oas ?_; refine S2 ?_
     refine CW.cond rfl (fun h4 => ?_) (fun h4 => ?_)
     ·
      have hb : r.2 = false := by simpa using h4
      refine S2 ?_; refine Oas ?_; refine S5 ?_
      refine r1 8 (H) ?_
      exact ⟨retB (by rw [hev, leafH, hb]; simp), rfl⟩
     ·
      have hb : r.2 = true := by simpa using h4
      have hrv := hrv hb
      refine S2 ?_; refine Ofa ?_; refine Old ?_; refine Ocm ?_; refine Oas ?_; refine S2 ?_
      refine CW.cond rfl (fun h5 => ?_) (fun h5 => ?_)
      ·
       replace h5 := nm h5
       refine S2 ?_; refine Ofa ?_; refine Old ?_; refine Ocm ?_; refine Omv ?_; refine Pfa ?_; refine Pld ?_; refine Pfa ?_; refine Pld ?_; refine Pcm ?_; refine Pfa ?_; refine Pld ?_
       refine Pcm ?_; refine Peb ?_; refine Opk ?_; refine Omv ?_; refine Pfa ?_; refine Pld ?_; refine Pfa ?_; refine Pld ?_; refine Pcm ?_; refine Opk ?_; refine Oas ?_; refine S5 ?_
       refine r1 8 (H) ?_
       exact ⟨retB (by rw [hev]; exact num_alt hf hl h5 hb), rfl⟩
      ·
       replace h5 := nm h5
       have hcl := leaf_cls hf hl h5
       have hkd := val_kind hrv
       have hP := world_len h.o.w
       simp only [classP, Bool.and_eq_true, decide_eq_true_eq] at hcl
       refine S2 ?_; refine Ofa ?_; refine Old ?_; refine Ocm ?_; refine Oas ?_; refine S2 ?_
       refine CW.cond rfl (fun h6 => ?_) (fun h6 => ?_)
       ·
        replace h6 := nm h6
        have hro := val_obj hrv h6
        have hcr := cls_rng h.o hrv h6
        have hcr2 := hcr
        unfold clsAt at hcr2
        refine S1 ?_
        refine CW.dp mixed ?_
        refine DP.anyC 0 13 135 rfl (by decide +kernel) rfl rfl (by decide +kernel) ?_
        refine Amv ?_; refine Amv ?_; refine Afa ?_; refine Ald ?_; refine Aix ?_; refine Afa ?_; refine Ald ?_; refine Anc ?_; refine Afa ?_; refine Aia ?_
        refine AD.popC rfl rfl rfl (POp.ld1 rfl rfl rfl (up_drop (c := (clsAt objs r.1).toNat) (by simp [clsAt]) (by rw [ups_len]; omega))) ?_
        refine Afa ?_; refine Ald ?_
        refine AD.nil ?_
        refine DP.tailC 13 (by decide +kernel) rfl ?_
        refine OL.popC rfl rfl rfl (POp.call (.mk' rfl rfl rfl rfl rfl) (p107 _ _ (by omega) (u_get (ups_lt hP) _))) ?_
        refine Oas ?_; refine S5 ?_
        refine r1 8 (H) ?_
        exact ⟨retB (by rw [hev, leafH, if_pos h5, hb, if_neg (by omega), if_neg (by omega)]; rfl), rfl⟩
       ·
        replace h6 := nm h6
        refine S4 ?_
        refine CW.dp mixed ?_
        refine DP.anyC 0 9 135 rfl (by decide +kernel) rfl rfl (by decide +kernel) ?_
        refine Amv ?_; refine Afa ?_; refine Ald ?_; refine Anc ?_; refine Afa ?_; refine Aia ?_
        refine AD.popC rfl rfl rfl (POp.ld1 rfl rfl rfl (up_drop (c := r.1.1.toNat) (by simp) (by rw [ups_len]; omega))) ?_
        refine Afa ?_; refine Ald ?_
        refine AD.nil ?_
        refine DP.tailC 9 (by decide +kernel) rfl ?_
        refine OL.popC rfl rfl rfl (POp.call (.mk' rfl rfl rfl rfl rfl) (p107 _ _ (by omega) (u_get (ups_lt hP) _))) ?_
        refine Oas ?_; refine S3 ?_
        refine r1 8 (H) ?_
        exact ⟨retB (by rw [hev, leafH, if_pos h5, hb]; rcases hkd with e | e | e; rw [if_pos e, e]; rfl; rw [if_neg (by omega), if_pos e, e]; rfl; exact absurd e h6), rfl⟩
theorem p124 {W : FW} {objs : List Th} {args : List (Int × Int)} (h : HOk W objs args) : ∀ f : Fact, wfB W f = true → spkN f ≤ args.length → PCall Tryz.prog 124 [Wptr W, AV.fact f, AV.things objs, AV.vals args] (.b (ev (VO W objs args) f)) :=
 Fact.ind1 fun f ih hw hs => p124_step h f hw hs fun k hk => ih k hk ((wfB_iff.1 hw).2 k hk) (Int.le_trans (spk_kid hk) hs)
def takesP (W : FW) (f : Fact) (objs : List Th) (args : List (Int × Int)) : Bool := goodP W [f] && handedP W objs args && decide (spkN f ≤ args.length)
theorem p68n0 {W : FW} {f : Fact} (objs : List Th) (args : List (Int × Int)) (h : goodP W [f] = false) : PCall Tryz.prog 68 [AV.world W, AV.fact f, AV.things objs, AV.vals args] (.tup [.b false, .i 2]) := by
 intro H
 refine ACall.mk' (n := 40) Tryz.func68 rfl (by kernel_rfl) rfl rfl (fun B I w0 => ?_)
 refine S2 ?_; refine Obx ?_; refine Obx ?_; refine Oas ?_; refine Oas ?_; refine S4 ?_; refine Ola ?_; refine Ola ?_
 refine OL.popC rfl rfl rfl (POp.row rfl rfl (by first | rfl | simp_all [strip]) rfl rfl rfl rfl rfl rfl) ?_
 refine OL.popC rfl rfl rfl (POp.callLe (.mk' rfl rfl rfl rfl rfl) (.cons (.refl _) (.cons (AVle_facts [f] rfl) .nil)) (p80n h)) ?_
 refine Omv ?_; refine Oex ?_; refine Oex ?_; refine Oas ?_; refine Oas ?_; refine S5 ?_; refine Omv ?_; refine Ont ?_; refine Omv ?_; refine Pmv ?_; refine Pmv ?_; refine Pmv ?_
 refine OL.guardC (x := .b false) rfl rfl rfl rfl rfl rfl (fun hg => absurd hg (by simp)) ?_
 refine Pnt ?_; refine Opk ?_; refine Omv ?_; refine Pla ?_
 refine OL.guardC (x := .i 0) rfl rfl rfl rfl rfl rfl (fun hg => absurd hg (by simp)) ?_
 refine Pmv ?_; refine Pln ?_; refine Pcm ?_; refine Opk ?_; refine S2 ?_
 refine CW.cond rfl (fun h0 => ?_) (fun h0 => ?_)
 ·
  refine S2 ?_; refine Oas ?_; refine Oas ?_; refine S4 ?_
  refine Done.retR (rs := [.tmp 8, .tmp 9]) (H' := H) rfl (.tmp rfl (.tmp rfl (.nil))) (AVleL.refl _) (by repeat (first | exact List.Sublist.refl _ | refine List.Sublist.cons _ ?_)) ?_
  exact ⟨by rfl, rfl⟩
 ·
  exact absurd h0 (by simp)
theorem p68n1 {W : FW} {f : Fact} (objs : List Th) (args : List (Int × Int)) (h : goodP W [f] = true) (hn : (handedP W objs args && decide (spkN f ≤ args.length)) = false) : PCall Tryz.prog 68 [AV.world W, AV.fact f, AV.things objs, AV.vals args] (.tup [.b false, .i 2]) := by
 intro H
 refine ACall.mk' (n := 40) Tryz.func68 rfl (by kernel_rfl) rfl rfl (fun B I w0 => ?_)
 have hG := good_f1 h
 refine S2 ?_; refine Obx ?_; refine Obx ?_; refine Oas ?_; refine Oas ?_; refine S4 ?_; refine Ola ?_; refine Ola ?_
 refine OL.popC rfl rfl rfl (POp.row rfl rfl (by first | rfl | simp_all [strip]) rfl rfl rfl rfl rfl rfl) ?_
 refine OL.popC rfl rfl rfl (POp.callLe (.mk' rfl rfl rfl rfl rfl) (.cons (.refl _) (.cons (AVle_facts [f] rfl) .nil)) (p80g h)) ?_
 refine Omv ?_; refine Oex ?_; refine Oex ?_; refine Oas ?_; refine Oas ?_; refine S5 ?_; refine Omv ?_; refine Ont ?_; refine Omv ?_; refine Pmv ?_; refine Pmv ?_; refine Pmv ?_
 refine OL.guardC rfl rfl rfl rfl rfl rfl (fun hg => POp.call (.mk' rfl rfl rfl rfl (by first | rfl | ((repeat (first | exact hg | rfl | refine Bool.and_eq_true_iff.2 ⟨?_, ?_⟩)); done) | simp_all [strip, constAV])) (p122 hG.1 objs args)) ?_
 refine Pnt ?_; refine Opk ?_; refine Omv ?_; refine Pla ?_
 refine OL.guardC rfl rfl rfl rfl rfl rfl (fun hg => POp.call (.mk' rfl rfl rfl rfl (by first | rfl | ((repeat (first | exact hg | rfl | refine Bool.and_eq_true_iff.2 ⟨?_, ?_⟩)); done) | simp_all [strip, constAV])) (p123 (W := W) f hG.2.2.1)) ?_
 refine Pmv ?_; refine Pln ?_; refine Pcm ?_; refine Opk ?_; refine S2 ?_
 refine CW.cond rfl (fun h0 => ?_) (fun h0 => ?_)
 ·
  refine S2 ?_; refine Oas ?_; refine Oas ?_; refine S4 ?_
  refine Done.retR (rs := [.tmp 8, .tmp 9]) (H' := H) rfl (.tmp rfl (.tmp rfl (.nil))) (AVleL.refl _) (by repeat (first | exact List.Sublist.refl _ | refine List.Sublist.cons _ ?_)) ?_
  exact ⟨by rfl, rfl⟩
 ·
  exfalso
  revert h0 hn
  cases handedP W objs args <;> simp <;> omega
theorem p68g {W : FW} {f : Fact} {objs : List Th} {args : List (Int × Int)} (h : takesP W f objs args = true) : PCall Tryz.prog 68 [AV.world W, AV.fact f, AV.things objs, AV.vals args] (.tup [.b (ev (VO W objs args) f), .i 0]) := by
 intro H
 refine ACall.mk' (n := 40) Tryz.func68 rfl (by kernel_rfl) rfl rfl (fun B I w0 => ?_)
 simp only [takesP, Bool.and_eq_true, decide_eq_true_eq] at h
 have hG := good_f1 h.1.1
 refine S2 ?_; refine Obx ?_; refine Obx ?_; refine Oas ?_; refine Oas ?_; refine S4 ?_; refine Ola ?_; refine Ola ?_
 refine OL.popC rfl rfl rfl (POp.row rfl rfl (by first | rfl | simp_all [strip]) rfl rfl rfl rfl rfl rfl) ?_
 refine OL.popC rfl rfl rfl (POp.callLe (.mk' rfl rfl rfl rfl rfl) (.cons (.refl _) (.cons (AVle_facts [f] rfl) .nil)) (p80g h.1.1)) ?_
 refine Omv ?_; refine Oex ?_; refine Oex ?_; refine Oas ?_; refine Oas ?_; refine S5 ?_; refine Omv ?_; refine Ont ?_; refine Omv ?_; refine Pmv ?_; refine Pmv ?_; refine Pmv ?_
 refine OL.guardC rfl rfl rfl rfl rfl rfl (fun hg => POp.call (.mk' rfl rfl rfl rfl (by first | rfl | ((repeat (first | exact hg | rfl | refine Bool.and_eq_true_iff.2 ⟨?_, ?_⟩)); done) | simp_all [strip, constAV])) (p122 hG.1 objs args)) ?_
 refine Pnt ?_; refine Opk ?_; refine Omv ?_; refine Pla ?_
 refine OL.guardC rfl rfl rfl rfl rfl rfl (fun hg => POp.call (.mk' rfl rfl rfl rfl (by first | rfl | ((repeat (first | exact hg | rfl | refine Bool.and_eq_true_iff.2 ⟨?_, ?_⟩)); done) | simp_all [strip, constAV])) (p123 (W := W) f hG.2.2.1)) ?_
 refine Pmv ?_; refine Pln ?_; refine Pcm ?_; refine Opk ?_; refine S2 ?_
 refine CW.cond rfl (fun h0 => ?_) (fun h0 => ?_)
 ·
  exfalso
  rw [h.1.2] at h0
  simp at h0
  omega
 ·
  refine S4 ?_; refine Omv ?_; refine Ola ?_; refine Omv ?_; refine Omv ?_
  refine OL.popC rfl rfl rfl (POp.call (.mk' rfl rfl rfl rfl rfl) (p124 (handed_ok hG.1 h.1.2) f hG.2.2.1 h.2)) ?_
  refine Oas ?_; refine Oas ?_; refine S3 ?_
  refine Done.retR (rs := [.tmp 8, .tmp 9]) (H' := H) rfl (.tmp rfl (.tmp rfl (.nil))) (AVleL.refl _) (by repeat (first | exact List.Sublist.refl _ | refine List.Sublist.cons _ ?_)) ?_
  exact ⟨by rfl, rfl⟩
theorem p68 (W : FW) (f : Fact) (objs : List Th) (args : List (Int × Int)) : PCall Tryz.prog 68 [AV.world W, AV.fact f, AV.things objs, AV.vals args] (.tup [.b (takesP W f objs args && ev (VO W objs args) f), .i (if takesP W f objs args = true then 0 else 2)]) := by
 cases h : takesP W f objs args with
 | true => exact p68g h
 | false =>
  cases hg : goodP W [f] with
  | false => exact p68n0 objs args hg
  | true => rw [takesP, hg, Bool.true_and] at h; exact p68n1 objs args hg h
instance : HasEq Tryz.prog 97 2 := ⟨by kernel_rfl⟩
end Go.Proofs.YtiljpbljebfhnaaGreat
