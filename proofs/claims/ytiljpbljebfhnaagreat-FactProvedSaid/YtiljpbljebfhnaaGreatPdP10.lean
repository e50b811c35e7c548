/- Part 10 of the proof: contracts of functions of the program and what they need. No condition beyond those that each theorem names. -/
import Derived.Test.YtiljpbljebfhnaaGreatPdP9
import Derived.ProofKit
set_option linter.unusedVariables false
set_option linter.unusedSimpArgs false
set_option maxRecDepth 10000
namespace Go.Proofs.YtiljpbljebfhnaaGreat
open Go.Eng
open Go.Eng.Fc
/-! ### what can be so has a model -/
theorem slots2_congr {W : FW} {kn : K2} {a : Int} {p : List Int} {c1 c2 : List Int → Bool} : ∀ (l : List Int) (must no : Nat), (∀ s ∈ l, c1 (p ++ [s]) = c2 (p ++ [s])) → slots2 W kn c1 a p l must no = slots2 W kn c2 a p l must no
  | [], _, _, _ => rfl
  | s :: r, must, no, h => by
    have h1 := h s (.head _)
    have hr : ∀ x ∈ r, c1 (p ++ [x]) = c2 (p ++ [x]) := fun x hx => h x (.tail _ hx)
    rw [slots2, slots2, h1, slots2_congr r _ _ hr, slots2_congr r _ _ hr, slots2_congr r _ _ hr]
theorem object2_congr {W : FW} {kn : K2} {a : Int} {p : List Int} {c1 c2 : List Int → Bool} (h : ∀ s ∈ (kn a p).slots, c1 (p ++ [s]) = c2 (p ++ [s])) : object2 W kn c1 a p = object2 W kn c2 a p := by
  rw [object2, object2, slots2_congr _ _ _ h]
def canAt (W : FW) (kn : K2) (a : Int) (p : List Int) : Bool := can2 W kn (2 - p.length) a p
def objAt (W : FW) (kn : K2) (a : Int) (p : List Int) : Nat × Bool := object2 W kn (canAt W kn a) a p
def vAt (W : FW) (kn : K2) (a : Int) (p : List Int) : Val :=
  if integer2 kn a p = true then .int (freeK (kn a p).nots (kn a p).low)
  else if none2 kn a p = true then .non
  else .obj fun c => c == 0 || (objAt W kn a p).1.testBit c
def stepV (W : FW) (kn : K2) (a : Int) (p : List Int) (v : Val) (s : Int) : Option Val := match v with
  | .obj S => if (decide (0 ≤ s) && decide (s < W.owner.length) && S (ownerN W s)) = true then (if (kn a p).slots.contains s = true then some (vAt W kn a (p ++ [s])) else some .non) else none
  | _ => none
def mkP (W : FW) (kn : K2) (a : Int) (p : List Int) : Option Val := (p.foldl (fun (st : List Int × Option Val) s => (st.1 ++ [s], st.2.bind fun v => stepV W kn a st.1 v s)) ([], some (vAt W kn a []))).2
def mkV (W : FW) (kn : K2) : VM := fun a p => if 0 ≤ a ∧ a < 3 then mkP W kn a p else none
theorem mk_fst (W : FW) (kn : K2) (a : Int) : ∀ (p : List Int) (st : List Int × Option Val), (p.foldl (fun (st : List Int × Option Val) s => (st.1 ++ [s], st.2.bind fun v => stepV W kn a st.1 v s)) st).1 = st.1 ++ p
  | [], st => by simp
  | s :: r, st => by rw [List.foldl_cons, mk_fst W kn a r]; simp
theorem mk_snoc (W : FW) (kn : K2) (a : Int) (p : List Int) (s : Int) : mkP W kn a (p ++ [s]) = (mkP W kn a p).bind fun v => stepV W kn a p v s := by
  rw [mkP, List.foldl_append, List.foldl_cons, List.foldl_nil, mk_fst]; rfl
theorem slots2_facts {W : FW} {kn : K2} {can : List Int → Bool} {a : Int} {p : List Int} : ∀ (l : List Int) (must no m' n' : Nat), slots2 W kn can a p l must no = some (m', n') →
    (∀ c, must.testBit c = true → m'.testBit c = true) ∧ (∀ c, no.testBit c = true → n'.testBit c = true) ∧ (∀ c, m'.testBit c = true → must.testBit c = true ∨ ∃ s ∈ l, c = ownerN W s) ∧
    ∀ s ∈ l, ((kn a (p ++ [s])).needed = true → m'.testBit (ownerN W s) = true ∧ can (p ++ [s]) = true) ∧ (can (p ++ [s]) = false → n'.testBit (ownerN W s) = true)
  | [], must, no, m', n', h => by
    rw [slots2] at h; cases h
    exact ⟨fun _ h => h, fun _ h => h, fun _ h => .inl h, fun s hs => by cases hs⟩
  | s :: r, must, no, m', n', h => by
    rw [slots2] at h
    cases hnd : (kn a (p ++ [s])).needed with
    | true =>
      rw [hnd] at h
      cases hcn : can (p ++ [s]) with
      | false => rw [hcn] at h; cases h
      | true =>
        rw [hcn] at h
        simp only [Bool.not_true, Bool.and_false, Bool.false_eq_true, if_false, if_true] at h
        obtain ⟨i1, i2, i3, i4⟩ := slots2_facts r _ _ _ _ h
        refine ⟨fun c hc => i1 c (by rw [or_bit, hc]; rfl), i2, fun c hc => ?_, fun x hx => ?_⟩
        · rcases i3 c hc with h' | ⟨x, hx, e⟩
          · rw [or_bit, Bool.or_eq_true, beq_iff_eq] at h'
            rcases h' with h' | h'
            · exact .inl h'
            · exact .inr ⟨s, .head _, h'⟩
          · exact .inr ⟨x, .tail _ hx, e⟩
        · rcases List.mem_cons.1 hx with rfl | hx
          · exact ⟨fun _ => ⟨i1 _ (by rw [or_bit]; simp [ownerN]), hcn⟩, fun hf => by rw [hcn] at hf; cases hf⟩
          · exact i4 x hx
    | false =>
      rw [hnd] at h
      cases hcn : can (p ++ [s]) with
      | false =>
        rw [hcn] at h
        simp only [Bool.not_false, Bool.and_true, Bool.false_and, Bool.false_eq_true, if_false, if_true] at h
        obtain ⟨i1, i2, i3, i4⟩ := slots2_facts r _ _ _ _ h
        refine ⟨i1, fun c hc => i2 c (by rw [or_bit, hc]; rfl), fun c hc => ?_, fun x hx => ?_⟩
        · rcases i3 c hc with h' | ⟨x, hx, e⟩
          · exact .inl h'
          · exact .inr ⟨x, .tail _ hx, e⟩
        · rcases List.mem_cons.1 hx with rfl | hx
          · exact ⟨fun hf => (by rw [hnd] at hf; cases hf), fun _ => i2 _ (by rw [or_bit]; simp [ownerN])⟩
          · exact i4 x hx
      | true =>
        rw [hcn] at h
        simp only [Bool.not_true, Bool.false_and, Bool.false_eq_true, if_false] at h
        obtain ⟨i1, i2, i3, i4⟩ := slots2_facts r _ _ _ _ h
        refine ⟨i1, i2, fun c hc => ?_, fun x hx => ?_⟩
        · rcases i3 c hc with h' | ⟨x, hx, e⟩
          · exact .inl h'
          · exact .inr ⟨x, .tail _ hx, e⟩
        · rcases List.mem_cons.1 hx with rfl | hx
          · exact ⟨fun hf => (by rw [hnd] at hf; cases hf), fun hf => by rw [hcn] at hf; cases hf⟩
          · exact i4 x hx
/-- what is known of an object that may stand at a spot -/
structure ObjF (W : FW) (kn : K2) (a : Int) (p : List Int) (R : Nat) : Prop where
  whole : (kn a p).whole = false
  m1 : (kn a p).must.testBit 1 = false
  m2 : (kn a p).must.testBit 2 = false
  n0 : (kn a p).no.testBit 0 = false
  must : ∀ c, (kn a p).must.testBit c = true → c ≠ 0 → R.testBit c = true
  no : ∀ c, (kn a p).no.testBit c = true → R.testBit c = false
  low : ∀ c, c < 3 → R.testBit c = false
  lt : ∀ c, R.testBit c = true → c < 3 + W.parents.length
  up : ∀ c b, R.testBit c = true → upB W c b = true → b ≠ 0 → R.testBit b = true
  slots : ∀ s ∈ (kn a p).slots, ((kn a (p ++ [s])).needed = true → R.testBit (ownerN W s) = true) ∧ (R.testBit (ownerN W s) = true → canAt W kn a (p ++ [s]) = true)
section
variable {W : FW} {ls : List FLit} (h : LsOk W ls)
include h
theorem can_at {a : Int} {p : List Int} (hp : p.length ≤ 2) : canAt W (stage2 ls) a p = (integer2 (stage2 ls) a p || none2 (stage2 ls) a p || (objAt W (stage2 ls) a p).2) := by
  rw [canAt, objAt]
  by_cases h2 : p.length = 2
  · rw [h2, show 2 - 2 = 0 from rfl, can2, object2_congr (c2 := canAt W (stage2 ls) a) (fun s hs => absurd (slot_len h hs) (by omega))]
  · obtain ⟨d, hd⟩ : ∃ d, 2 - p.length = d + 1 := ⟨1 - p.length, by omega⟩
    rw [hd, can2, object2_congr (c2 := canAt W (stage2 ls) a) (fun s hs => by rw [canAt]; congr 1; simp; omega)]
theorem obj_f {a : Int} {p : List Int} (ho : (objAt W (stage2 ls) a p).2 = true) : ObjF W (stage2 ls) a p (objAt W (stage2 ls) a p).1 := by
  have hW := world_len h.w
  rw [objAt] at ho ⊢
  generalize hob : object2 W (stage2 ls) (canAt W (stage2 ls) a) a p = ob at ho ⊢
  rw [object2] at hob
  by_cases hb : ((stage2 ls a p).whole || (stage2 ls a p).must.testBit 1 || (stage2 ls a p).must.testBit 2 || (stage2 ls a p).no.testBit 0) = true
  · rw [if_pos hb] at hob; rw [← hob] at ho; cases ho
  · rw [if_neg hb] at hob
    have hb := Bool.eq_false_iff.2 hb
    simp only [Bool.or_eq_false_iff] at hb
    cases hs : slots2 W (stage2 ls) (canAt W (stage2 ls) a) a p (stage2 ls a p).slots (stage2 ls a p).must (stage2 ls a p).no with
    | none => rw [hs] at hob; rw [← hob] at ho; cases ho
    | some mn =>
      obtain ⟨m', n'⟩ := mn
      rw [hs] at hob
      simp only [] at hob
      obtain ⟨f1, f2, f3, f4⟩ := slots2_facts _ _ _ _ _ hs
      rw [← hob] at ho ⊢
      simp only [] at ho ⊢
      have hz := zero_bits.1 ho
      have hown : ∀ s ∈ (stage2 ls a p).slots, 3 ≤ ownerN W s ∧ ownerN W s < 3 + W.parents.length := fun s hs => by
        have := owner_rng h.w (slot_in h hs)
        rw [ownerN]; omega
      have hm12 : ∀ c, c = 1 ∨ c = 2 → m'.testBit c = false := fun c hc => by
        rw [Bool.eq_false_iff]; intro hm
        rcases f3 c hm with h' | ⟨s, hs', e⟩
        · rcases hc with rfl | rfl
          · rw [hb.1.1.2] at h'; cases h'
          · rw [hb.1.2] at h'; cases h'
        · have := hown s hs'; omega
      have hmlt : ∀ c, m'.testBit c = true → c < 3 + W.parents.length := fun c hm => by
        rcases f3 c hm with h' | ⟨s, hs', e⟩
        · exact h.must_lt h'
        · rw [e]; exact (hown s hs').2
      have hX := closeK_get h.w W.parents.length 3 m' rfl
      have hlt : ∀ c, (closeK W W.parents.length 3 m').testBit c = true → c < 3 + W.parents.length := fun c hc => by
        rcases (hX c).1 hc with h1 | ⟨i, h1, h2, _, h4⟩
        · exact hmlt c h1
        · have := upB_le h.w i i (Nat.le_refl _) (by omega) c h4; omega
      have hR : ∀ c, (andNotP (closeK W W.parents.length 3 m') 1).testBit c = ((closeK W W.parents.length 3 m').testBit c && !(c == 0)) := fun c => by
        rw [andNot_bit, show (1 : Nat).testBit c = (c == 0) from by
          rcases c with _ | c
          · rfl
          · rw [Nat.testBit_succ]; simp]
        cases hc : (closeK W W.parents.length 3 m').testBit c with
        | false => simp
        | true => have := hlt c hc; rw [decide_eq_true (by omega)]; rfl
      have hRm : ∀ c, m'.testBit c = true → c ≠ 0 → (andNotP (closeK W W.parents.length 3 m') 1).testBit c = true := fun c hm hc => by
        rw [hR, (hX c).2 (.inl hm), show (c == 0) = false from by simpa using hc]; rfl
      have hRn : ∀ c, n'.testBit c = true → (andNotP (closeK W W.parents.length 3 m') 1).testBit c = false := fun c hn => by
        have := hz c
        rw [Nat.testBit_and, hn, Bool.and_true] at this; exact this
      refine ⟨hb.1.1.1, hb.1.1.2, hb.1.2, hb.2, fun c hc h0 => hRm c (f1 c hc) h0, fun c hc => hRn c (f2 c hc), fun c hc => ?_, fun c hc => ?_, fun c b hc hub hb0 => ?_, fun s hs' => ?_⟩
      · rw [hR, Bool.eq_false_iff]; intro hh
        rw [Bool.and_eq_true, Bool.not_eq_true', beq_eq_false_iff_ne] at hh
        rcases (hX c).1 hh.1 with h1 | ⟨i, h1, h2, _, h4⟩
        · rw [hm12 c (by omega)] at h1; cases h1
        · have := upB_le h.w i i (Nat.le_refl _) (by omega) c h4; omega
      · rw [hR, Bool.and_eq_true] at hc; exact hlt c hc.1
      · rw [hR, Bool.and_eq_true] at hc ⊢
        refine ⟨?_, by simpa using hb0⟩
        rw [hX b]
        rcases (hX c).1 hc.1 with h1 | ⟨i, h1, h2, h3, h4⟩
        · have hc0 : c ≠ 0 := by simpa using hc.2
          have hcl := hmlt c h1
          have hc12 : c ≠ 1 ∧ c ≠ 2 := ⟨fun e => (by rw [hm12 c (.inl e)] at h1; cases h1), fun e => by rw [hm12 c (.inr e)] at h1; cases h1⟩
          exact .inr ⟨c, by omega, by omega, h1, hub⟩
        · exact .inr ⟨i, h1, h2, h3, upB_trans h.w i i (Nat.le_refl _) (by omega) c b h4 hub⟩
      · refine ⟨fun hn => hRm _ ((f4 s hs').1 hn).1 (by have := hown s hs'; omega), fun hr => ?_⟩
        cases hcn : canAt W (stage2 ls) a (p ++ [s]) with
        | true => rfl
        | false => rw [hRn _ ((f4 s hs').2 hcn)] at hr; cases hr
/-- what stands at a spot where something may -/
theorem vat_cases {a : Int} {p : List Int} (hp : p.length ≤ 2) (hc : canAt W (stage2 ls) a p = true) :
    (integer2 (stage2 ls) a p = true ∧ vAt W (stage2 ls) a p = .int (freeK (stage2 ls a p).nots (stage2 ls a p).low)) ∨ (none2 (stage2 ls) a p = true ∧ vAt W (stage2 ls) a p = .non) ∨
    ((objAt W (stage2 ls) a p).2 = true ∧ vAt W (stage2 ls) a p = .obj fun c => c == 0 || (objAt W (stage2 ls) a p).1.testBit c) := by
  rw [can_at h hp] at hc
  unfold vAt
  by_cases hi : integer2 (stage2 ls) a p = true
  · rw [if_pos hi]; exact .inl ⟨hi, rfl⟩
  · rw [if_neg hi]
    by_cases hn : none2 (stage2 ls) a p = true
    · rw [if_pos hn]; exact .inr (.inl ⟨hn, rfl⟩)
    · rw [if_neg hn]
      rw [Bool.eq_false_iff.2 hi, Bool.eq_false_iff.2 hn] at hc
      exact .inr (.inr ⟨by simpa using hc, rfl⟩)
theorem own_ne {s : Int} (hs : 0 ≤ s ∧ s < W.owner.length) : ownerN W s ≠ 0 := by
  have := owner_rng h.w hs; rw [ownerN]; omega
theorem mk_inv (ht : together2 W ls = true) {a : Int} (ha : 0 ≤ a ∧ a < 3) : ∀ (n : Nat) (p : List Int), p.length = n → ∀ v, mkP W (stage2 ls) a p = some v → v = .non ∨ (v = vAt W (stage2 ls) a p ∧ p.length ≤ 2 ∧ canAt W (stage2 ls) a p = true)
  | 0, p, hp, v, hv => by
    rw [List.eq_nil_of_length_eq_zero hp] at hv ⊢
    have e : v = vAt W (stage2 ls) a [] := (Option.some.inj hv).symm
    refine .inr ⟨e, by simp, ?_⟩
    rw [together2, Bool.and_eq_true, Bool.and_eq_true] at ht
    have : a = 0 ∨ a = 1 ∨ a = 2 := by omega
    rcases this with rfl | rfl | rfl
    · exact ht.1.1
    · exact ht.1.2
    · exact ht.2
  | n + 1, p, hp, v, hv => by
    rcases List.eq_nil_or_concat p with rfl | ⟨q, s, rfl⟩
    · simp at hp
    · rw [List.concat_eq_append] at hp hv ⊢
      rw [mk_snoc] at hv
      obtain ⟨u, hu, hst⟩ := Option.bind_eq_some_iff.1 hv
      rcases mk_inv ht ha n q (by simpa using hp) u hu with rfl | ⟨rfl, hq, hc⟩
      · cases hst
      · rcases vat_cases h hq hc with ⟨_, e⟩ | ⟨_, e⟩ | ⟨ho, e⟩
        · rw [e] at hst; cases hst
        · rw [e] at hst; cases hst
        · rw [e] at hst
          simp only [stepV] at hst
          split at hst
          · rename_i hcond
            simp only [Bool.and_eq_true, decide_eq_true_eq, Bool.or_eq_true, beq_iff_eq] at hcond
            split at hst
            · rename_i hcs
              have hcs := List.contains_iff_mem.1 hcs
              have hl := slot_len h hcs
              refine .inr ⟨(Option.some.inj hst).symm, by simp; omega, ((obj_f h ho).slots s hcs).2 ?_⟩
              rcases hcond.2 with e0 | e0
              · exact absurd e0 (own_ne h hcond.1)
              · exact e0
            · exact .inl (Option.some.inj hst).symm
          · cases hst
theorem mk_ok (ht : together2 W ls = true) : VOk W (mkV W (stage2 ls)) := by
  refine ⟨fun a h0 h3 => ?_, fun a p n hv => ?_, fun a p S hv => ?_, fun a p s h0 h1 => ?_⟩
  · rw [mkV, if_pos ⟨h0, h3⟩]; rfl
  · rw [mkV] at hv
    split at hv
    · rename_i ha
      rcases mk_inv h ht ha p.length p rfl _ hv with e | ⟨e, hp, hc⟩
      · cases e
      · rcases vat_cases h hp hc with ⟨hi, e'⟩ | ⟨_, e'⟩ | ⟨_, e'⟩
        · rw [e'] at e; cases e
          rw [integer2, Bool.and_eq_true, decide_eq_true_eq] at hi
          have hk := freeK_spec (stage2 ls a p).nots (stage2 ls a p).low
          have ht' := h.tri a p
          have hf := (num_fold (freeK (stage2 ls a p).nots (stage2 ls a p).low) (ls.filter (hitL a p)) rs0 (fun l hm => (h.ok l (List.mem_filter.1 hm).1).op)).1 (by rw [← ht']; exact ⟨hk.2.1, hi.1, hk.1⟩)
          exact ⟨hf.1.1, hf.1.2.1⟩
        · rw [e'] at e; cases e
        · rw [e'] at e; cases e
    · cases hv
  · rw [mkV] at hv
    split at hv
    · rename_i ha
      rcases mk_inv h ht ha p.length p rfl _ hv with e | ⟨e, hp, hc⟩
      · cases e
      · rcases vat_cases h hp hc with ⟨hi, e'⟩ | ⟨_, e'⟩ | ⟨ho, e'⟩
        · rw [e'] at e; cases e
        · rw [e'] at e; cases e
        · rw [e'] at e; cases e
          have hF := obj_f h ho
          refine ⟨rfl, by simp [hF.low], by simp [hF.low], fun c hc' hS b hub => ?_⟩
          simp only [Bool.or_eq_true, beq_iff_eq] at hS ⊢
          by_cases hb0 : b = 0
          · exact .inl hb0
          · rcases hS with rfl | hS
            · rw [upB_low (by omega)] at hub; simp at hub; exact absurd hub hb0
            · exact .inr (hF.up c b hS hub hb0)
    · cases hv
  · rw [mkV]
    by_cases ha : 0 ≤ a ∧ a < 3
    · simp only [mkV, if_pos ha]
      rw [mk_snoc]
      constructor
      · intro hs
        obtain ⟨v, hv⟩ := Option.isSome_iff_exists.1 hs
        obtain ⟨u, hu, hst⟩ := Option.bind_eq_some_iff.1 hv
        cases u with
        | int n => cases hst
        | non => cases hst
        | obj S =>
          simp only [stepV] at hst
          split at hst
          · rename_i hcond
            rw [Bool.and_eq_true] at hcond
            exact ⟨S, hu, hcond.2⟩
          · cases hst
      · rintro ⟨S, hS, hSo⟩
        rw [hS]
        simp only [Option.bind_some, stepV]
        rw [if_pos (by simp [h0, h1, hSo])]
        split <;> rfl
    · simp only [mkV, if_neg ha]
      simp
theorem ends_no {a : Int} {p : List Int} {s : Int} (hs : s ∈ (stage2 ls a p).slots) (hn : (stage2 ls a (p ++ [s])).needed = true) : ends2 (stage2 ls) a p = false := by
  have _ := h
  rw [ends2, List.all_eq_false]; exact ⟨s, hs, by rw [hn]; simp⟩
theorem lit_way {l : FLit} (hl : l ∈ ls) (ht : together2 W ls = true) : ∀ (n : Nat) (p : List Int), p.length = n → p <+: l.f.path →
    (mkP W (stage2 ls) l.f.arg p = none ∧ l.neg = true) ∨ (mkP W (stage2 ls) l.f.arg p = some (vAt W (stage2 ls) l.f.arg p) ∧ canAt W (stage2 ls) l.f.arg p = true)
  | 0, p, hp, _ => by
    have hok := h.ok l hl
    rw [List.eq_nil_of_length_eq_zero hp]
    refine .inr ⟨rfl, ?_⟩
    rcases mk_inv h ht hok.arg 0 [] rfl _ (show mkP W (stage2 ls) l.f.arg [] = some (vAt W (stage2 ls) l.f.arg []) from rfl) with e | e
    · rw [together2, Bool.and_eq_true, Bool.and_eq_true] at ht
      have ha := hok.arg
      have : l.f.arg = 0 ∨ l.f.arg = 1 ∨ l.f.arg = 2 := by omega
      rcases this with e | e | e <;> rw [e]
      · exact ht.1.1
      · exact ht.1.2
      · exact ht.2
    · exact e.2.2
  | n + 1, p, hp, hpre => by
    rcases List.eq_nil_or_concat p with rfl | ⟨q, s, rfl⟩
    · simp at hp
    · rw [List.concat_eq_append] at hp hpre ⊢
      have hok := h.ok l hl
      have hway : wayL l.f.arg (q ++ [s]) l = true := by rw [wayL, Bool.and_eq_true, beg_iff]; exact ⟨by simp, hpre⟩
      have hs : s ∈ (stage2 ls l.f.arg q).slots := by rw [h.slots]; exact List.any_eq_true.2 ⟨l, hl, hway⟩
      have hnd : l.neg = false → (stage2 ls l.f.arg (q ++ [s])).needed = true := fun hn => by
        rw [h.need]; exact List.any_eq_true.2 ⟨l, hl, by rw [needL, hn, hway]; rfl⟩
      have hq : q.length ≤ 2 := by have := slot_len h hs; omega
      rw [mk_snoc]
      rcases lit_way hl ht n q (by simpa using hp) ((List.prefix_append _ _).trans hpre) with ⟨e, hn⟩ | ⟨e, hc⟩
      · rw [e]; exact .inl ⟨rfl, hn⟩
      · rw [e]
        simp only [Option.bind_some]
        rcases vat_cases h hq hc with ⟨hi, e'⟩ | ⟨hi, e'⟩ | ⟨ho, e'⟩
        · rw [e']
          refine .inl ⟨rfl, ?_⟩
          cases hn : l.neg with
          | true => rfl
          | false =>
            rw [integer2, plain2, ends_no h hs (hnd hn)] at hi
            simp at hi
        · rw [e']
          refine .inl ⟨rfl, ?_⟩
          cases hn : l.neg with
          | true => rfl
          | false =>
            rw [none2, plain2, ends_no h hs (hnd hn)] at hi
            simp at hi
        · have hF := (obj_f h ho).slots s hs
          have hr := slot_in h hs
          rw [e']
          simp only [stepV]
          by_cases hcond : (decide (0 ≤ s) && decide (s < W.owner.length) && (ownerN W s == 0 || (objAt W (stage2 ls) l.f.arg q).1.testBit (ownerN W s))) = true
          · rw [if_pos hcond, if_pos (List.contains_iff_mem.2 hs)]
            simp only [Bool.and_eq_true, decide_eq_true_eq, Bool.or_eq_true, beq_iff_eq] at hcond
            refine .inr ⟨rfl, hF.2 ?_⟩
            rcases hcond.2 with e0 | e0
            · exact absurd e0 (own_ne h hr)
            · exact e0
          · rw [if_neg hcond]
            refine .inl ⟨rfl, ?_⟩
            cases hn : l.neg with
            | true => rfl
            | false =>
              exfalso; apply hcond
              rw [decide_eq_true hr.1, decide_eq_true hr.2, hF.1 (hnd hn)]; simp
theorem mk_lits (ht : together2 W ls = true) : ∀ l ∈ ls, litV (mkV W (stage2 ls)) l = true := by
  intro l hl
  have hok := h.ok l hl
  have hhit : hitL l.f.arg l.f.path l = true := by simp [hitL]
  rw [litV, evL, mkV, if_pos hok.arg]
  rcases lit_way h hl ht _ l.f.path rfl (List.prefix_refl _) with ⟨e, hn⟩ | ⟨e, hc⟩
  · rw [e, hn]; rfl
  · rw [e]
    simp only []
    have hcl := hok.cls
    have hmu : l.f.op = 2 → l.neg = false → (stage2 ls l.f.arg l.f.path).must.testBit l.f.cls.toNat = true := fun h2 hn => by
      rw [h.must]; exact List.any_eq_true.2 ⟨l, hl, by rw [isL, hhit, h2, hn]; simp⟩
    have hno : l.f.op = 2 → l.neg = true → (stage2 ls l.f.arg l.f.path).no.testBit l.f.cls.toNat = true := fun h2 hn => by
      rw [h.no]; exact List.any_eq_true.2 ⟨l, hl, by rw [isL, hhit, h2, hn]; simp⟩
    have hwh : l.f.op ≠ 2 → l.neg = false → (stage2 ls l.f.arg l.f.path).whole = true := fun h2 hn => by
      rw [h.whole]; exact List.any_eq_true.2 ⟨l, hl, by rw [wholeL, hhit, hn]; simpa using h2⟩
    rcases vat_cases h hok.path hc with ⟨hi, e'⟩ | ⟨hi, e'⟩ | ⟨ho, e'⟩
    · rw [e']; unfold valL
      rw [integer2, Bool.and_eq_true, decide_eq_true_eq, plain_iff h] at hi
      by_cases h2 : l.f.op = 2
      · rw [if_pos h2, isC]
        cases hn : l.neg with
        | false =>
          have := hi.2.1 _ (hmu h2 hn)
          rcases this with e0 | e0
          · rw [e0]; rfl
          · rw [e0]; rfl
        | true =>
          have h1 := hno h2 hn
          have : ¬ (l.f.cls.toNat = 0 ∨ l.f.cls.toNat = (1 : Int).toNat) := fun hh => by rw [hi.2.2.1 _ hh] at h1; cases h1
          have e0 : (l.f.cls.toNat == 0 || l.f.cls.toNat == 1) = false := by
            rw [Bool.or_eq_false_iff, beq_eq_false_iff_ne, beq_eq_false_iff_ne]; exact not_or.1 this
          rw [e0]; rfl
      · rw [if_neg h2]
        simp only []
        have hk := freeK_spec (stage2 ls l.f.arg l.f.path).nots (stage2 ls l.f.arg l.f.path).low
        have ht' := h.tri l.f.arg l.f.path
        have hf := (num_fold (freeK (stage2 ls l.f.arg l.f.path).nots (stage2 ls l.f.arg l.f.path).low) (ls.filter (hitL l.f.arg l.f.path)) rs0 (fun l hm => (h.ok l (List.mem_filter.1 hm).1).op)).1 (by rw [← ht']; exact ⟨hk.2.1, hi.1, hk.1⟩)
        have := hf.2 l (List.mem_filter.2 ⟨hl, hhit⟩)
        rw [numOk, show (l.f.op == 2) = false from by simpa using h2, Bool.false_or] at this
        exact this
    · rw [e']; unfold valL
      rw [none2, Bool.and_eq_true, Bool.not_eq_true', plain_iff h] at hi
      by_cases h2 : l.f.op = 2
      · rw [if_pos h2, isC]
        cases hn : l.neg with
        | false =>
          have := hi.2.1 _ (hmu h2 hn)
          rcases this with e0 | e0
          · rw [e0]; rfl
          · rw [e0]; rfl
        | true =>
          have h1 := hno h2 hn
          have : ¬ (l.f.cls.toNat = 0 ∨ l.f.cls.toNat = (2 : Int).toNat) := fun hh => by rw [hi.2.2.1 _ hh] at h1; cases h1
          have e0 : (l.f.cls.toNat == 0 || l.f.cls.toNat == 2) = false := by
            rw [Bool.or_eq_false_iff, beq_eq_false_iff_ne, beq_eq_false_iff_ne]; exact not_or.1 this
          rw [e0]; rfl
      · rw [if_neg h2]
        cases hn : l.neg with
        | false => rw [hwh h2 hn] at hi; cases hi.1
        | true => rfl
    · rw [e']; unfold valL
      have hF := obj_f h ho
      by_cases h2 : l.f.op = 2
      · rw [if_pos h2, isC]
        cases hn : l.neg with
        | false =>
          by_cases h0 : l.f.cls.toNat = 0
          · rw [h0]; rfl
          · rw [hF.must _ (hmu h2 hn) h0]; simp
        | true =>
          have h1 := hno h2 hn
          have h0 : l.f.cls.toNat ≠ 0 := fun e0 => by rw [e0, hF.n0] at h1; cases h1
          rw [hF.no _ h1, show (l.f.cls.toNat == 0) = false from by simpa using h0]; rfl
      · rw [if_neg h2]
        cases hn : l.neg with
        | false => have := hwh h2 hn; rw [hF.whole] at this; cases this
        | true => rfl
theorem together_sem : together2 W ls = true ↔ ∃ V, VOk W V ∧ ∀ l ∈ ls, litV V l = true :=
  ⟨fun ht => ⟨_, mk_ok h ht, mk_lits h ht⟩, fun ⟨_, hV, hl⟩ => sem_together h hV hl⟩
end
/-- a fact can be so just if it is so in some model -/
theorem can_sem {W : FW} (hW : worldP W = true) {f : Fact} (hf : wfB W f = true) : canC W f = true ↔ ∃ V, VOk W V ∧ ev V f = true := by
  rw [canC, List.any_eq_true]
  constructor
  · rintro ⟨c, hc, ht⟩
    obtain ⟨V, hV, hl⟩ := (together_sem (case_ls hW hf hc)).1 ht
    refine ⟨V, hV, ?_⟩
    have := cases_ev V f (wf_ok f hf) false
    rw [Bool.bne_false] at this
    rw [← this]
    exact List.any_eq_true.2 ⟨c, hc, List.all_eq_true.2 hl⟩
  · rintro ⟨V, hV, he⟩
    have := cases_ev V f (wf_ok f hf) false
    rw [Bool.bne_false, he] at this
    obtain ⟨c, hc, hl⟩ := List.any_eq_true.1 this
    exact ⟨c, hc, sem_together (case_ls hW hf hc) hV (List.all_eq_true.1 hl)⟩
end Go.Proofs.YtiljpbljebfhnaaGreat

set_option linter.unusedVariables false
set_option linter.unusedSimpArgs false
set_option maxRecDepth 10000
namespace Go.Proofs.YtiljpbljebfhnaaGreat
open Go.Eng
open Go.Eng.Fc
def okImp (W : FW) (p : Fact × Fact) : Bool := !goodP W [p.1] || !goodP W [p.2] || impC W p.1 p.2
theorem code0 {b : Bool} : ((if b = true then (0 : Int) else 2) != 0) = !b := by cases b <;> rfl
section
variable {W : FW} {a b c : Fact} (ha : goodP W [a] = true) (hb : goodP W [b] = true) (hc : goodP W [c] = true)
include ha hb
include hc
end
end Go.Proofs.YtiljpbljebfhnaaGreat

set_option linter.unusedVariables false
set_option linter.unusedSimpArgs false
set_option maxRecDepth 10000
namespace Go.Proofs.YtiljpbljebfhnaaGreat
open Go.Eng
open Go.Eng.Fc
abbrev U8 := Fin 256
abbrev AV.u8 (x : U8) : AV := .val (.int .u8 (x.val : Int))
theorem tm_b (p : U8) (n : Nat) : 0 ≤ (p.val : Int).tmod n ∧ (p.val : Int).tmod n ≤ 255 := by
  have := p.isLt
  rw [Int.tmod_eq_emod_of_nonneg (by omega)]
  rcases Nat.eq_zero_or_pos n with rfl | hn
  · simp; omega
  · have h1 := Int.emod_nonneg (p.val : Int) (b := (n : Int)) (by omega)
    have h2 : (p.val : Int) % (n : Int) ≤ p.val := by exact_mod_cast Nat.mod_le p.val n
    omega
/-! ### a bigger world -/
structure BigW (W W' : FW) : Prop where
  ok : worldP W = true
  ok' : worldP W' = true
  par : W.parents <+: W'.parents
  own : W.owner <+: W'.owner
theorem BigW.np {W W' : FW} (h : BigW W W') : W.parents.length ≤ W'.parents.length := h.par.length_le
theorem BigW.no {W W' : FW} (h : BigW W W') : W.owner.length ≤ W'.owner.length := h.own.length_le
theorem BigW.par_at {W W' : FW} (h : BigW W W') {i : Nat} (hi : i < W.parents.length) : W'.parents.getD i default = W.parents.getD i default := by
  obtain ⟨t, ht⟩ := h.par
  rw [← ht, List.getD_eq_getElem?_getD, List.getElem?_append_left hi, List.getD_eq_getElem?_getD]
theorem BigW.own_at {W W' : FW} (h : BigW W W') {s : Int} (hs : 0 ≤ s ∧ s < W.owner.length) : ownerN W' s = ownerN W s := by
  obtain ⟨t, ht⟩ := h.own
  rw [ownerN, ownerN, ← ht, List.getD_eq_getElem?_getD, List.getElem?_append_left (by omega), List.getD_eq_getElem?_getD]
theorem BigW.up {W W' : FW} (h : BigW W W') : ∀ (n c : Nat), c ≤ n → c < 3 + W.parents.length → ∀ b, upB W' c b = upB W c b := by
  intro n
  induction n with
  | zero => intro c hn hc b; rw [upB_low (by omega), upB_low (by omega)]
  | succ n ih =>
    intro c hn hc b
    by_cases h3 : c < 3
    · rw [upB_low h3, upB_low h3]
    · obtain ⟨i, rfl⟩ : ∃ i, c = 3 + i := ⟨c - 3, by omega⟩
      have hnp := h.np
      rw [upB_own h.ok' (by omega), upB_own h.ok (by omega), h.par_at (by omega)]
      congr 1
      refine any_congr_mem fun p hp => ?_
      have h2 := parents_lt i _ _ (by have := parentss_at W.parents 0 i (by have := h.ok; simp only [worldP, Bool.and_eq_true] at this; exact this.1.2) (by omega); simpa using this) p hp
      exact ih p.toNat (by omega) (by omega) b
theorem BigW.node {W W' : FW} (h : BigW W W') {f : Fact} (hf : nodeOkB W f = true) : nodeOkB W' f = true := by
  have hnp := h.np
  have hno := h.no
  simp only [nodeOkB, Bool.and_eq_true] at hf ⊢
  refine ⟨hf.1, ?_⟩
  have h2 := hf.2
  by_cases hl : leafP f = true
  · rw [if_pos hl] at h2 ⊢
    simp only [Bool.and_eq_true, argP, leafOkP, pathP, Bool.not_eq_true', Bool.or_eq_false_iff, decide_eq_false_iff_not, Bool.not_eq_false', List.all_eq_true, decide_eq_true_eq, slotP] at h2 ⊢
    refine ⟨⟨h2.1.1, h2.1.2.1, fun s hs => ?_⟩, ?_⟩
    · have := h2.1.2.2 s hs; omega
    · have h3 := h2.2
      by_cases ho : f.op = 2
      · rw [if_pos ho] at h3 ⊢
        simp only [Bool.and_eq_true, classP, decide_eq_true_eq] at h3 ⊢
        exact ⟨h3.1, h3.2.1, by omega⟩
      · rw [if_neg ho] at h3 ⊢; exact h3
  · rw [if_neg hl] at h2 ⊢; exact h2
theorem BigW.wf {W W' : FW} (h : BigW W W') : ∀ f : Fact, wfB W f = true → wfB W' f = true := by
  refine Fact.ind1 fun f ih hf => ?_
  rw [wfB_iff] at hf ⊢
  exact ⟨h.node hf.1, fun k hk => ih k hk (hf.2 k hk)⟩
theorem BigW.good {W W' : FW} (h : BigW W W') {l : List Fact} (hl : goodP W l = true) : goodP W' l = true := by
  simp only [goodP, Bool.and_eq_true, List.all_eq_true] at hl ⊢
  refine ⟨h.ok', fun f hf => ?_⟩
  have := hl.2 f hf
  rw [← formed_eq, Bool.and_eq_true] at this ⊢
  exact ⟨this.1, h.wf f this.2⟩
/-- a model of the bigger world, seen from the lesser one -/
def cutVal (n : Nat) : Val → Val
  | .obj S => .obj fun c => S c && decide (c < n)
  | v => v
def cutV (n : Nat) (V : VM) : VM := fun a p => (V a p).map (cutVal n)
theorem cut_isC {n c : Nat} (hc : c < n) (v : Val) : isC (cutVal n v) c = isC v c := by
  cases v with
  | int m => rfl
  | non => rfl
  | obj S => simp [isC, cutVal, hc]
theorem cut_valL {W : FW} {f : Fact} (hf : nodeOkB W f = true) (hl : leafP f = true) (v : Val) : valL f (cutVal (3 + W.parents.length) v) = valL f v := by
  by_cases h2 : f.op = 2
  · rw [valL_is h2, valL_is h2]
    refine cut_isC ?_ v
    simp only [nodeOkB, Bool.and_eq_true] at hf
    have h3 := hf.2
    rw [if_pos hl, Bool.and_eq_true, leafOkP, if_pos h2] at h3
    simp only [Bool.and_eq_true, classP, decide_eq_true_eq] at h3
    omega
  · rw [valL_no h2, valL_no h2]
    cases v <;> rfl
theorem ev_congr {W : FW} {V V' : VM} (h : ∀ f, nodeOkB W f = true → leafP f = true → evL V' f = evL V f) : ∀ f : Fact, wfB W f = true → ev V' f = ev V f := by
  refine Fact.ind1 fun f ih hf => ?_
  have hk := (wfB_iff.1 hf).2
  have hn := (wfB_iff.1 hf).1
  have hok := wf_ok f hf
  by_cases hl : leafP f = true
  · rw [ev_leaf hl, ev_leaf hl, h f hn hl]
  by_cases h1 : f.op = 1
  · rw [ev_true h1, ev_true h1]
  by_cases h5 : f.op = 5
  · have := kids_one hok h5
    rw [ev_not h5 (by omega), ev_not h5 (by omega), ih _ (getD_mem (by omega)) (hk _ (getD_mem (by omega)))]
  have hlf' : leafP f = false := by simpa using hl
  have h2 := kids_two hok h1 h5 hlf'
  have h67 : f.op = 6 ∨ f.op = 7 := by
    simp only [nodeOkB, Bool.and_eq_true, decide_eq_true_eq] at hn
    simp only [leafP, Bool.and_eq_false_iff, decide_eq_false_iff_not] at hlf'
    omega
  have e0 := ih _ (getD_mem (l := f.kids) (k := 0) (by omega)) (hk _ (getD_mem (by omega)))
  have e1 := ih _ (getD_mem (l := f.kids) (k := 1) (by omega)) (hk _ (getD_mem (by omega)))
  rcases h67 with e | e
  · rw [ev_and e (by omega), ev_and e (by omega), e0, e1]
  · rw [ev_or e (by omega), ev_or e (by omega), e0, e1]
theorem BigW.cut_ok {W W' : FW} (h : BigW W W') {V : VM} (hV : VOk W' V) : VOk W (cutV (3 + W.parents.length) V) := by
  have hnp := h.np
  have hno := h.no
  refine ⟨fun a h0 h3 => by rw [cutV, Option.isSome_map]; exact hV.root a h0 h3, fun a p n hv => ?_, fun a p S hv => ?_, fun a p s h0 h1 => ?_⟩
  · obtain ⟨v, h1, h2⟩ := Option.map_eq_some_iff.1 hv
    cases v with
    | int m => cases h2; exact hV.int a p _ h1
    | non => cases h2
    | obj S => cases h2
  · obtain ⟨v, h1, h2⟩ := Option.map_eq_some_iff.1 hv
    cases v with
    | int m => cases h2
    | non => cases h2
    | obj S' =>
      cases h2
      obtain ⟨a1, a2, a3, a4⟩ := hV.obj a p S' h1
      refine ⟨by simp [a1]; omega, by simp [a2], by simp [a3], fun c hc hS b hub => ?_⟩
      simp only [Bool.and_eq_true, decide_eq_true_eq] at hS ⊢
      have hb := upB_le h.ok c c (Nat.le_refl _) hc b hub
      refine ⟨a4 c (by omega) hS.1 b ?_, by omega⟩
      rw [h.up c c (Nat.le_refl _) hc]; exact hub
  · rw [cutV, cutV, Option.isSome_map, hV.step a p s h0 (by omega)]
    have ho := owner_rng h.ok ⟨h0, h1⟩
    rw [h.own_at ⟨h0, h1⟩]
    constructor
    · rintro ⟨S, hS, hSo⟩
      refine ⟨_, by rw [hS]; rfl, ?_⟩
      simp only [Bool.and_eq_true, decide_eq_true_eq]
      exact ⟨hSo, by rw [ownerN]; omega⟩
    · rintro ⟨S, hS, hSo⟩
      obtain ⟨v, h2, h3⟩ := Option.map_eq_some_iff.1 hS
      cases v with
      | int m => cases h3
      | non => cases h3
      | obj S' =>
        cases h3
        simp only [Bool.and_eq_true] at hSo
        exact ⟨S', h2, hSo.1⟩
def oldB (W : FW) (p : List Int) : Bool := p.all fun s => decide (0 ≤ s) && decide (s < W.owner.length)
def extV (W W' : FW) (V : VM) : VM := fun a p =>
  if oldB W p = true then V a p
  else match p.getLast? with
    | none => none
    | some s => if oldB W p.dropLast = true ∧ 0 ≤ s ∧ s < W'.owner.length then (match V a p.dropLast with | some (.obj S) => if (S (ownerN W' s) && decide (ownerN W' s < 3 + W.parents.length)) = true then some .non else none | _ => none) else none
theorem cut_old {W W' : FW} (h : BigW W W') {V : VM} (hV : VOk W V) : VOk W (cutV (3 + W.parents.length) V) := BigW.cut_ok ⟨h.ok, h.ok, List.prefix_refl _, List.prefix_refl _⟩ hV
theorem ext_ok {W W' : FW} (h : BigW W W') {V : VM} (hV : VOk W V) (hcut : ∀ a p S, V a p = some (.obj S) → ∀ c, S c = true → c < 3 + W.parents.length) : VOk W' (extV W W' V) := by
  have hnp := h.np
  have hno := h.no
  have old : ∀ a p, oldB W p = true → extV W W' V a p = V a p := fun a p hp => by rw [extV, if_pos hp]
  have new : ∀ a p v, oldB W p = false → extV W W' V a p = some v → v = .non := fun a p v hp hv => by
    rw [extV, if_neg (by rw [hp]; simp)] at hv
    split at hv
    · cases hv
    · split at hv
      · split at hv
        · split at hv
          · exact (Option.some.inj hv).symm
          · cases hv
        · cases hv
      · cases hv
  refine ⟨fun a h0 h3 => by rw [old a [] rfl]; exact hV.root a h0 h3, fun a p n hv => ?_, fun a p S hv => ?_, fun a p s h0 h1 => ?_⟩
  · cases ho : oldB W p with
    | true => rw [old a p ho] at hv; exact hV.int a p n hv
    | false => cases new a p _ ho hv
  · cases ho : oldB W p with
    | true =>
      rw [old a p ho] at hv
      obtain ⟨a1, a2, a3, a4⟩ := hV.obj a p S hv
      refine ⟨a1, a2, a3, fun c hc hS b hub => ?_⟩
      have hcl := hcut a p S hv c hS
      rw [h.up c c (Nat.le_refl _) hcl] at hub
      exact a4 c hcl hS b hub
    | false => cases new a p _ ho hv
  · cases ho : oldB W p with
    | true =>
      rw [old a p ho]
      by_cases hs : s < W.owner.length
      · rw [old a (p ++ [s]) (by rw [oldB, List.all_append, ← oldB, ho]; simp [h0, hs]), hV.step a p s h0 hs, h.own_at ⟨h0, hs⟩]
      · have hn : oldB W (p ++ [s]) = false := by rw [oldB, List.all_append, ← oldB, ho]; simp; omega
        rw [extV, if_neg (by rw [hn]; simp), List.getLast?_concat, List.dropLast_concat]
        simp only []
        rw [if_pos ⟨ho, h0, h1⟩]
        cases hv : V a p with
        | none => simp
        | some v =>
          cases v with
          | int m => simp
          | non => simp
          | obj S =>
            simp only []
            constructor
            · intro hh
              split at hh
              · rename_i hc
                rw [Bool.and_eq_true] at hc
                exact ⟨S, rfl, hc.1⟩
              · cases hh
            · rintro ⟨S', e, hS⟩
              cases e
              rw [if_pos (by rw [hS, decide_eq_true (hcut a p S hv _ hS)]; rfl)]; rfl
    | false =>
      have hn : oldB W (p ++ [s]) = false := by rw [oldB, List.all_append, ← oldB, ho]; rfl
      have e1 : extV W W' V a (p ++ [s]) = none := by
        rw [extV, if_neg (by rw [hn]; simp), List.getLast?_concat, List.dropLast_concat]
        simp only []
        rw [if_neg (by rw [ho]; simp)]
      rw [e1]
      constructor
      · intro hh; cases hh
      · rintro ⟨S, hS, _⟩
        cases new a p _ ho hS
theorem leaf_old {W : FW} {f : Fact} (hf : nodeOkB W f = true) (hl : leafP f = true) : oldB W f.path = true := by
  simp only [nodeOkB, Bool.and_eq_true] at hf
  have h3 := hf.2
  rw [if_pos hl] at h3
  simp only [Bool.and_eq_true, argP, pathP, Bool.not_eq_true', Bool.or_eq_false_iff, Bool.not_eq_false'] at h3
  exact h3.1.2.2
theorem BigW.can {W W' : FW} (h : BigW W W') {f : Fact} (hf : wfB W f = true) : canC W' f = canC W f := by
  rw [Bool.eq_iff_iff, can_sem h.ok' (h.wf f hf), can_sem h.ok hf]
  constructor
  · rintro ⟨V, hV, he⟩
    refine ⟨_, h.cut_ok hV, ?_⟩
    rw [← he]
    refine ev_congr (W := W) (fun f hf hl => ?_) f hf
    rw [evL, evL, cutV]
    cases V f.arg f.path with
    | none => rfl
    | some v => exact cut_valL hf hl v
  · rintro ⟨V, hV, he⟩
    have h1 := cut_old h hV
    refine ⟨_, ext_ok h h1 (fun a p S hS c hc => ?_), ?_⟩
    · obtain ⟨v, e1, e2⟩ := Option.map_eq_some_iff.1 hS
      cases v with
      | int m => cases e2
      | non => cases e2
      | obj S' =>
        cases e2
        simp only [Bool.and_eq_true, decide_eq_true_eq] at hc
        exact hc.2
    · rw [← he]
      refine ev_congr (W := W) (fun f hf hl => ?_) f hf
      rw [evL, evL, extV, if_pos (leaf_old hf hl), cutV]
      cases V f.arg f.path with
      | none => rfl
      | some v => exact cut_valL hf hl v
theorem BigW.imp {W W' : FW} (h : BigW W W') {a b : Fact} (ha : wfB W a = true) (hb : wfB W b = true) : impC W' a b = impC W a b := by
  rw [impC, impC, h.can (wf_and ha (wf_not hb))]
end Go.Proofs.YtiljpbljebfhnaaGreat

set_option linter.unusedVariables false
set_option linter.unusedSimpArgs false
set_option maxRecDepth 10000
namespace Go.Proofs.YtiljpbljebfhnaaGreat
open Go.Eng
open Go.Eng.Fc
theorem tm_lt (p : U8) {n : Nat} (hn : 0 < n) : (p.val : Int).tmod n < n := by
  rw [Int.tmod_eq_emod_of_nonneg (by omega)]
  exact Int.emod_lt_of_pos _ (by omega)
end Go.Proofs.YtiljpbljebfhnaaGreat

set_option linter.unusedVariables false
set_option linter.unusedSimpArgs false
set_option maxRecDepth 10000
namespace Go.Proofs.YtiljpbljebfhnaaGreat
open Go.Eng
open Go.Eng.Fc
open Go.ChangeShapes
section
variable {H : Type} {enc : TypeId × Value → H} {w : World} {base : Nat} {spare : Nat → Bool} {held : Bool}
theorem reads_u8f (n : Nat) : Reads enc Tryz.prog w base spare held n 5 (fun q : U8 => [AV.u8 q]) := fun fuel _ cs x h => by
  obtain ⟨q, rfl, _, hw⟩ := DataW.trod_int Tryz.underlying5 h
  simp [Lit.wf, IntKind.min, IntKind.max, IntKind.signed, IntKind.bits] at hw
  exact ⟨⟨q.toNat, by omega⟩, .cons _ _ _ _ (by rw [AV.u8, Int.toNat_of_nonneg (by omega)]; exact .val _) .nil⟩
end
section
variable {H : Type} {enc : TypeId × Value → H} {w : World} {v : Value} {d : DataW H} {ps : List MemPlace} {base base' : Nat} {r : Reach}
theorem u8_of (hv : Value.okWide Tryz.prog w r base 5 v) (h : DataW.Trod enc Tryz.prog w base' (fun _ => true) true 5 v d ps) : ∃ n : U8, Rel (allI w) w (AV.u8 n) v := by
  obtain ⟨fuel, h⟩ := h
  obtain ⟨n, hn⟩ := reads_u8f fuel fuel (Nat.le_refl _) _ _ h
  exact ⟨n, one_rel (by kernel_rfl) hv hn⟩
end
end Go.Proofs.YtiljpbljebfhnaaGreat

set_option linter.unusedVariables false
set_option linter.unusedSimpArgs false
set_option maxRecDepth 10000
namespace Go.Proofs.YtiljpbljebfhnaaGreat
open Go.Eng
open Go.Eng.Fc
end Go.Proofs.YtiljpbljebfhnaaGreat

set_option linter.unusedVariables false
set_option linter.unusedSimpArgs false
set_option maxRecDepth 10000
namespace Go.Proofs.YtiljpbljebfhnaaGreat
open Go.Eng
open Go.Eng.Fc
/-! ### weights that no step makes greater -/
end Go.Proofs.YtiljpbljebfhnaaGreat

set_option linter.unusedVariables false
set_option linter.unusedSimpArgs false
set_option maxRecDepth 10000
namespace Go.Proofs.YtiljpbljebfhnaaGreat
open Go.Eng
open Go.Eng.Fc
def zeroF : Fact := .mk 0 0 [] 0 0 []
theorem zero_le : AVleL [.i 0, .i 0, .val (.slice none 0 0), .i 0, .i 0, .val (.slice none 0 0)] (Fcells zeroF) := nilFact_le 0
end Go.Proofs.YtiljpbljebfhnaaGreat

set_option linter.unusedVariables false
set_option linter.unusedSimpArgs false
set_option maxRecDepth 10000
namespace Go.Proofs.YtiljpbljebfhnaaGreat
open Go.Eng
open Go.Eng.Fc
/-! ### nodes, without those that are FactTrue -/
end Go.Proofs.YtiljpbljebfhnaaGreat

set_option linter.unusedVariables false
set_option linter.unusedSimpArgs false
set_option maxRecDepth 10000
namespace Go.Proofs.YtiljpbljebfhnaaGreat
open Go.Eng
open Go.Eng.Fc
/-- what is known of a fact that is made short -/
structure ShortOk (W : FW) (f g : Fact) : Prop where
  good : goodP W [g] = true
  le : nodesN g ≤ 12
  same : (okImp W (g, f) && okImp W (f, g)) = true
  again : shortF2 W g = g
  cant : canC W f = false → g = noF
  less : canC W f = true → nodesN g ≤ nodesN f
end Go.Proofs.YtiljpbljebfhnaaGreat

set_option linter.unusedVariables false
set_option linter.unusedSimpArgs false
set_option maxRecDepth 10000
namespace Go.Proofs.YtiljpbljebfhnaaGreat
open Go.Eng
open Go.Eng.Fc
def badN (m : Nat) (l : List Int) (k : Nat) : Bool := bif (bif decide (l.getD k default < 0) then true else decide (l.getD k default ≥ m)) then true else bif decide ((k : Int) > 0) then decide (l.getD ((k : Int) - 1).toNat default ≥ l.getD k default) else false
theorem badN_eq (m : Nat) (l : List Int) (k : Nat) : badN m l k = ((decide (l.getD k default < 0) || decide (l.getD k default ≥ m)) || (decide ((k : Int) > 0) && decide (l.getD ((k : Int) - 1).toNat default ≥ l.getD k default))) := by
  unfold badN; cases decide (l.getD k default < 0) <;> cases decide (l.getD k default ≥ m) <;> cases decide ((k : Int) > 0) <;> rfl
def incB (m : Nat) (l : List Int) : Bool := (List.range l.length).all fun k => !badN m l k
def listsB (ms : List Nat) (p : List (List Int)) : Bool := (List.range p.length).all fun i => incB (ms.getD i default) (p.getD i default)
def provesB (W : FW) (cs : List (List FLit)) (p : List (List Int)) : Bool := (List.range cs.length).all fun i => !together2 W (pickL (cs.getD i default) (p.getD i default))
theorem range_all {n : Nat} {p : Nat → Bool} (h : ∀ i, i < n → p i = true) : (List.range n).all p = true := List.all_eq_true.2 fun i hi => h i (List.mem_range.1 hi)
theorem range_no {n i : Nat} {p : Nat → Bool} (hi : i < n) (h : p i = false) : (List.range n).all p = false := List.all_eq_false.2 ⟨i, List.mem_range.2 hi, by rw [h]; simp⟩
theorem inc_rng {m : Nat} {l : List Int} (h : incB m l = true) : ∀ n ∈ l, 0 ≤ n ∧ n < m := fun n hn => by
  obtain ⟨k, hk, rfl⟩ := List.getElem_of_mem hn
  have := List.all_eq_true.1 h k (List.mem_range.2 hk)
  simp only [badN_eq, Bool.not_eq_true', Bool.or_eq_false_iff, decide_eq_false_iff_not] at this
  rw [getD_lt hk] at this
  omega
theorem inc_at {m : Nat} {l : List Int} (h : incB m l = true) : ∀ k, k < l.length → (k : Int) ≤ l.getD k default := by
  intro k
  induction k with
  | zero => intro hk; have := inc_rng h _ (getD_mem hk); omega
  | succ k ih =>
    intro hk
    have h1 := ih (by omega)
    have := List.all_eq_true.1 h (k + 1) (List.mem_range.2 hk)
    simp only [badN_eq, Bool.not_eq_true', Bool.or_eq_false_iff, Bool.and_eq_false_iff, decide_eq_false_iff_not] at this
    rw [show (((k + 1 : Nat) : Int) - 1).toNat = k by omega] at this
    omega
theorem inc_len {m : Nat} {l : List Int} (h : incB m l = true) : l.length ≤ m := by
  rcases Nat.eq_zero_or_pos l.length with h0 | h0
  · omega
  · have h1 := inc_at h (l.length - 1) (by omega)
    have h2 := inc_rng h _ (getD_mem (l := l) (k := l.length - 1) (by omega))
    omega
theorem lists_at {ms : List Nat} {p : List (List Int)} (h : listsB ms p = true) {i : Nat} (hi : i < p.length) : incB (ms.getD i default) (p.getD i default) = true := List.all_eq_true.1 h i (List.mem_range.2 hi)
theorem map_len_at {α : Type} {cs : List (List α)} {i : Nat} (hi : i < cs.length) : (cs.map List.length).getD i default = (cs.getD i default).length := by
  rw [getD_lt (by simpa using hi), getD_lt hi, List.getElem_map]
/-- literals with some numbers, as facts -/
def someF (L : List Fact) (ns : List Int) : List Fact := ns.map fun n => L.getD n.toNat default
theorem some_pick (c : List FLit) {ns : List Int} (hr : ∀ n ∈ ns, 0 ≤ n ∧ n < c.length) : someF (factL c) ns = factL (pickL c ns) := by
  rw [someF, pickL, factL, factL, List.map_map]
  refine List.map_congr_left fun n hn => ?_
  have := hr n hn
  rw [getD_lt (by simp; omega), List.getElem_map]
  show litF _ = litF (c.getD n.toNat default)
  rw [getD_lt (by omega)]
theorem LsOk.pick {W : FW} {c : List FLit} (h : LsOk W c) {ns : List Int} (hr : ∀ n ∈ ns, 0 ≤ n ∧ n < c.length) : LsOk W (pickL c ns) := by
  have hm : ∀ l ∈ pickL c ns, l ∈ c := fun l hl => by
    obtain ⟨n, hn, rfl⟩ := List.mem_map.1 hl
    have := hr n hn
    exact getD_mem (by omega)
  exact ⟨h.w, fun l hl => h.ok l (hm l hl), fun l hl => h.cls l (hm l hl)⟩
end Go.Proofs.YtiljpbljebfhnaaGreat

set_option linter.unusedVariables false
set_option linter.unusedSimpArgs false
set_option maxRecDepth 10000
namespace Go.Proofs.YtiljpbljebfhnaaGreat
open Go.Eng
open Go.Eng.Fc
theorem p57 (cs : List (List Fact)) (p : List (List Int)) : PCall Tryz.prog 57 [AV.factss cs, AV.intss p] (.b (decide (cs.length = p.length) && listsB (cs.map List.length) p)) := by
  intro H
  refine ACall.mk' (n := 54) Tryz.func57 rfl (by kernel_rfl) rfl rfl (fun B I w0 => ?_)
  refine S2 ?_; refine Oas ?_; refine S5 ?_; refine Omv ?_; refine Oln ?_; refine Omv ?_; refine Oln ?_; refine Ocm ?_; refine S2 ?_
  refine CW.cond rfl (fun h0 => ?_) (fun h0 => ?_)
  ·
    replace h0 := nm h0
    have hne : ¬ cs.length = p.length := fun e => h0 (by omega)
    refine S2 ?_; refine Oas ?_; refine S4 ?_
    refine r1 4 (H) ?_
    exact ⟨retB (by rw [decide_eq_false hne]; rfl), rfl⟩
  ·
    replace h0 := nm h0
    have hle : cs.length = p.length := by omega
    rw [decide_eq_true hle, Bool.true_and]
    refine S5 ?_; refine Omv ?_; refine Oln ?_; refine Omv ?_; refine S3 ?_
    refine lj (fun m st => ∃ i : Nat, st = ⟨[(16, .i i), (15, .i p.length), (14, AV.intss p), (4, .b false), (1, AV.intss p), (0, AV.factss cs)], H⟩ ∧ m = p.length - i ∧ i ≤ p.length ∧ ∀ q, q < i → incB ((cs.map List.length).getD q default) (p.getD q default) = true) (⟨0, rfl, rfl, by omega, fun q hq => by omega⟩) ?_
    rintro m _ ⟨i, rfl, rfl, hi, hall⟩
    refine CW.boundM (t := 14) rfl (fun hb14 => ?_)
    refine S2 ?_; refine Ocm ?_; refine S3 ?_
    refine CW.cond rfl (fun h1 => ?_) (fun h1 => ?_)
    ·
      replace h1 := nm h1
      have hil : i < p.length := by omega
      have hmi := map_len_at (cs := cs) (i := i) (by omega)
      refine S6 ?_; refine Omv ?_; refine Oix ?_; refine Old ?_; refine Oas ?_; refine Oas ?_; refine S4 ?_; refine Omv ?_; refine Oln ?_; refine Omv ?_; refine S3 ?_
      refine lj (fun m st => ∃ k : Nat, st = ⟨[(23, .i k), (22, .i (p.getD i default).length), (21, AV.ints (p.getD i default)), (6, AV.ints (p.getD i default)), (5, .i i), (16, .i i), (15, .i p.length), (14, AV.intss p), (4, .b false), (1, AV.intss p), (0, AV.factss cs)], H⟩ ∧ m = (p.getD i default).length - k ∧ k ≤ (p.getD i default).length ∧ ∀ q, q < k → badN (cs.getD i default).length (p.getD i default) q = false) (⟨0, rfl, rfl, by omega, fun q hq => by omega⟩) ?_
      rintro m _ ⟨k, rfl, rfl, hk, hin⟩
      refine CW.boundM (t := 21) rfl (fun hb21 => ?_)
      refine S2 ?_; refine Ocm ?_; refine S3 ?_
      refine CW.cond rfl (fun h2 => ?_) (fun h2 => ?_)
      ·
        replace h2 := nm h2
        have hkl : k < (p.getD i default).length := by omega
        refine S6 ?_; refine Omv ?_; refine Oix ?_; refine Old ?_; refine Oas ?_; refine Oas ?_; refine S4 ?_; refine Omv ?_; refine Ocm ?_; refine Omv ?_; refine Pmv ?_; refine Pmv ?_
        refine Pmv ?_; refine Pix ?_; refine Pld ?_; refine Pln ?_; refine Pcm ?_; refine Opk ?_; refine Omv ?_; refine Pmv ?_; refine Pcm ?_; refine Pmv ?_; refine Pmv ?_; refine Pmv ?_
        refine OL.guardC rfl rfl rfl rfl rfl rfl (fun hg => POp.arith rfl rfl rfl (gd hg) rfl rfl (wrap64 (by have hk0 := (Bool.and_eq_true_iff.1 hg).2; simp only [decide_eq_true_eq] at hk0; omega))) ?_
        refine OL.guardC rfl rfl rfl rfl rfl rfl (fun hg => (by first | exact POp.ixM rfl rfl (gd hg) rfl (gd hg) (by have hk0 := (Bool.and_eq_true_iff.1 hg).2; simp only [decide_eq_true_eq] at hk0; omega) | exact POp.ixI rfl rfl (gd hg) rfl (gd hg) (by have hk0 := (Bool.and_eq_true_iff.1 hg).2; simp only [decide_eq_true_eq] at hk0; omega))) ?_
        refine Pld ?_; refine Pmv ?_; refine Pcm ?_; refine Ppk ?_; refine Opk ?_; refine S2 ?_
        refine CW.cond rfl (fun h3 => ?_) (fun h3 => ?_)
        ·
          have hb : badN (cs.getD i default).length (p.getD i default) k = true := h3
          refine S2 ?_; refine Oas ?_; refine S12 ?_
          refine r1 4 (H) ?_
          exact ⟨retB (by symm; refine range_no hil ?_; rw [hmi]; exact range_no hkl (by rw [hb]; rfl)), rfl⟩
        ·
          have hb : badN (cs.getD i default).length (p.getD i default) k = false := h3
          refine S4 ?_; refine Oar ?_; refine Omv ?_; refine S1 ?_
          exact ag (⟨k + 1, rfl, rfl, by omega, fun q hq => by by_cases e : q = k; rw [e]; exact hb; exact hin q (by omega)⟩)
      ·
        replace h2 := nm h2
        obtain rfl : k = (p.getD i default).length := by omega
        refine S7 ?_; refine Oar ?_; refine Omv ?_; refine S1 ?_
        exact ag (⟨i + 1, rfl, rfl, by omega, fun q hq => by by_cases e : q = i; rw [e, hmi]; exact range_all fun k hk => (by rw [hin k hk]; rfl); exact hall q (by omega)⟩)
    ·
      replace h1 := nm h1
      obtain rfl : i = p.length := by omega
      refine S7 ?_; refine Oas ?_; refine S3 ?_
      refine r1 4 (H) ?_
      exact ⟨retB (by symm; exact range_all fun q hq => hall q hq), rfl⟩
structure CsOk (W : FW) (cs : List (List FLit)) : Prop where
  ls : ∀ c ∈ cs, LsOk W c
  len : ∀ c ∈ cs, c.length ≤ 300
  cO : ∀ c ∈ cs, CaseOk W c
theorem imp_cs {W : FW} {a b : Fact} (h : goodP W [a, b] = true) : CsOk W (impCases a b) := by
  have hG := good_f2 h
  have hI := imp_good hG.1 hG.2.1 hG.2.2.2.1 hG.2.2.1 hG.2.2.2.2
  exact ⟨fun c hc => case_ls hG.1 (wf_and hG.2.1 (wf_not hG.2.2.2.1)) hc, fun c hc => (hI.case false c hc).2, fun c hc => hI.case false c hc⟩
theorem p53x {W : FW} {a b : Fact} (p : List (List Int)) (h : goodP W [a, b] = true) (hs : (impCases a b).length ≤ 400) (hbad : (decide ((impCases a b).length = p.length) && listsB ((impCases a b).map List.length) p) = false) : PCall Tryz.prog 53 [AV.world W, AV.fact a, AV.fact b, AV.intss p] (.tup [.b false, .i 2]) := by
  intro H
  refine ACall.mk' (n := 101) Tryz.func53 rfl (by kernel_rfl) rfl rfl (fun B I w0 => ?_)
  have hw := good_w h
  have ha := good_f h (.head _)
  have hb := good_f h (.tail _ (.head _))
  have hG := imp_good hw ha.1 hb.1 ha.2 hb.2
  have hC := imp_cs h
  refine S2 ?_; refine Obx ?_; refine Obx ?_; refine Obx ?_; refine Oas ?_; refine Oas ?_; refine S4 ?_; refine Ola ?_; refine Ola ?_; refine Ola ?_
  refine OL.popC rfl rfl rfl (POp.row rfl rfl (by first | rfl | simp_all [strip]) rfl rfl rfl rfl rfl rfl) ?_
  refine OL.popC rfl rfl rfl (POp.callLe (.mk' rfl rfl rfl rfl rfl) (.cons (.refl _) (.cons (AVle_facts [a, b] rfl) .nil)) (p80g h)) ?_
  refine Omv ?_; refine Oex ?_; refine Oex ?_; refine Oas ?_; refine Oas ?_; refine S5 ?_; refine Omv ?_; refine Ont ?_; refine S2 ?_
  refine CW.cond rfl (fun h0 => ?_) (fun h0 => ?_)
  ·
    cases h0
  ·
    refine S4 ?_; refine Ola ?_; refine Ola ?_
    refine OL.popC rfl rfl rfl (POp.call (.mk' rfl rfl rfl rfl rfl) (p101s hG hs)) ?_
    refine Omv ?_; refine Oex ?_; refine Oex ?_; refine Oas ?_; refine Oas ?_; refine S5 ?_; refine Omv ?_; refine Ont ?_; refine S2 ?_
    refine CW.cond rfl (fun h1 => ?_) (fun h1 => ?_)
    ·
      cases h1
    ·
      refine S5 ?_; refine Omv ?_; refine Oln ?_; refine Omv ?_; refine Oln ?_; refine Ocm ?_; refine S2 ?_
      refine CW.cond rfl (fun h2 => ?_) (fun h2 => ?_)
      ·
        replace h2 := nm h2
        refine S2 ?_; refine Oas ?_; refine Oas ?_; refine S4 ?_
        refine Done.retR (rs := [.tmp 8, .tmp 9]) (H' := H) rfl (.tmp rfl (.tmp rfl (.nil))) (AVleL.refl _) (by repeat (first | exact List.Sublist.refl _ | refine List.Sublist.cons _ ?_)) ?_
        exact ⟨by first | rfl | exact retI (by simp_all) | exact retB (by simp_all) | simp_all, rfl⟩
      ·
        replace h2 := nm h2
        have hle : (impCases a b).length = p.length := by omega
        have hL : listsB ((impCases a b).map List.length) p = false := by simpa [hle] using hbad
        refine S5 ?_; refine Omv ?_; refine Oln ?_; refine Omv ?_; refine S3 ?_
        refine lj (fun m st => ∃ i : Nat, st = ⟨[(44, .i i), (43, .i (impCases a b).length), (42, AV.litss (impCases a b)), (12, AV.litss (impCases a b)), (10, Wptr W), (3, AV.intss p)], H⟩ ∧ m = (impCases a b).length - i ∧ i ≤ (impCases a b).length ∧ ∀ q, q < i → incB (((impCases a b).map List.length).getD q default) (p.getD q default) = true) (⟨0, rfl, rfl, by omega, fun q hq => by omega⟩) ?_
        rintro m _ ⟨i, rfl, rfl, hi, hall⟩
        refine S2 ?_; refine Ocm ?_; refine S3 ?_
        refine CW.cond rfl (fun h3 => ?_) (fun h3 => ?_)
        ·
          replace h3 := nm h3
          have hil : i < (impCases a b).length := by omega
          have hmi := map_len_at (cs := (impCases a b)) (i := i) (by omega)
          refine S6 ?_; refine Omv ?_; refine Oix ?_; refine Old ?_; refine Oas ?_; refine Oas ?_; refine S4 ?_; refine Omv ?_; refine Omv ?_; refine Oix ?_; refine Old ?_; refine Oln ?_
          refine Omv ?_; refine S3 ?_
          refine lj (fun m st => ∃ k : Nat, st = ⟨[(54, .i k), (53, .i (p.getD i default).length), (52, AV.ints (p.getD i default)), (14, AV.lits ((impCases a b).getD i default)), (13, .i i), (44, .i i), (43, .i (impCases a b).length), (42, AV.litss (impCases a b)), (12, AV.litss (impCases a b)), (10, Wptr W), (3, AV.intss p)], H⟩ ∧ m = (p.getD i default).length - k ∧ k ≤ (p.getD i default).length ∧ ∀ q, q < k → badN ((impCases a b).getD i default).length (p.getD i default) q = false) (⟨0, rfl, rfl, by omega, fun q hq => by omega⟩) ?_
          rintro m _ ⟨k, rfl, rfl, hk, hin⟩
          refine CW.boundM (t := 52) rfl (fun hb52 => ?_)
          refine S2 ?_; refine Ocm ?_; refine S3 ?_
          refine CW.cond rfl (fun h4 => ?_) (fun h4 => ?_)
          ·
            replace h4 := nm h4
            have hkl : k < (p.getD i default).length := by omega
            refine S6 ?_; refine Omv ?_; refine Oix ?_; refine Old ?_; refine Oas ?_; refine Oas ?_; refine S4 ?_; refine Omv ?_; refine Ocm ?_; refine Omv ?_; refine Pmv ?_; refine Pmv ?_
            refine Pln ?_; refine Pcm ?_; refine Opk ?_; refine Omv ?_; refine Pmv ?_; refine Pcm ?_; refine Pmv ?_; refine Pmv ?_; refine Pmv ?_; refine Pix ?_; refine Pld ?_; refine Pmv ?_
            refine OL.guardC rfl rfl rfl rfl rfl rfl (fun hg => POp.arith rfl rfl rfl (gd hg) rfl rfl (wrap64 (by have hk0 := (Bool.and_eq_true_iff.1 hg).2; simp only [decide_eq_true_eq] at hk0; omega))) ?_
            refine OL.guardC rfl rfl rfl rfl rfl rfl (fun hg => (by first | exact POp.ixM rfl rfl (gd hg) rfl (gd hg) (by have hk0 := (Bool.and_eq_true_iff.1 hg).2; simp only [decide_eq_true_eq] at hk0; omega) | exact POp.ixI rfl rfl (gd hg) rfl (gd hg) (by have hk0 := (Bool.and_eq_true_iff.1 hg).2; simp only [decide_eq_true_eq] at hk0; omega))) ?_
            refine Pld ?_; refine Pmv ?_; refine Pcm ?_; refine Ppk ?_; refine Opk ?_; refine S2 ?_
            refine CW.cond rfl (fun h5 => ?_) (fun h5 => ?_)
            ·
              have hb : badN ((impCases a b).getD i default).length (p.getD i default) k = true := h5
              refine S2 ?_; refine Oas ?_; refine Oas ?_; refine S12 ?_
              refine Done.retR (rs := [.tmp 8, .tmp 9]) (H' := H) rfl (.tmp rfl (.tmp rfl (.nil))) (AVleL.refl _) (by repeat (first | exact List.Sublist.refl _ | refine List.Sublist.cons _ ?_)) ?_
              exact ⟨by rfl, rfl⟩
            ·
              have hb : badN ((impCases a b).getD i default).length (p.getD i default) k = false := h5
              refine S4 ?_; refine Oar ?_; refine Omv ?_; refine S1 ?_
              exact ag (⟨k + 1, rfl, rfl, by omega, fun q hq => by by_cases e : q = k; rw [e]; exact hb; exact hin q (by omega)⟩)
          ·
            replace h4 := nm h4
            obtain rfl : k = (p.getD i default).length := by omega
            refine S7 ?_; refine Oar ?_; refine Omv ?_; refine S1 ?_
            exact ag (⟨i + 1, rfl, rfl, by omega, fun q hq => by by_cases e : q = i; rw [e, hmi]; exact range_all fun k hk => (by rw [hin k hk]; rfl); exact hall q (by omega)⟩)
        ·
          exfalso
          simp only [decide_eq_false_iff_not] at h3
          obtain rfl : i = (impCases a b).length := by omega
          rw [show listsB ((impCases a b).map List.length) p = true from range_all fun q hq => hall q (by omega)] at hL
          cases hL
theorem p53g {W : FW} {a b : Fact} (p : List (List Int)) (h : goodP W [a, b] = true) (hs : (impCases a b).length ≤ 400) (hle : (impCases a b).length = p.length) (hL : listsB ((impCases a b).map List.length) p = true) : PCall Tryz.prog 53 [AV.world W, AV.fact a, AV.fact b, AV.intss p] (.tup [.b (provesB W (impCases a b) p), .i 0]) := by
  intro H
  refine ACall.mk' (n := 101) Tryz.func53 rfl (by kernel_rfl) rfl rfl (fun B I w0 => ?_)
  have hw := good_w h
  have ha := good_f h (.head _)
  have hb := good_f h (.tail _ (.head _))
  have hG := imp_good hw ha.1 hb.1 ha.2 hb.2
  have hC := imp_cs h
  refine S2 ?_; refine Obx ?_; refine Obx ?_; refine Obx ?_; refine Oas ?_; refine Oas ?_; refine S4 ?_; refine Ola ?_; refine Ola ?_; refine Ola ?_
  refine OL.popC rfl rfl rfl (POp.row rfl rfl (by first | rfl | simp_all [strip]) rfl rfl rfl rfl rfl rfl) ?_
  refine OL.popC rfl rfl rfl (POp.callLe (.mk' rfl rfl rfl rfl rfl) (.cons (.refl _) (.cons (AVle_facts [a, b] rfl) .nil)) (p80g h)) ?_
  refine Omv ?_; refine Oex ?_; refine Oex ?_; refine Oas ?_; refine Oas ?_; refine S5 ?_; refine Omv ?_; refine Ont ?_; refine S2 ?_
  refine CW.cond rfl (fun h0 => ?_) (fun h0 => ?_)
  ·
    cases h0
  ·
    refine S4 ?_; refine Ola ?_; refine Ola ?_
    refine OL.popC rfl rfl rfl (POp.call (.mk' rfl rfl rfl rfl rfl) (p101s hG hs)) ?_
    refine Omv ?_; refine Oex ?_; refine Oex ?_; refine Oas ?_; refine Oas ?_; refine S5 ?_; refine Omv ?_; refine Ont ?_; refine S2 ?_
    refine CW.cond rfl (fun h1 => ?_) (fun h1 => ?_)
    ·
      cases h1
    ·
      refine S5 ?_; refine Omv ?_; refine Oln ?_; refine Omv ?_; refine Oln ?_; refine Ocm ?_; refine S2 ?_
      refine CW.cond rfl (fun h2 => ?_) (fun h2 => ?_)
      ·
        exact absurd h2 (by rw [hle]; simp)
      ·
        refine S5 ?_; refine Omv ?_; refine Oln ?_; refine Omv ?_; refine S3 ?_
        refine lj (fun m st => ∃ i : Nat, st = ⟨[(44, .i i), (43, .i (impCases a b).length), (42, AV.litss (impCases a b)), (12, AV.litss (impCases a b)), (10, Wptr W), (3, AV.intss p)], H⟩ ∧ m = (impCases a b).length - i ∧ i ≤ (impCases a b).length ∧ ∀ q, q < i → incB (((impCases a b).map List.length).getD q default) (p.getD q default) = true) (⟨0, rfl, rfl, by omega, fun q hq => by omega⟩) ?_
        rintro m _ ⟨i, rfl, rfl, hi, hall⟩
        refine S2 ?_; refine Ocm ?_; refine S3 ?_
        refine CW.cond rfl (fun h3 => ?_) (fun h3 => ?_)
        ·
          replace h3 := nm h3
          have hil : i < (impCases a b).length := by omega
          have hmi := map_len_at (cs := (impCases a b)) (i := i) (by omega)
          refine S6 ?_; refine Omv ?_; refine Oix ?_; refine Old ?_; refine Oas ?_; refine Oas ?_; refine S4 ?_; refine Omv ?_; refine Omv ?_; refine Oix ?_; refine Old ?_; refine Oln ?_
          refine Omv ?_; refine S3 ?_
          refine lj (fun m st => ∃ k : Nat, st = ⟨[(54, .i k), (53, .i (p.getD i default).length), (52, AV.ints (p.getD i default)), (14, AV.lits ((impCases a b).getD i default)), (13, .i i), (44, .i i), (43, .i (impCases a b).length), (42, AV.litss (impCases a b)), (12, AV.litss (impCases a b)), (10, Wptr W), (3, AV.intss p)], H⟩ ∧ m = (p.getD i default).length - k ∧ k ≤ (p.getD i default).length ∧ ∀ q, q < k → badN ((impCases a b).getD i default).length (p.getD i default) q = false) (⟨0, rfl, rfl, by omega, fun q hq => by omega⟩) ?_
          rintro m _ ⟨k, rfl, rfl, hk, hin⟩
          refine CW.boundM (t := 52) rfl (fun hb52 => ?_)
          refine S2 ?_; refine Ocm ?_; refine S3 ?_
          refine CW.cond rfl (fun h4 => ?_) (fun h4 => ?_)
          ·
            replace h4 := nm h4
            have hkl : k < (p.getD i default).length := by omega
            refine S6 ?_; refine Omv ?_; refine Oix ?_; refine Old ?_; refine Oas ?_; refine Oas ?_; refine S4 ?_; refine Omv ?_; refine Ocm ?_; refine Omv ?_; refine Pmv ?_; refine Pmv ?_
            refine Pln ?_; refine Pcm ?_; refine Opk ?_; refine Omv ?_; refine Pmv ?_; refine Pcm ?_; refine Pmv ?_; refine Pmv ?_; refine Pmv ?_; refine Pix ?_; refine Pld ?_; refine Pmv ?_
            refine OL.guardC rfl rfl rfl rfl rfl rfl (fun hg => POp.arith rfl rfl rfl (gd hg) rfl rfl (wrap64 (by have hk0 := (Bool.and_eq_true_iff.1 hg).2; simp only [decide_eq_true_eq] at hk0; omega))) ?_
            refine OL.guardC rfl rfl rfl rfl rfl rfl (fun hg => (by first | exact POp.ixM rfl rfl (gd hg) rfl (gd hg) (by have hk0 := (Bool.and_eq_true_iff.1 hg).2; simp only [decide_eq_true_eq] at hk0; omega) | exact POp.ixI rfl rfl (gd hg) rfl (gd hg) (by have hk0 := (Bool.and_eq_true_iff.1 hg).2; simp only [decide_eq_true_eq] at hk0; omega))) ?_
            refine Pld ?_; refine Pmv ?_; refine Pcm ?_; refine Ppk ?_; refine Opk ?_; refine S2 ?_
            refine CW.cond rfl (fun h5 => ?_) (fun h5 => ?_)
            ·
              exfalso
              have hb : badN ((impCases a b).getD i default).length (p.getD i default) k = true := h5
              have := lists_at hL (i := i) (by omega)
              rw [hmi] at this
              have := List.all_eq_true.1 this k (List.mem_range.2 hkl)
              rw [hb] at this; cases this
            ·
              have hb : badN ((impCases a b).getD i default).length (p.getD i default) k = false := h5
              refine S4 ?_; refine Oar ?_; refine Omv ?_; refine S1 ?_
              exact ag (⟨k + 1, rfl, rfl, by omega, fun q hq => by by_cases e : q = k; rw [e]; exact hb; exact hin q (by omega)⟩)
          ·
            replace h4 := nm h4
            obtain rfl : k = (p.getD i default).length := by omega
            refine S7 ?_; refine Oar ?_; refine Omv ?_; refine S1 ?_
            exact ag (⟨i + 1, rfl, rfl, by omega, fun q hq => by by_cases e : q = i; rw [e, hmi]; exact range_all fun k hk => (by rw [hin k hk]; rfl); exact hall q (by omega)⟩)
        ·
          replace h3 := nm h3
          obtain rfl : i = (impCases a b).length := by omega
          refine S8 ?_; refine Omv ?_; refine Oln ?_; refine Omv ?_; refine S3 ?_
          refine lj (fun m st => ∃ i : Nat, st = ⟨[(87, .i i), (86, .i (impCases a b).length), (85, AV.litss (impCases a b)), (12, AV.litss (impCases a b)), (10, Wptr W), (3, AV.intss p)], H⟩ ∧ m = (impCases a b).length - i ∧ i ≤ (impCases a b).length ∧ ∀ q, q < i → together2 W (pickL ((impCases a b).getD q default) (p.getD q default)) = false) (⟨0, rfl, rfl, by omega, fun q hq => by omega⟩) ?_
          rintro m _ ⟨i, rfl, rfl, hi, hall2⟩
          refine S2 ?_; refine Ocm ?_; refine S3 ?_
          refine CW.cond rfl (fun h6 => ?_) (fun h6 => ?_)
          ·
            replace h6 := nm h6
            have hil : i < (impCases a b).length := by omega
            have hm := getD_mem hil
            have hinc := lists_at hL (i := i) (by omega)
            rw [map_len_at hil] at hinc
            have hlen := hC.len _ hm
            have hlp := inc_len hinc
            have hrng := inc_rng hinc
            have hpc := pick_case (hC.cO _ hm) hrng hlp
            refine S6 ?_; refine Omv ?_; refine Oix ?_; refine Old ?_; refine Oas ?_; refine Oas ?_; refine S4 ?_; refine Omv ?_; refine Omv ?_; refine Omv ?_; refine Omv ?_; refine Oix ?_
            refine Old ?_
            refine OL.popC rfl rfl rfl (POp.call (.mk' rfl rfl rfl rfl rfl) (p104 _ _ hrng (by omega))) ?_
            refine OL.popC rfl rfl rfl (POp.call (.mk' rfl rfl rfl rfl rfl) (p82 hw hpc.1 hpc.2)) ?_
            refine S2 ?_
            refine CW.cond rfl (fun h7 => ?_) (fun h7 => ?_)
            ·
              rw [case_two hpc] at h7
              refine S2 ?_; refine Oas ?_; refine Oas ?_; refine S8 ?_
              refine Done.retR (rs := [.tmp 8, .tmp 9]) (H' := H) rfl (.tmp rfl (.tmp rfl (.nil))) (AVleL.refl _) (by repeat (first | exact List.Sublist.refl _ | refine List.Sublist.cons _ ?_)) ?_
              exact ⟨by rw [show provesB W (impCases a b) p = false from range_no hil (by rw [h7]; rfl)]; rfl, rfl⟩
            ·
              rw [case_two hpc] at h7
              refine S4 ?_; refine Oar ?_; refine Omv ?_; refine S1 ?_
              exact ag (⟨i + 1, rfl, rfl, by omega, fun q hq => by by_cases e : q = i; rw [e]; exact h7; exact hall2 q (by omega)⟩)
          ·
            replace h6 := nm h6
            obtain rfl : i = (impCases a b).length := by omega
            refine S7 ?_; refine Oas ?_; refine Oas ?_; refine S3 ?_
            refine Done.retR (rs := [.tmp 8, .tmp 9]) (H' := H) rfl (.tmp rfl (.tmp rfl (.nil))) (AVleL.refl _) (by repeat (first | exact List.Sublist.refl _ | refine List.Sublist.cons _ ?_)) ?_
            exact ⟨by rw [show provesB W (impCases a b) p = true from range_all fun q hq => by rw [hall2 q hq]; rfl]; rfl, rfl⟩
end Go.Proofs.YtiljpbljebfhnaaGreat

set_option linter.unusedVariables false
set_option linter.unusedSimpArgs false
set_option maxRecDepth 10000
namespace Go.Proofs.YtiljpbljebfhnaaGreat
open Go.Eng
open Go.Eng.Fc
theorem minN2_succ (W : FW) (c : List FLit) (k : Nat) : minN2 W c (k + 1) = minStep2 W c (minN2 W c k) k := by
  rw [minN2, List.range_succ, List.foldl_append]; rfl
theorem minN2_inv {W : FW} {c : List FLit} (hc : CaseOk W c) (k : Nat) : MinI c k (minN2 W c k) := minN_eq hc k ▸ minN_inv W c k
end Go.Proofs.YtiljpbljebfhnaaGreat

set_option linter.unusedVariables false
set_option linter.unusedSimpArgs false
set_option maxRecDepth 10000
namespace Go.Proofs.YtiljpbljebfhnaaGreat
open Go.Eng
open Go.Eng.Fc
theorem p35c {W : FW} {a b : Fact} (h : goodP W [a, b] = true) (hs : (impCases a b).length ≤ 400) (hno : ∀ c ∈ impCases a b, together2 W c = false) : PCall Tryz.prog 35 [AV.world W, AV.fact a, AV.fact b] (.tup [AV.intss ((impCases a b).map (minC2 W)), .i 0]) := by
  have hC := imp_cs h
  have := p35g h hs fun c hc => by rw [case_two (hC.cO c hc)]; exact hno c hc
  rwa [proof_eq (good_w h) h] at this
theorem p35y {W : FW} {a b : Fact} (h : goodP W [a, b] = true) (hs : (impCases a b).length ≤ 400) (hyes : ∃ c ∈ impCases a b, together2 W c = true) : PCall Tryz.prog 35 [AV.world W, AV.fact a, AV.fact b] (.tup [.sl 1 [], .i 5]) := by
  obtain ⟨c, hc, ht⟩ := hyes
  exact p35x h hs ⟨c, hc, by rw [case_two ((imp_cs h).cO c hc)]; exact ht⟩
theorem imp_cases {W : FW} {a b : Fact} : impC W a b = (impCases a b).all fun c => !together2 W c := by
  rw [impC, canC, impCases]
  induction casesP (andF a (notF b)) false with
  | nil => rfl
  | cons c r ih => rw [List.any_cons, List.all_cons, Bool.not_or, ih]
end Go.Proofs.YtiljpbljebfhnaaGreat

set_option linter.unusedVariables false
set_option linter.unusedSimpArgs false
set_option maxRecDepth 10000
namespace Go.Proofs.YtiljpbljebfhnaaGreat
open Go.Eng
open Go.Eng.Fc
def valP (v : Int × Int) (m : Int) : Bool := if v.1 = 1 then decide (v.2 ≥ -1000000000) && decide (v.2 ≤ 1000000000) else if v.1 = 2 then v.2 == 0 else v.1 == 3 && decide (v.2 ≥ 0) && decide (v.2 < m)
def hasP (W : FW) (c s : Int) : Bool := belowP W c (W.owner.getD s.toNat default)
def slotsOf (W : FW) (c : Int) : List Int := (numL W.owner.length).filter (hasP W c)
end Go.Proofs.YtiljpbljebfhnaaGreat

set_option linter.unusedVariables false
set_option linter.unusedSimpArgs false
set_option maxRecDepth 10000
namespace Go.Proofs.YtiljpbljebfhnaaGreat
open Go.Eng
open Go.Eng.Fc
/-! ### of how many arguments a fact speaks -/
end Go.Proofs.YtiljpbljebfhnaaGreat

set_option linter.unusedVariables false
set_option linter.unusedSimpArgs false
set_option maxRecDepth 10000
namespace Go.Proofs.YtiljpbljebfhnaaGreat
open Go.Eng
open Go.Eng.Fc
/-! ### what stands at a path -/
abbrev Th := Int × List (Int × Int)
structure ObjsOk (W : FW) (objs : List Th) : Prop where
  w : worldP W = true
  len : objs.length ≤ 40
  own : ∀ o ∈ objs, ownP W o.1 = true
  slots : ∀ o ∈ objs, o.2.length = (slotsOf W o.1).length
  vals : ∀ o ∈ objs, ∀ v ∈ o.2, valP v objs.length = true
section
variable {W : FW} {objs : List Th} (h : ObjsOk W objs) {v : Int × Int} (hv : valP v objs.length = true) {s : Int} (hs : 0 ≤ s ∧ s < W.owner.length)
include h hv
include hs
end
end Go.Proofs.YtiljpbljebfhnaaGreat

set_option linter.unusedVariables false
set_option linter.unusedSimpArgs false
set_option maxRecDepth 10000
namespace Go.Proofs.YtiljpbljebfhnaaGreat
open Go.Eng
open Go.Eng.Fc
end Go.Proofs.YtiljpbljebfhnaaGreat

set_option linter.unusedVariables false
set_option linter.unusedSimpArgs false
set_option maxRecDepth 10000
namespace Go.Proofs.YtiljpbljebfhnaaGreat
open Go.Eng
open Go.Eng.Fc
/-! ### objects and arguments as a model -/
structure HOk (W : FW) (objs : List Th) (args : List (Int × Int)) : Prop where
  o : ObjsOk W objs
  a : ∀ v ∈ args, valP v objs.length = true
  n : 1 ≤ args.length ∧ args.length ≤ 3
end Go.Proofs.YtiljpbljebfhnaaGreat

set_option linter.unusedVariables false
set_option linter.unusedSimpArgs false
set_option maxRecDepth 10000
namespace Go.Proofs.YtiljpbljebfhnaaGreat
open Go.Eng
open Go.Eng.Fc
end Go.Proofs.YtiljpbljebfhnaaGreat

set_option linter.unusedVariables false
set_option linter.unusedSimpArgs false
set_option maxRecDepth 10000
namespace Go.Proofs.YtiljpbljebfhnaaGreat
open Go.Eng
open Go.Eng.Fc
instance : HasEq Tryz.prog 97 2 := ⟨by kernel_rfl⟩
end Go.Proofs.YtiljpbljebfhnaaGreat

set_option linter.unusedVariables false
set_option linter.unusedSimpArgs false
set_option maxRecDepth 10000
namespace Go.Proofs.YtiljpbljebfhnaaGreat
open Go.Eng
open Go.Eng.Fc
end Go.Proofs.YtiljpbljebfhnaaGreat

set_option linter.unusedVariables false
set_option linter.unusedSimpArgs false
set_option maxRecDepth 10000
namespace Go.Proofs.YtiljpbljebfhnaaGreat
open Go.Eng
open Go.Eng.Fc
end Go.Proofs.YtiljpbljebfhnaaGreat

set_option linter.unusedVariables false
set_option linter.unusedSimpArgs false
set_option maxRecDepth 10000
namespace Go.Proofs.YtiljpbljebfhnaaGreat
open Go.Eng
open Go.Eng.Fc
theorem tog_mono {W : FW} {c : List FLit} (hL : LsOk W c) {xs ys : List Int} (hr : ∀ n ∈ ys, 0 ≤ n ∧ n < c.length) (hxy : ∀ n ∈ xs, n ∈ ys) (ht : together2 W (pickL c ys) = true) : together2 W (pickL c xs) = true := by
  obtain ⟨V, hV, hl⟩ := (together_sem (hL.pick hr)).1 ht
  refine (together_sem (hL.pick fun n hn => hr n (hxy n hn))).2 ⟨V, hV, fun l hl2 => ?_⟩
  obtain ⟨n, hn, rfl⟩ := List.mem_map.1 hl2
  exact hl _ (List.mem_map.2 ⟨n, hxy n hn, rfl⟩)
theorem pick_all (c : List FLit) : pickL c (numL c.length) = c := by
  rw [pickL, numL, List.map_map]
  refine List.ext_getElem (by simp) fun i h1 h2 => ?_
  rw [List.getElem_map, List.getElem_range]
  show c.getD (Int.toNat (i : Int)) default = _
  rw [Int.toNat_natCast, getD_lt h2]
theorem min_no {W : FW} {c : List FLit} (h : together2 W c = false) : ∀ k, together2 W (pickL c (minN2 W c k)) = false
  | 0 => by
    rw [show minN2 W c 0 = numL c.length from rfl, pick_all]; exact h
  | k + 1 => by
    rw [minN2_succ, minStep2]
    split
    · exact min_no h k
    · rename_i h2; simpa using h2
theorem min_sub (W : FW) (c : List FLit) (k : Nat) : (minN2 W c (k + 1)).Sublist (minN2 W c k) := by
  rw [minN2_succ, minStep2]
  split
  · exact .refl _
  · exact List.filter_sublist
theorem min_subs (W : FW) (c : List FLit) (k : Nat) : ∀ j, (minN2 W c (k + j)).Sublist (minN2 W c k)
  | 0 => .refl _
  | j + 1 => (min_sub W c (k + j)).trans (min_subs W c k j)
theorem num_pw (n : Nat) : (numL n).Pairwise (· < ·) := by
  rw [numL, List.pairwise_map]
  exact List.pairwise_lt_range.imp fun h => by omega
theorem min_pw (W : FW) (c : List FLit) (k : Nat) : (minN2 W c k).Pairwise (· < ·) := (num_pw c.length).sublist (by
  have := min_subs W c 0 k
  rwa [Nat.zero_add] at this)
theorem min_drop {W : FW} {c : List FLit} (hL : LsOk W c) (hc : CaseOk W c) {x : Int} (hx : x ∈ minC2 W c) {ys : List Int} (hy : ∀ y ∈ ys, y ∈ minC2 W c ∧ y ≠ x) : together2 W (pickL c ys) = true := by
  obtain ⟨h0, h1⟩ := (minN2_inv hc c.length).rng x hx
  obtain ⟨j, rfl⟩ : ∃ j : Nat, x = j := ⟨x.toNat, by omega⟩
  have hj : j < c.length := by omega
  obtain ⟨q, hq⟩ : ∃ q, c.length = (j + 1) + q := ⟨c.length - (j + 1), by omega⟩
  have hs : ∀ y ∈ minC2 W c, y ∈ minN2 W c (j + 1) := fun y hy => by
    rw [minC2, hq] at hy
    exact (min_subs W c (j + 1) q).subset hy
  have hxs := hs _ hx
  have hstep := minN2_succ W c j
  rw [minStep2] at hstep
  split at hstep
  · rename_i ht
    refine tog_mono hL (fun n hn => (minN2_inv hc j).rng n (List.mem_filter.1 hn).1) (fun y hyy => ?_) ht
    have := hy y hyy
    refine List.mem_filter.2 ⟨?_, by simpa using this.2⟩
    rw [← hstep]; exact hs y this.1
  · rw [hstep] at hxs
    have := (List.mem_filter.1 hxs).2
    simp at this
theorem erase_of {l : List Int} (h : l.Pairwise (· < ·)) {k : Nat} (hk : k < l.length) : ∀ y ∈ l.eraseIdx k, y ∈ l ∧ y ≠ l[k] := fun y hy => by
  obtain ⟨i, hi, hne, rfl⟩ := List.mem_eraseIdx_iff_getElem.1 hy
  refine ⟨List.getElem_mem _, fun e => ?_⟩
  rcases Nat.lt_or_gt_of_ne hne with h1 | h1
  · have := List.pairwise_iff_getElem.1 h i k hi hk h1; omega
  · have := List.pairwise_iff_getElem.1 h k i hk hi h1; omega
theorem inc_pw {m : Nat} {l : List Int} (h : l.Pairwise (· < ·)) (hr : ∀ n ∈ l, 0 ≤ n ∧ n < m) : incB m l = true := List.all_eq_true.2 fun k hk => by
  have hk := List.mem_range.1 hk
  have h1 := hr _ (getD_mem hk)
  simp only [badN_eq, Bool.not_eq_true', Bool.or_eq_false_iff, Bool.and_eq_false_iff, decide_eq_false_iff_not]
  refine ⟨by omega, ?_⟩
  rcases Nat.eq_zero_or_pos k with h0 | h0
  · left; omega
  · right
    have e : ((k : Int) - 1).toNat = k - 1 := by omega
    rw [e, getD_lt hk, getD_lt (by omega : k - 1 < l.length)]
    have := List.pairwise_iff_getElem.1 h (k - 1) k (by omega) hk (by omega)
    omega
theorem sort_pw {l : List Int} (h : l.Pairwise (· < ·)) {x : Int} (hx : x ∉ l) : (sortI (l ++ [x])).Pairwise (· < ·) := by
  have hp := List.mergeSort_perm (l ++ [x]) (fun x y => decide (x ≤ y))
  have hs : (sortI (l ++ [x])).Pairwise (fun a b => decide (a ≤ b) = true) := List.pairwise_mergeSort (fun a b c h1 h2 => by simp at *; omega) (fun a b => by simp; omega) _
  have hn : (sortI (l ++ [x])).Nodup := hp.nodup_iff.2 (List.nodup_append.2 ⟨h.imp fun h => by omega, by simp, fun a ha b hb e => by simp at hb; subst hb; subst e; exact hx ha⟩)
  exact (hs.and hn).imp fun h => by
    have h1 := of_decide_eq_true h.1
    have := h.2
    omega
theorem sort_mem {l : List Int} {x : Int} : x ∈ sortI l ↔ x ∈ l := List.mem_mergeSort
theorem tog_nil {W : FW} (hw : worldP W = true) : together2 W [] = true := by
  refine (together_sem (ls := []) ⟨hw, fun l hl => (by cases hl), fun l hl => (by cases hl)⟩).2 ⟨fun a p => if p = [] then some .non else none, ⟨fun a h0 h1 => rfl, fun a p n h => ?_, fun a p S h => ?_, fun a p s h0 h1 => ⟨fun h => ?_, fun ⟨S, h, _⟩ => ?_⟩⟩, fun l hl => (by cases hl)⟩
  · split at h <;> cases h
  · split at h <;> cases h
  · rw [if_neg (by simp)] at h; cases h
  · split at h <;> cases h
theorem min_ne {W : FW} {c : List FLit} (hw : worldP W = true) (h : together2 W c = false) : minC2 W c ≠ [] := fun e => by
  have := min_no h c.length
  rw [show minN2 W c c.length = minC2 W c from rfl, e, show pickL c [] = [] from rfl, tog_nil hw] at this
  cases this
end Go.Proofs.YtiljpbljebfhnaaGreat

set_option linter.unusedVariables false
set_option linter.unusedSimpArgs false
set_option maxRecDepth 10000
namespace Go.Proofs.YtiljpbljebfhnaaGreat
open Go.Eng
open Go.Eng.Fc
theorem POp.slTail {P : Program} {H : List Ent} {ρ : Nat → Option AV} {o : Oper} {t : TypeId} {x y : Operand} {k b off n cap l : Nat} {gx gl : Bool} {kl : IntKind} [ht : HasSl P t k] (h : o.op = .slice t x (some y) none none) (hx : aev ρ x = some (gx, .val (.slice (some ⟨b, off, none⟩) n cap))) (hgx : gx = true)
    (hlo : aev ρ y = some (gl, .val (.int kl (l : Int)))) (hgl : gl = true) (h1 : l ≤ n) (h2 : n ≤ cap) : POp P H ρ o (.val (.slice (some ⟨b, off + (if l < cap then l * k else 0), none⟩) (n - l) (cap - l))) := by
  by_cases hlc : l < cap
  · rw [if_pos hlc]
    exact POp.slC (m := n) (kh := .i64) (gh := true) h hx hgx hlo hgl rfl rfl h1 h2 hlc
  · obtain rfl : n = cap := by omega
    obtain rfl : l = n := by omega
    rw [if_neg hlc, Nat.sub_self]
    exact POp.slEnd h hx hgx hlo hgl rfl
theorem del1 {l : List Int} {i off2 : Nat} {more : List AV} (hi : i < l.length) (ho : i + 1 < l.length → off2 = i + 1) :
    (l.map AV.i ++ more).take i ++ ((l.map AV.i ++ more).drop off2).take (l.length - (i + 1)) ++ (l.map AV.i ++ more).drop (l.length - 1) = (l.eraseIdx i).map AV.i ++ (l.map AV.i ++ more).drop (l.length - 1) := by
  congr 1
  rw [List.eraseIdx_eq_take_drop_succ, List.map_append]
  have e1 : (l.map AV.i ++ more).take i = (l.take i).map AV.i := by
    rw [List.take_append_of_le_length (by simp; omega), List.map_take]
  rw [e1]
  congr 1
  by_cases h : i + 1 < l.length
  · rw [ho h, List.drop_append_of_le_length (by simp; omega), List.take_append_of_le_length (by simp), List.take_of_length_le (by simp), List.map_drop]
  · rw [show l.length - (i + 1) = 0 by omega, List.take_zero, List.drop_eq_nil_of_le (by omega)]; rfl
theorem cells_keep (m : List Int) (X R D : List AV) : (m.map AV.i ++ X).take (0 + (intEls m).length * 1) ++ R ++ D = (intEls m).flatten ++ (R ++ D) := by
  rw [intEls_map, Nat.zero_add, Nat.mul_one, List.take_append_of_le_length (by simp), List.take_of_length_le (by simp), List.append_assoc]
theorem allOne_ints (l : List Int) : allOne (l.map AV.i) = true := by
  induction l with
  | nil => rfl
  | cons x r ih => exact ih
theorem one_part {l : List Int} {i off2 : Nat} {more : List AV} (ho : i + 1 < l.length → off2 = i + 1) : allOne (((l.map AV.i ++ more).drop off2).take (l.length - (i + 1))) = true := by
  by_cases h : i + 1 < l.length
  · rw [ho h, List.drop_append_of_le_length (by simp; omega), List.take_append_of_le_length (by simp), List.take_of_length_le (by simp), ← List.map_drop]
    exact allOne_ints _
  · rw [show l.length - (i + 1) = 0 by omega, List.take_zero]; rfl
theorem b59 (B : Nat) (l : List Int) (i : Nat) (hi : i < l.length) (b cap : Nat) (more : List AV) (hl : l.length ≤ 1000000) (hc : (intEls l).length ≤ cap) (hcm : cap ≤ maxLen) (Hx : List Ent) :
    BCall B Tryz.prog 59 [.val (.slice (some ⟨b, 0, none⟩) (intEls l).length cap), .i i, .i ((i : Int) + 1)] (.blk b 3 ((intEls l).flatten ++ more) :: Hx) (fun y H' => y = AV.ints (l.eraseIdx i) ∧ H' = Hx) (fun _ => False) := by
  refine BCall.of (n := 33) Tryz.func59 rfl (by kernel_rfl) rfl rfl (fun I w0 => ?_)
  have hle2 := List.length_eraseIdx_of_lt hi
  have hlen : (intEls l).length = l.length := by simp [intEls]
  have hle : (intEls (l.eraseIdx i)).length = l.length - 1 := by rw [List.length_map, List.length_eraseIdx_of_lt hi]
  obtain ⟨off2, ho2⟩ : ∃ off2, off2 = 0 + (if i + 1 < cap then (i + 1) * 1 else 0) := ⟨_, rfl⟩
  have ho3 : i + 1 < l.length → off2 = i + 1 := fun h => by rw [ho2, if_pos (by omega)]; omega
  refine S2 ?_; refine Oas ?_; refine S4 ?_; refine Omv ?_; refine Omv ?_; refine Omv ?_; refine Omv ?_; refine Oln ?_
  refine OL.popC rfl rfl rfl (POp.sl3C (l := i) (m := i + 1) rfl rfl rfl rfl rfl rfl rfl rfl rfl (by omega) (by omega) hc (by omega)) ?_
  refine S5 ?_; refine Omv ?_; refine Omv ?_; refine Ocm ?_; refine S2 ?_
  refine CW.cond rfl (fun h0 => ?_) (fun h0 => ?_)
  ·
    exfalso
    have := eq_of_beq h0
    omega
  ·
    refine S4 ?_; refine Omv ?_; refine Oln ?_; refine Oas ?_; refine S3 ?_
    refine CW.eqH (H' := .blk b 3 (l.map AV.i ++ more) :: Hx) (by rw [intEls_map]) ?_
    refine CW.dp mixed ?_
    refine DP.anyC 0 6 33 rfl (by decide +kernel) rfl rfl (by decide +kernel) ?_
    refine Amv ?_; refine Amv ?_
    refine AD.popC rfl rfl rfl (POp.slC (l := 0) (m := i) (kl := .i64) (gl := true) rfl rfl rfl rfl rfl rfl rfl (by omega) (by omega) (by omega)) ?_
    refine Amv ?_; refine Amv ?_
    refine AD.popC rfl rfl rfl (POp.slTail (l := i + 1) rfl rfl rfl rfl rfl (by omega) hc) ?_
    refine AD.nil ?_
    refine DP.tailC 6 (by decide +kernel) rfl ?_
    refine OL.appendRoom (cs := l.map AV.i ++ more) (tb := 3) (H' := .blk b 3 ((l.eraseIdx i).map AV.i ++ (l.map AV.i ++ more).drop (l.length - 1)) :: Hx) rfl rfl rfl rfl rfl rfl rfl rfl (by omega) (by rw [← ho2, hlen, Nat.mul_one]; exact one_part ho3) (by simp; omega) (by by_cases h : i + 1 < cap; rw [if_pos h]; simp; omega; rw [if_neg h]; simp; omega) (by rw [← ho2, ← del1 hi ho3, hlen]; simp only [Nat.mul_one, Nat.zero_add, Nat.sub_zero]; rw [show i + (l.length - (i + 1)) = l.length - 1 by omega]; exact .head _ _ _) ?_
    refine Oas ?_; refine S3 ?_
    rw [show i - 0 + ((intEls l).length - (i + 1)) = (intEls (l.eraseIdx i)).length by omega]
    refine S1 ?_; refine Omv ?_; refine Omv ?_; refine Oln ?_; refine Omv ?_
    refine OL.popC rfl rfl rfl (POp.slC (l := (intEls (l.eraseIdx i)).length) (m := (intEls l).length) rfl rfl rfl rfl rfl rfl rfl (by omega) (by omega) (by omega)) ?_
    refine OL.clearC rfl (.inl rfl) rfl rfl rfl (by omega) (by kernel_rfl) (by simp only [List.length_append, List.length_map, List.length_drop]; omega) (.head _ _ _) ?_
    refine S4 ?_; refine Omv ?_; refine Oas ?_; refine S3 ?_
    refine Done.perm (.of_eq (congrArg (fun z => Ent.blk b 3 z :: Hx) (cells_keep (l.eraseIdx i) _ _ _))) ?_
    refine Done.freezeS (d := 6) rfl (.head _ _) rfl (k := 1) (by simp [intEls]) (by omega) hcm ?_
    refine r1 6 (Hx) ?_
    exact ⟨rfl, rfl⟩
theorem a31 (B : Nat) (l : List (List Int)) (hne : l ≠ []) (hl : l.length ≤ 1000000) (H : List Ent) : BCall B Tryz.prog 31 [AV.intss l] H (fun y H' => ∃ b cap more, y = .val (.slice (some ⟨b, 0, none⟩) (l.map fun n => [AV.ints n]).length cap) ∧ (l.map fun n => [AV.ints n]).length ≤ cap ∧ cap ≤ maxLen ∧ H' = .blk b 23 ((l.map fun n => [AV.ints n]).flatten ++ more) :: H) (fun _ => False) := by
  refine BCall.of (n := 8) Tryz.func31 rfl (by kernel_rfl) rfl rfl (fun I w0 => ?_)
  refine S2 ?_; refine Oas ?_; refine S5 ?_; refine Omv ?_
  refine OL.isNilC rfl rfl rfl rfl rfl rfl rfl (AVle.refl _) rfl rfl (fun n4 hn4 => ?_)
  refine S2 ?_
  refine CW.cond rfl (fun h0 => ?_) (fun h0 => ?_)
  ·
    exact absurd (hn4 h0) (by simpa using hne)
  ·
    refine S4 ?_; refine Or0 ?_; refine Omv ?_
    refine OL.appendNew rfl rfl rfl rfl rfl rfl (AVle.refl _) rfl rfl (AVle.refl _) (by simpa using hne) (one_map (fun _ => rfl) l) (by simp; omega) (by simp; omega) (fun b cap more hc1 hc2 => ?_)
    refine Oas ?_; refine S3 ?_
    refine Done.retR (rs := [.tmp 2]) rfl (.tmp rfl (.nil)) (AVleL.refl _) (by exact List.Sublist.refl _) ?_
    exact ⟨b, cap, more, rfl, hc1, hc2, rfl⟩
end Go.Proofs.YtiljpbljebfhnaaGreat

set_option linter.unusedVariables false
set_option linter.unusedSimpArgs false
set_option maxRecDepth 10000
namespace Go.Proofs.YtiljpbljebfhnaaGreat
open Go.Eng
open Go.Eng.Fc
theorem getD_set_eq {α : Type} [Inhabited α] {l : List α} {w : Nat} {x : α} (h : w < l.length) : (l.set w x).getD w default = x := by
  rw [getD_lt (by simpa using h), List.getElem_set_self]
theorem getD_set_ne {α : Type} [Inhabited α] {l : List α} {w i : Nat} {x : α} (h : i ≠ w) : (l.set w x).getD i default = l.getD i default := by
  rw [List.getD_eq_getElem?_getD, List.getElem?_set_ne (Ne.symm h), List.getD_eq_getElem?_getD]
structure Prf (W : FW) (a b : Fact) (p : List (List Int)) : Prop where
  len : p.length ≤ 400
  ok : PCall Tryz.prog 53 [AV.world W, AV.fact a, AV.fact b, AV.intss p] (.tup [.b true, .i 0])
  ne : ∀ w, w < p.length → p.getD w default ≠ []
  lens : ∀ w, w < p.length → (p.getD w default).length ≤ 300
  less : ∀ w, w < p.length → ∀ k, k < (p.getD w default).length → PCall Tryz.prog 53 [AV.world W, AV.fact a, AV.fact b, AV.intss (p.set w ((p.getD w default).eraseIdx k))] (.tup [.b false, .i 0])
  more : ∀ w, w < p.length → ∀ x : Int, 0 ≤ x → (p.getD w default).contains x = false → ∃ r e, ((r = true ∧ e = (0 : Int)) ∨ (r = false ∧ e = 2)) ∧ PCall Tryz.prog 53 [AV.world W, AV.fact a, AV.fact b, AV.intss (p.set w (sortI (p.getD w default ++ [x])))] (.tup [.b r, .i e])
theorem min_at {W : FW} {cs : List (List FLit)} {w : Nat} (h : w < cs.length) : (cs.map (minC2 W)).getD w default = minC2 W (cs.getD w default) := by
  rw [getD_lt (by simpa using h), getD_lt h, List.getElem_map]
theorem prf_of {W : FW} {a b : Fact} (h : goodP W [a, b] = true) (hs : (impCases a b).length ≤ 400) (hno : ∀ c ∈ impCases a b, together2 W c = false) : Prf W a b ((impCases a b).map (minC2 W)) := by
  have hC := imp_cs h
  have hw := good_w h
  generalize hcs : impCases a b = cs at hs hno hC
  have hle : cs.length = (cs.map (minC2 W)).length := by simp
  have hI : ∀ c ∈ cs, incB c.length (minC2 W c) = true := fun c hc => inc_pw (min_pw W c _) (minN2_inv (hC.cO c hc) c.length).rng
  have hN : ∀ c ∈ cs, together2 W (pickL c (minC2 W c)) = false := fun c hc => min_no (hno c hc) c.length
  have hL : listsB (cs.map List.length) (cs.map (minC2 W)) = true := range_all fun i hi => by
    rw [← hle] at hi
    rw [min_at hi, map_len_at hi]
    exact hI _ (getD_mem hi)
  have hLs : ∀ w, w < cs.length → ∀ q, incB (cs.getD w default).length q = true → listsB (cs.map List.length) ((cs.map (minC2 W)).set w q) = true := fun w hwl q hq => range_all fun i hi => by
    rw [List.length_set, ← hle] at hi
    rw [map_len_at hi]
    by_cases e : i = w
    · subst e; rw [getD_set_eq (by omega)]; exact hq
    · rw [getD_set_ne e, min_at hi]; exact hI _ (getD_mem hi)
  refine ⟨by omega, ?_, fun w hwl => ?_, fun w hwl => ?_, fun w hwl k hk => ?_, fun w hwl x hx hcn => ?_⟩
  · have := p53g (cs.map (minC2 W)) h (by rw [hcs]; exact hs) (by rw [hcs]; exact hle) (by rw [hcs]; exact hL)
    rwa [hcs, show provesB W cs (cs.map (minC2 W)) = true from range_all fun i hi => by rw [min_at hi, hN _ (getD_mem hi)]; rfl] at this
  · rw [← hle] at hwl
    rw [min_at hwl]; exact min_ne hw (hno _ (getD_mem hwl))
  · rw [← hle] at hwl
    rw [min_at hwl]
    have h1 := inc_len (hI _ (getD_mem hwl))
    have h2 := hC.len _ (getD_mem hwl)
    omega
  · rw [← hle] at hwl
    have hm := getD_mem (l := cs) hwl
    rw [min_at hwl] at hk ⊢
    have hpw : (minC2 W (cs.getD w default)).Pairwise (· < ·) := min_pw W _ _
    have he := erase_of hpw hk
    have hrg := (minN2_inv (hC.cO _ hm) (cs.getD w default).length).rng
    have hq : incB (cs.getD w default).length ((minC2 W (cs.getD w default)).eraseIdx k) = true := inc_pw (hpw.sublist (List.eraseIdx_sublist _ _)) fun n hn => hrg n (he n hn).1
    have := p53g ((cs.map (minC2 W)).set w ((minC2 W (cs.getD w default)).eraseIdx k)) h (by rw [hcs]; exact hs) (by rw [hcs, List.length_set]; exact hle) (by rw [hcs]; exact hLs w hwl _ hq)
    rwa [hcs, show provesB W cs ((cs.map (minC2 W)).set w ((minC2 W (cs.getD w default)).eraseIdx k)) = false from range_no hwl (by
      rw [getD_set_eq (by omega), min_drop (hC.ls _ hm) (hC.cO _ hm) (List.getElem_mem hk) he]; rfl)] at this
  · rw [← hle] at hwl
    have hm := getD_mem (l := cs) hwl
    rw [min_at hwl] at hcn ⊢
    have hpw : (minC2 W (cs.getD w default)).Pairwise (· < ·) := min_pw W _ _
    have hrg := (minN2_inv (hC.cO _ hm) (cs.getD w default).length).rng
    have hxn : x ∉ minC2 W (cs.getD w default) := fun e => by rw [List.contains_iff_mem.2 e] at hcn; cases hcn
    by_cases hxl : x < (cs.getD w default).length
    · refine ⟨true, 0, .inl ⟨rfl, rfl⟩, ?_⟩
      have hr2 : ∀ n ∈ sortI (minC2 W (cs.getD w default) ++ [x]), 0 ≤ n ∧ n < (cs.getD w default).length := fun n hn => by
        rcases List.mem_append.1 (sort_mem.1 hn) with h1 | h1
        · exact hrg n h1
        · rw [List.mem_singleton] at h1; subst h1; exact ⟨hx, hxl⟩
      have hq := inc_pw (sort_pw hpw hxn) hr2
      have := p53g ((cs.map (minC2 W)).set w (sortI (minC2 W (cs.getD w default) ++ [x]))) h (by rw [hcs]; exact hs) (by rw [hcs, List.length_set]; exact hle) (by rw [hcs]; exact hLs w hwl _ hq)
      rwa [hcs, show provesB W cs ((cs.map (minC2 W)).set w (sortI (minC2 W (cs.getD w default) ++ [x]))) = true from range_all fun i hi => by
        by_cases e : i = w
        · subst e
          rw [getD_set_eq (by omega)]
          cases ht : together2 W (pickL (cs.getD i default) (sortI (minC2 W (cs.getD i default) ++ [x]))) with
          | false => rfl
          | true =>
            have := tog_mono (hC.ls _ hm) hr2 (fun n hn => sort_mem.2 (List.mem_append_left _ hn)) ht
            rw [hN _ hm] at this; cases this
        · rw [getD_set_ne e, min_at hi, hN _ (getD_mem hi)]; rfl] at this
    · refine ⟨false, 2, .inr ⟨rfl, rfl⟩, p53x _ h (by rw [hcs]; exact hs) ?_⟩
      rw [hcs, show listsB (cs.map List.length) ((cs.map (minC2 W)).set w (sortI (minC2 W (cs.getD w default) ++ [x]))) = false from range_no (i := w) (by rw [List.length_set]; omega) (by
        rw [getD_set_eq (by omega), map_len_at hwl]
        cases hb : incB (cs.getD w default).length (sortI (minC2 W (cs.getD w default) ++ [x])) with
        | false => rfl
        | true => exact absurd (inc_rng hb x (sort_mem.2 (List.mem_append_right _ (List.mem_singleton.2 rfl)))).2 hxl), Bool.and_false]
end Go.Proofs.YtiljpbljebfhnaaGreat

set_option linter.unusedVariables false
set_option linter.unusedSimpArgs false
set_option maxRecDepth 10000
namespace Go.Proofs.YtiljpbljebfhnaaGreat
open Go.Eng
open Go.Eng.Fc
theorem Done.freezeRowCell {c : Ctx} {ex : Exit} {Q : Exit → Act → World → Prop} {env : List (Nat × AV)} {fb t tb k : Nat} {v : Value} {els : List (List AV)} {xs ys : List AV} {R : List Ent} (hk : ∀ e ∈ els, e.length = k)
    (h : Done c ⟨env, .blk fb tb (xs ++ .sl k els :: ys) :: R⟩ ex Q) : Done c ⟨env, .row t k v els.length els.flatten :: .blk fb tb (xs ++ .val v :: ys) :: R⟩ ex Q := fun a w s => by
  refine h a w ?_
  obtain ⟨I, hw, he, hh, hv⟩ := s.mem
  obtain ⟨J, j1, j2, j3, j4⟩ := HeapOk.freezeRow hw hh hk
  refine ⟨s.ds, s.size, J, j1, he.trans j2, HeapOk.head j3 (fun ⟨q1, us, q2, q3, q4⟩ => ⟨q1, us, q2, RelL.replace (fun u hu => ?_) q3, q4⟩) rfl, hv.keep j2.keeps⟩
  rw [rel_val hu]
  exact j4
theorem intss_map (l : List (List Int)) : (l.map fun n => [AV.ints n]).flatten = l.map AV.ints := by
  induction l with
  | nil => rfl
  | cons x r ih => rw [List.map_cons, List.flatten_cons, ih]; rfl
theorem set_cell {l : List (List Int)} {w : Nat} {more : List AV} (hw : w < l.length) (X : AV) :
    ((l.map fun n => [AV.ints n]).flatten ++ more).take (0 + (w : Int).toNat * 1) ++ [X] ++ ((l.map fun n => [AV.ints n]).flatten ++ more).drop (0 + (w : Int).toNat * 1 + 1) = (l.take w).map AV.ints ++ X :: ((l.drop (w + 1)).map AV.ints ++ more) := by
  rw [intss_map, Int.toNat_natCast, Nat.zero_add, Nat.mul_one, List.take_append_of_le_length (by simp; omega), List.drop_append_of_le_length (by simp; omega), List.map_take, List.map_drop]
  simp
theorem set_ints {l : List (List Int)} {w : Nat} {more : List AV} (hw : w < l.length) (x : List Int) : (l.take w).map AV.ints ++ AV.ints x :: ((l.drop (w + 1)).map AV.ints ++ more) = ((l.set w x).map fun n => [AV.ints n]).flatten ++ more := by
  rw [intss_map, List.set_eq_take_append_cons_drop, if_pos hw, List.map_append, List.map_cons, List.append_assoc]; rfl
theorem got_cell {l : List (List Int)} {w : Nat} {ys : List AV} (hw : w < l.length) (X : AV) : ((l.take w).map AV.ints ++ X :: ys)[0 + (w : Int).toNat * 1]? = some X := by
  have e : ((l.take w).map AV.ints).length = w := by simp; omega
  rw [Int.toNat_natCast, Nat.zero_add, Nat.mul_one, List.getElem?_append_right (by omega), e, Nat.sub_self]; rfl
theorem tm_nat (p : U8) {n : Nat} (hn : 0 < n) : ∃ w : Nat, w < n ∧ (p.val : Int).tmod n = w := by
  have h1 := tm_b p n
  have h2 := tm_lt p hn
  exact ⟨((p.val : Int).tmod n).toNat, by omega, by omega⟩
theorem a32r (B : Nat) (l : List Int) (hne : l ≠ []) (hl : l.length ≤ 1000000) (H : List Ent) : BCall B Tryz.prog 32 [AV.ints l] H (fun y H' => ∃ v, y = .val v ∧ H' = .row 3 1 v (intEls l).length (intEls l).flatten :: H) (fun _ => False) := by
  refine BCall.of (n := 8) Tryz.func32 rfl (by kernel_rfl) rfl rfl (fun I w0 => ?_)
  refine S2 ?_; refine Oas ?_; refine S5 ?_; refine Omv ?_
  refine OL.isNilC rfl rfl rfl rfl rfl rfl rfl (AVle.refl _) rfl rfl (fun n4 hn4 => ?_)
  refine S2 ?_
  refine CW.cond rfl (fun h0 => ?_) (fun h0 => ?_)
  ·
    exact absurd (hn4 h0) (by simpa using hne)
  ·
    refine S4 ?_
    refine OL.row0Own rfl rfl rfl rfl (fun v5 => ?_)
    refine Omv ?_
    refine OL.ownRow0 (d := 5) rfl (.head _ _ _) ?_
    refine OL.appendRow (news := intEls l) rfl rfl rfl rfl rfl rfl rfl rfl (AVle.refl _) (by simpa using hne) (one_map (fun _ => rfl) l) (fun v => .head _ _ _) (by simp; omega) (by simp; omega) (fun v7 => ?_)
    refine Oas ?_; refine S3 ?_
    refine Done.retR (rs := [.tmp 2]) rfl (.tmp rfl (.nil)) (AVleL.refl _) (by exact List.Sublist.refl _) ?_
    exact ⟨v7, rfl, by simp⟩
theorem p12n (g : Gv) (a b : U8) (h : goodP g.W [g.A, g.B] = false) : PCall Tryz.prog 12 [AV.given g, AV.u8 a, AV.u8 b] (.b true) := by
  intro H
  refine ACall.mk' (n := 194) Tryz.func12 rfl (by kernel_rfl) rfl rfl (fun B I w0 => ?_)
  refine S2 ?_; refine Obx ?_; refine Oas ?_; refine S4 ?_; refine Ofa ?_; refine Ola ?_; refine Ofa ?_; refine Ola ?_; refine Ofa ?_; refine Ola ?_
  refine OL.popC rfl rfl rfl (POp.call (.mk' rfl rfl rfl rfl rfl) (p35n h)) ?_
  refine Omv ?_; refine Oex ?_; refine Oex ?_; refine Oas ?_; refine Oas ?_; refine S4 ?_; refine Ofa ?_; refine Ola ?_; refine Ofa ?_; refine Ola ?_; refine Ofa ?_; refine Ola ?_
  refine OL.popC rfl rfl rfl (POp.call (.mk' rfl rfl rfl rfl rfl) (p24n h)) ?_
  refine Omv ?_; refine Oex ?_; refine Oex ?_; refine Oas ?_; refine Oas ?_; refine S5 ?_; refine Omv ?_; refine Ocm ?_; refine Omv ?_; refine Pmv ?_; refine Pcm ?_; refine Opk ?_
  refine S2 ?_
  refine CW.cond rfl (fun h0 => ?_) (fun h0 => ?_)
  ·
    refine S2 ?_; refine Omv ?_; refine Oln ?_; refine Ocm ?_; refine Omv ?_
    refine OL.guardC rfl rfl rfl rfl rfl rfl (fun hg => POp.call (.mk' rfl rfl rfl rfl rfl) (p21)) ?_
    refine Opk ?_; refine Oas ?_; refine S4 ?_
    refine r1 6 (H) ?_
    exact ⟨by rfl, rfl⟩
  ·
    cases h0
theorem p12l (g : Gv) (a b : U8) (h : goodP g.W [g.A, g.B] = true) (hs : 400 < (impCases g.A g.B).length) : PCall Tryz.prog 12 [AV.given g, AV.u8 a, AV.u8 b] (.b true) := by
  intro H
  refine ACall.mk' (n := 194) Tryz.func12 rfl (by kernel_rfl) rfl rfl (fun B I w0 => ?_)
  refine S2 ?_; refine Obx ?_; refine Oas ?_; refine S4 ?_; refine Ofa ?_; refine Ola ?_; refine Ofa ?_; refine Ola ?_; refine Ofa ?_; refine Ola ?_
  refine OL.popC rfl rfl rfl (POp.call (.mk' rfl rfl rfl rfl rfl) (p35l h hs)) ?_
  refine Omv ?_; refine Oex ?_; refine Oex ?_; refine Oas ?_; refine Oas ?_; refine S4 ?_; refine Ofa ?_; refine Ola ?_; refine Ofa ?_; refine Ola ?_; refine Ofa ?_; refine Ola ?_
  refine OL.popC rfl rfl rfl (POp.call (.mk' rfl rfl rfl rfl rfl) (p24c h)) ?_
  refine Omv ?_; refine Oex ?_; refine Oex ?_; refine Oas ?_; refine Oas ?_; refine S5 ?_; refine Omv ?_; refine Ocm ?_; refine Omv ?_; refine Pmv ?_; refine Pcm ?_; refine Opk ?_
  refine S2 ?_
  refine CW.cond rfl (fun h0 => ?_) (fun h0 => ?_)
  ·
    refine S2 ?_; refine Omv ?_; refine Oln ?_; refine Ocm ?_; refine Omv ?_
    refine OL.guardC rfl rfl rfl rfl rfl rfl (fun hg => POp.call (.mk' rfl rfl rfl rfl rfl) (p21)) ?_
    refine Opk ?_; refine Oas ?_; refine S4 ?_
    refine r1 6 (H) ?_
    exact ⟨by rfl, rfl⟩
  ·
    cases h0
theorem p12y (g : Gv) (a b : U8) (h : goodP g.W [g.A, g.B] = true) (hs : (impCases g.A g.B).length ≤ 400) (hyes : ∃ c ∈ (impCases g.A g.B), together2 g.W c = true) : PCall Tryz.prog 12 [AV.given g, AV.u8 a, AV.u8 b] (.b true) := by
  intro H
  refine ACall.mk' (n := 194) Tryz.func12 rfl (by kernel_rfl) rfl rfl (fun B I w0 => ?_)
  have himp : impC g.W g.A g.B = false := by rw [imp_cases]; obtain ⟨c, hc, ht⟩ := hyes; exact List.all_eq_false.2 ⟨c, hc, by rw [ht]; simp⟩
  have h24 := p24c h
  rw [himp] at h24
  refine S2 ?_; refine Obx ?_; refine Oas ?_; refine S4 ?_; refine Ofa ?_; refine Ola ?_; refine Ofa ?_; refine Ola ?_; refine Ofa ?_; refine Ola ?_
  refine OL.popC rfl rfl rfl (POp.call (.mk' rfl rfl rfl rfl rfl) (p35y h hs hyes)) ?_
  refine Omv ?_; refine Oex ?_; refine Oex ?_; refine Oas ?_; refine Oas ?_; refine S4 ?_; refine Ofa ?_; refine Ola ?_; refine Ofa ?_; refine Ola ?_; refine Ofa ?_; refine Ola ?_
  refine OL.popC rfl rfl rfl (POp.call (.mk' rfl rfl rfl rfl rfl) (h24)) ?_
  refine Omv ?_; refine Oex ?_; refine Oex ?_; refine Oas ?_; refine Oas ?_; refine S5 ?_; refine Omv ?_; refine Ocm ?_; refine Omv ?_; refine Pmv ?_; refine Pcm ?_; refine Opk ?_
  refine S2 ?_
  refine CW.cond rfl (fun h0 => ?_) (fun h0 => ?_)
  ·
    cases h0
  ·
    refine S5 ?_; refine Omv ?_; refine Ocm ?_; refine S2 ?_
    refine CW.cond rfl (fun h1 => ?_) (fun h1 => ?_)
    ·
      refine S2 ?_; refine Omv ?_; refine Ocm ?_; refine Omv ?_; refine Pmv ?_; refine Pnt ?_; refine Opk ?_; refine Omv ?_; refine Pmv ?_; refine Pln ?_; refine Pcm ?_; refine Opk ?_
      refine Omv ?_
      refine OL.guardC rfl rfl rfl rfl rfl rfl (fun hg => POp.call (.mk' rfl rfl rfl rfl rfl) (p21)) ?_
      refine Opk ?_; refine Oas ?_; refine S4 ?_
      refine r1 6 (H) ?_
      exact ⟨by rfl, rfl⟩
    ·
      cases h1
theorem p12g (g : Gv) (a b : U8) (h : goodP g.W [g.A, g.B] = true) (hs : (impCases g.A g.B).length ≤ 400) (hno : ∀ c ∈ (impCases g.A g.B), together2 g.W c = false) : PCall Tryz.prog 12 [AV.given g, AV.u8 a, AV.u8 b] (.b true) := by
  intro H
  refine ACall.mk' (n := 194) Tryz.func12 rfl (by kernel_rfl) rfl rfl (fun B I w0 => ?_)
  have himp : impC g.W g.A g.B = true := by rw [imp_cases]; exact List.all_eq_true.2 fun c hc => by rw [hno c hc]; rfl
  have h24 := p24c h
  rw [himp] at h24
  have h35 := p35c h hs hno
  have hP := prf_of h hs hno
  obtain ⟨p, hp⟩ : ∃ p, p = (impCases g.A g.B).map (minC2 g.W) := ⟨_, rfl⟩
  rw [← hp] at h35 hP
  have hpl := hP.len
  have hau := a.isLt
  have hbu := b.isLt
  refine S2 ?_; refine Obx ?_; refine Oas ?_; refine S4 ?_; refine Ofa ?_; refine Ola ?_; refine Ofa ?_; refine Ola ?_; refine Ofa ?_; refine Ola ?_
  refine OL.popC rfl rfl rfl (POp.call (.mk' rfl rfl rfl rfl rfl) (h35)) ?_
  refine Omv ?_; refine Oex ?_; refine Oex ?_; refine Oas ?_; refine Oas ?_; refine S4 ?_; refine Ofa ?_; refine Ola ?_; refine Ofa ?_; refine Ola ?_; refine Ofa ?_; refine Ola ?_
  refine OL.popC rfl rfl rfl (POp.call (.mk' rfl rfl rfl rfl rfl) (h24)) ?_
  refine Omv ?_; refine Oex ?_; refine Oex ?_; refine Oas ?_; refine Oas ?_; refine S5 ?_; refine Omv ?_; refine Ocm ?_; refine Omv ?_; refine Pmv ?_; refine Pcm ?_; refine Opk ?_
  refine S2 ?_
  refine CW.cond rfl (fun h0 => ?_) (fun h0 => ?_)
  ·
    cases h0
  ·
    refine S5 ?_; refine Omv ?_; refine Ocm ?_; refine S2 ?_
    refine CW.cond rfl (fun h1 => ?_) (fun h1 => ?_)
    ·
      cases h1
    ·
      refine S4 ?_; refine Ofa ?_; refine Ola ?_; refine Ofa ?_; refine Ola ?_; refine Ofa ?_; refine Ola ?_; refine Omv ?_
      refine OL.popC rfl rfl rfl (POp.call (.mk' rfl rfl rfl rfl rfl) (hP.ok)) ?_
      refine Omv ?_; refine Oex ?_; refine Oex ?_; refine Oas ?_; refine Oas ?_; refine S5 ?_; refine Omv ?_; refine Ocm ?_; refine Omv ?_; refine Pmv ?_; refine Pnt ?_; refine Opk ?_
      refine Omv ?_; refine Pmv ?_; refine Pnt ?_; refine Opk ?_; refine S2 ?_
      refine CW.cond rfl (fun h2 => ?_) (fun h2 => ?_)
      ·
        cases h2
      ·
        refine S5 ?_; refine Omv ?_; refine Oln ?_; refine Ocm ?_; refine S2 ?_
        refine CW.cond rfl (fun h3 => ?_) (fun h3 => ?_)
        ·
          refine S2 ?_
          refine OL.popC rfl rfl rfl (POp.call (.mk' rfl rfl rfl rfl rfl) (p21)) ?_
          refine Oas ?_; refine S4 ?_
          refine r1 6 (H) ?_
          exact ⟨by rfl, rfl⟩
        ·
          replace h3 := nm h3
          have hp0 : 0 < p.length := by omega
          obtain ⟨w, hwl, hwi⟩ := tm_nat a hp0
          have hqn := hP.ne w hwl
          have hql := hP.lens w hwl
          have hpn : p ≠ [] := fun e => by rw [e] at hp0; cases hp0
          have hq0 : 0 < (p.getD w default).length := by have := List.length_pos_iff.2 hqn; omega
          obtain ⟨k, hkl, hki⟩ := tm_nat b hq0
          refine S4 ?_; refine Omv ?_
          refine OL.popC rfl rfl rfl (POp.cv rfl rfl rfl (wrap64 (by omega))) ?_
          refine Omv ?_; refine Oln ?_
          refine OL.popC rfl rfl rfl (POp.div rfl rfl rfl rfl rfl (by omega) (.inr ⟨rfl, rfl⟩)) ?_
          refine Oas ?_; refine S4 ?_
          rw [hwi]
          refine S1 ?_; refine Omv ?_; refine Omv ?_; refine Oix ?_; refine Old ?_; refine Oln ?_; refine Ocm ?_; refine S2 ?_
          refine CW.cond rfl (fun h4 => ?_) (fun h4 => ?_)
          ·
            refine S2 ?_; refine Omv ?_
            refine OL.bcallC rfl rfl rfl (.mk' rfl rfl rfl rfl rfl) (a31 _ p hpn (by omega) _) ?_
            rintro y H1 ⟨mb, mcap, mmore, rfl, hm1, hm2, rfl⟩
            refine Oas ?_; refine S4 ?_; refine Omv ?_
            refine OL.popC rfl rfl rfl (POp.cv rfl rfl rfl (wrap64 (by omega))) ?_
            refine Omv ?_; refine Omv ?_; refine Oix ?_; refine Old ?_; refine Oln ?_
            refine OL.popC rfl rfl rfl (POp.div rfl rfl rfl rfl rfl (by omega) (.inr ⟨rfl, rfl⟩)) ?_
            refine Oas ?_; refine S3 ?_
            rw [hki]
            refine S1 ?_; refine Omv ?_; refine Omv ?_; refine Omv ?_; refine Omv ?_; refine Oix ?_; refine Old ?_
            refine OL.bcallC rfl rfl rfl (.mk' rfl rfl rfl rfl rfl) (a32 _ (p.getD w default) hqn (by omega) _) ?_
            rintro y H1 ⟨nb, ncap, nmore, rfl, hn1, hn2, rfl⟩
            refine Omv ?_; refine Omv ?_; refine Oar ?_
            refine OL.bcallC rfl rfl rfl (.mk' rfl rfl rfl rfl rfl) (b59 _ (p.getD w default) k hkl nb ncap nmore (by omega) hn1 hn2 _) ?_
            rintro y H1 ⟨rfl, rfl⟩
            refine OL.popC rfl rfl rfl (POp.ixC rfl rfl rfl rfl rfl (by simp; omega)) ?_
            apply OL.stoC rfl rfl rfl rfl rfl rfl rfl rfl rfl rfl
            (case hu => repeat (first | exact Upd.head _ _ _ | apply Upd.tail)); (case hfit => exact Nat.ble_eq_true_of_le (by rw [intss_map]; simp [bcells]; omega)); (case hds => exact (set_cell hwl _).trans (set_ints hwl _))
            refine S3 ?_
            refine CW.freezeS (k := 1) (d := 13) rfl (.head _ _) (by simp) (fun e he => by obtain ⟨n, _, rfl⟩ := List.mem_map.1 he; rfl) hm1 hm2 ?_
            refine S1 ?_; refine Ofa ?_; refine Ola ?_; refine Ofa ?_; refine Ola ?_; refine Ofa ?_; refine Ola ?_; refine Omv ?_
            refine OL.popC rfl rfl rfl (POp.call (.mk' rfl rfl rfl rfl rfl) (hP.less w hwl k hkl)) ?_
            refine Omv ?_; refine Oex ?_; refine Oex ?_; refine Oas ?_; refine Oas ?_; refine S4 ?_; refine Omv ?_; refine Ocm ?_; refine Omv ?_; refine Pmv ?_; refine Opk ?_; refine S2 ?_
            refine CW.cond rfl (fun h5 => ?_) (fun h5 => ?_)
            ·
              cases h5
            ·
              refine S4 ?_; refine Omv ?_
              refine OL.bcallC rfl rfl rfl (.mk' rfl rfl rfl rfl rfl) (a31 _ p hpn (by omega) _) ?_
              rintro y H1 ⟨mb, mcap, mmore, rfl, hm1, hm2, rfl⟩
              refine Oas ?_; refine S2 ?_
              refine CW.cutJ (fun st => ∃ M r e, ((r = true ∧ e = (0 : Int)) ∨ (r = false ∧ e = 2)) ∧ PCall Tryz.prog 53 [AV.world g.W, AV.fact g.A, AV.fact g.B, AV.intss M] (.tup [.b r, .i e]) ∧ st = ⟨[(17, AV.intss M), (3, .ptr (Gcells g)), (6, .b false)], H⟩) ?_ ?_
              ·
                refine S2 ?_; refine Omv ?_; refine Omv ?_; refine Oix ?_; refine Old ?_; refine Omv ?_
                refine OL.popC rfl rfl rfl (POp.cv rfl rfl rfl (wrap64 (by omega))) ?_
                refine OL.popC rfl rfl rfl (POp.call (.mk' rfl rfl rfl rfl rfl) (p33 _ _)) ?_
                refine Ont ?_; refine S2 ?_
                refine CW.cond rfl (fun h6 => ?_) (fun h6 => ?_)
                ·
                  have hcn : (p.getD w default).contains (b.val : Int) = false := by simpa using h6
                  obtain ⟨r, e, hre, h53⟩ := hP.more w hwl (b.val : Int) (by omega) hcn
                  refine S2 ?_; refine Omv ?_; refine Omv ?_; refine Omv ?_; refine Omv ?_; refine Oix ?_; refine Old ?_
                  refine OL.bcallC rfl rfl rfl (.mk' rfl rfl rfl rfl rfl) (a32r _ (p.getD w default) hqn (by omega) _) ?_
                  rintro y H1 ⟨v32, rfl, rfl⟩
                  refine Omv ?_
                  refine OL.popC rfl rfl rfl (POp.cv rfl rfl rfl (wrap64 (by omega))) ?_
                  refine OL.popC rfl rfl rfl (POp.row rfl rfl (by first | rfl | simp_all [strip]) rfl rfl rfl rfl rfl rfl) ?_
                  refine OL.appendRow (news := [[AV.i (b.val : Int)]]) rfl rfl rfl rfl rfl rfl rfl rfl (AVle.refl _) (by simp) rfl (fun v => by repeat (first | exact Upd.head _ _ _ | apply Upd.tail)) (by simp only [List.length_map, List.length_cons, List.length_nil]; omega) (by simp only [List.length_map, List.length_cons, List.length_nil]; omega) (fun v160 => ?_)
                  refine OL.popC rfl rfl rfl (POp.ixC rfl rfl rfl rfl rfl (by simp; omega)) ?_
                  refine OL.rowOne (v := v160) (.head _) (fun hv160 => ?_)
                  apply OL.stoC rfl rfl rfl rfl rfl rfl rfl (one_bOk hv160) (one_all hv160) rfl
                  (case hu => repeat (first | exact Upd.head _ _ _ | apply Upd.tail)); (case hfit => exact Nat.ble_eq_true_of_le (by rw [intss_map]; simp [bcells]; omega)); (case hds => exact set_cell hwl (.val v160))
                  refine S2 ?_
                  refine CW.eqH (H' := rowE v160 ((p.getD w default) ++ [(b.val : Int)]) :: _) (by rw [rowE_snoc]; rfl) ?_
                  refine S1 ?_; refine Omv ?_; refine Omv ?_
                  refine OL.popC rfl rfl rfl (POp.ixC rfl rfl rfl rfl rfl (by simp; omega)) ?_
                  refine OL.popC rfl rfl rfl (POp.ld1H rfl rfl rfl (.tail _ (.head _)) (got_cell hwl _)) ?_
                  refine OL.bcallC rfl rfl rfl (.mk' rfl rfl rfl rfl rfl) (p60 _ v160 ((p.getD w default) ++ [(b.val : Int)]) (by rw [List.length_append, List.length_singleton]; omega) _) ?_
                  rintro y H1 ⟨rfl, rfl⟩
                  refine S1 ?_
                  refine Done.freezeRowCell (els := intEls (sortI ((p.getD w default) ++ [(b.val : Int)]))) (by simp) ?_
                  refine Done.perm (.of_eq (congrArg (fun z => Ent.blk mb 23 z :: H) (set_ints hwl _))) ?_
                  refine Done.freezeS (k := 1) (d := 17) rfl (.head _ _) (by simp) (fun e he => by obtain ⟨n, _, rfl⟩ := List.mem_map.1 he; rfl) hm1 hm2 ?_
                  exact Done.cutJ ⟨_, _, _, hre, h53, rfl⟩ (by repeat (first | exact trivial | refine ⟨rfl, ?_⟩)) (by repeat (first | exact List.Sublist.refl _ | refine List.Sublist.cons _ ?_))
                ·
                  refine S1 ?_
                  refine Done.freezeS (k := 1) (d := 17) rfl (.head _ _) (by simp) (fun e he => by obtain ⟨n, _, rfl⟩ := List.mem_map.1 he; rfl) hm1 hm2 ?_
                  exact Done.cutJ ⟨_, _, _, .inl ⟨rfl, rfl⟩, hP.ok, rfl⟩ (by repeat (first | exact trivial | refine ⟨rfl, ?_⟩)) (by repeat (first | exact List.Sublist.refl _ | refine List.Sublist.cons _ ?_))
              ·
                rintro _ ⟨M, r, e, hre, h53, rfl⟩
                refine S2 ?_; refine Ofa ?_; refine Ola ?_; refine Ofa ?_; refine Ola ?_; refine Ofa ?_; refine Ola ?_; refine Omv ?_
                refine OL.popC rfl rfl rfl (POp.call (.mk' rfl rfl rfl rfl rfl) (h53)) ?_
                refine Omv ?_; refine Oex ?_; refine Oex ?_; refine Oas ?_; refine Oas ?_; refine S4 ?_; refine Omv ?_; refine Omv ?_; refine Pmv ?_; refine Pcm ?_; refine Opk ?_; refine Omv ?_
                refine Pmv ?_; refine Pnt ?_; refine Pmv ?_; refine Pmv ?_; refine Pcm ?_; refine Ppk ?_; refine Opk ?_; refine Omv ?_
                refine OL.guardC rfl rfl rfl rfl rfl rfl (fun hg => POp.call (.mk' rfl rfl rfl rfl rfl) (p21)) ?_
                refine Opk ?_; refine Oas ?_; refine S3 ?_
                refine r1 6 (H) ?_
                exact ⟨retB (by rcases hre with ⟨rfl, rfl⟩ | ⟨rfl, rfl⟩ <;> rfl), rfl⟩
          ·
            exfalso
            simp only [decide_eq_false_iff_not] at h4
            omega
theorem p12 (g : Gv) (a b : U8) : PCall Tryz.prog 12 [AV.given g, AV.u8 a, AV.u8 b] (.b true) := by
  cases h : goodP g.W [g.A, g.B] with
  | false => exact p12n g a b h
  | true =>
    by_cases hs : (impCases g.A g.B).length ≤ 400
    · by_cases hno : ∀ c ∈ impCases g.A g.B, together2 g.W c = false
      · exact p12g g a b h hs hno
      · refine p12y g a b h hs ?_
        obtain ⟨c, hc⟩ := Classical.not_forall.1 hno
        obtain ⟨hm, hc⟩ := Classical.not_imp.1 hc
        exact ⟨c, hm, by simpa using hc⟩
    · exact p12l g a b h (by omega)
end Go.Proofs.YtiljpbljebfhnaaGreat
