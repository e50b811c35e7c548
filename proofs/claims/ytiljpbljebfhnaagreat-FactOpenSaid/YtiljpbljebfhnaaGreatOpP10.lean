/- Part 10 of the proof: contracts of functions of the program and what they need. No condition beyond those that each theorem names. -/
import Derived.Test.YtiljpbljebfhnaaGreatOpP9
import Derived.ProofKit
set_option linter.unusedVariables false
set_option linter.unusedSimpArgs false
set_option maxRecDepth 10000
namespace Go.Proofs.YtiljpbljebfhnaaGreat
open Go.Eng
open Go.Eng.Fc
/-! ### what can be so has a model -/
theorem slots2_congr {W : FW} {kn : K2} {a : Int} {p : List Int} {c1 c2 : List Int → Bool} : ∀ (l : List Int) (must no : Nat), (∀ s ∈ l, c1 (p ++ [s]) = c2 (p ++ [s])) → slots2 W kn c1 a p l must no = slots2 W kn c2 a p l must no
  | [], _, _, _ => rfl
  | s :: r, must, no, h => by
    have h1 := h s (.head _)
    have hr : ∀ x ∈ r, c1 (p ++ [x]) = c2 (p ++ [x]) := fun x hx => h x (.tail _ hx)
    rw [slots2, slots2, h1, slots2_congr r _ _ hr, slots2_congr r _ _ hr, slots2_congr r _ _ hr]
theorem object2_congr {W : FW} {kn : K2} {a : Int} {p : List Int} {c1 c2 : List Int → Bool} (h : ∀ s ∈ (kn a p).slots, c1 (p ++ [s]) = c2 (p ++ [s])) : object2 W kn c1 a p = object2 W kn c2 a p := by
  rw [object2, object2, slots2_congr _ _ _ h]
def canAt (W : FW) (kn : K2) (a : Int) (p : List Int) : Bool := can2 W kn (2 - p.length) a p
def objAt (W : FW) (kn : K2) (a : Int) (p : List Int) : Nat × Bool := object2 W kn (canAt W kn a) a p
def vAt (W : FW) (kn : K2) (a : Int) (p : List Int) : Val :=
  if integer2 kn a p = true then .int (freeK (kn a p).nots (kn a p).low)
  else if none2 kn a p = true then .non
  else .obj fun c => c == 0 || (objAt W kn a p).1.testBit c
def stepV (W : FW) (kn : K2) (a : Int) (p : List Int) (v : Val) (s : Int) : Option Val := match v with
  | .obj S => if (decide (0 ≤ s) && decide (s < W.owner.length) && S (ownerN W s)) = true then (if (kn a p).slots.contains s = true then some (vAt W kn a (p ++ [s])) else some .non) else none
  | _ => none
def mkP (W : FW) (kn : K2) (a : Int) (p : List Int) : Option Val := (p.foldl (fun (st : List Int × Option Val) s => (st.1 ++ [s], st.2.bind fun v => stepV W kn a st.1 v s)) ([], some (vAt W kn a []))).2
def mkV (W : FW) (kn : K2) : VM := fun a p => if 0 ≤ a ∧ a < 3 then mkP W kn a p else none
theorem mk_fst (W : FW) (kn : K2) (a : Int) : ∀ (p : List Int) (st : List Int × Option Val), (p.foldl (fun (st : List Int × Option Val) s => (st.1 ++ [s], st.2.bind fun v => stepV W kn a st.1 v s)) st).1 = st.1 ++ p
  | [], st => by simp
  | s :: r, st => by rw [List.foldl_cons, mk_fst W kn a r]; simp
theorem mk_snoc (W : FW) (kn : K2) (a : Int) (p : List Int) (s : Int) : mkP W kn a (p ++ [s]) = (mkP W kn a p).bind fun v => stepV W kn a p v s := by
  rw [mkP, List.foldl_append, List.foldl_cons, List.foldl_nil, mk_fst]; rfl
theorem slots2_facts {W : FW} {kn : K2} {can : List Int → Bool} {a : Int} {p : List Int} : ∀ (l : List Int) (must no m' n' : Nat), slots2 W kn can a p l must no = some (m', n') →
    (∀ c, must.testBit c = true → m'.testBit c = true) ∧ (∀ c, no.testBit c = true → n'.testBit c = true) ∧ (∀ c, m'.testBit c = true → must.testBit c = true ∨ ∃ s ∈ l, c = ownerN W s) ∧
    ∀ s ∈ l, ((kn a (p ++ [s])).needed = true → m'.testBit (ownerN W s) = true ∧ can (p ++ [s]) = true) ∧ (can (p ++ [s]) = false → n'.testBit (ownerN W s) = true)
  | [], must, no, m', n', h => by
    rw [slots2] at h; cases h
    exact ⟨fun _ h => h, fun _ h => h, fun _ h => .inl h, fun s hs => by cases hs⟩
  | s :: r, must, no, m', n', h => by
    rw [slots2] at h
    cases hnd : (kn a (p ++ [s])).needed with
    | true =>
      rw [hnd] at h
      cases hcn : can (p ++ [s]) with
      | false => rw [hcn] at h; cases h
      | true =>
        rw [hcn] at h
        simp only [Bool.not_true, Bool.and_false, Bool.false_eq_true, if_false, if_true] at h
        obtain ⟨i1, i2, i3, i4⟩ := slots2_facts r _ _ _ _ h
        refine ⟨fun c hc => i1 c (by rw [or_bit, hc]; rfl), i2, fun c hc => ?_, fun x hx => ?_⟩
        · rcases i3 c hc with h' | ⟨x, hx, e⟩
          · rw [or_bit, Bool.or_eq_true, beq_iff_eq] at h'
            rcases h' with h' | h'
            · exact .inl h'
            · exact .inr ⟨s, .head _, h'⟩
          · exact .inr ⟨x, .tail _ hx, e⟩
        · rcases List.mem_cons.1 hx with rfl | hx
          · exact ⟨fun _ => ⟨i1 _ (by rw [or_bit]; simp [ownerN]), hcn⟩, fun hf => by rw [hcn] at hf; cases hf⟩
          · exact i4 x hx
    | false =>
      rw [hnd] at h
      cases hcn : can (p ++ [s]) with
      | false =>
        rw [hcn] at h
        simp only [Bool.not_false, Bool.and_true, Bool.false_and, Bool.false_eq_true, if_false, if_true] at h
        obtain ⟨i1, i2, i3, i4⟩ := slots2_facts r _ _ _ _ h
        refine ⟨i1, fun c hc => i2 c (by rw [or_bit, hc]; rfl), fun c hc => ?_, fun x hx => ?_⟩
        · rcases i3 c hc with h' | ⟨x, hx, e⟩
          · exact .inl h'
          · exact .inr ⟨x, .tail _ hx, e⟩
        · rcases List.mem_cons.1 hx with rfl | hx
          · exact ⟨fun hf => (by rw [hnd] at hf; cases hf), fun _ => i2 _ (by rw [or_bit]; simp [ownerN])⟩
          · exact i4 x hx
      | true =>
        rw [hcn] at h
        simp only [Bool.not_true, Bool.false_and, Bool.false_eq_true, if_false] at h
        obtain ⟨i1, i2, i3, i4⟩ := slots2_facts r _ _ _ _ h
        refine ⟨i1, i2, fun c hc => ?_, fun x hx => ?_⟩
        · rcases i3 c hc with h' | ⟨x, hx, e⟩
          · exact .inl h'
          · exact .inr ⟨x, .tail _ hx, e⟩
        · rcases List.mem_cons.1 hx with rfl | hx
          · exact ⟨fun hf => (by rw [hnd] at hf; cases hf), fun hf => by rw [hcn] at hf; cases hf⟩
          · exact i4 x hx
/-- what is known of an object that may stand at a spot -/
structure ObjF (W : FW) (kn : K2) (a : Int) (p : List Int) (R : Nat) : Prop where
  whole : (kn a p).whole = false
  m1 : (kn a p).must.testBit 1 = false
  m2 : (kn a p).must.testBit 2 = false
  n0 : (kn a p).no.testBit 0 = false
  must : ∀ c, (kn a p).must.testBit c = true → c ≠ 0 → R.testBit c = true
  no : ∀ c, (kn a p).no.testBit c = true → R.testBit c = false
  low : ∀ c, c < 3 → R.testBit c = false
  lt : ∀ c, R.testBit c = true → c < 3 + W.parents.length
  up : ∀ c b, R.testBit c = true → upB W c b = true → b ≠ 0 → R.testBit b = true
  slots : ∀ s ∈ (kn a p).slots, ((kn a (p ++ [s])).needed = true → R.testBit (ownerN W s) = true) ∧ (R.testBit (ownerN W s) = true → canAt W kn a (p ++ [s]) = true)
section
variable {W : FW} {ls : List FLit} (h : LsOk W ls)
include h
theorem can_at {a : Int} {p : List Int} (hp : p.length ≤ 2) : canAt W (stage2 ls) a p = (integer2 (stage2 ls) a p || none2 (stage2 ls) a p || (objAt W (stage2 ls) a p).2) := by
  rw [canAt, objAt]
  by_cases h2 : p.length = 2
  · rw [h2, show 2 - 2 = 0 from rfl, can2, object2_congr (c2 := canAt W (stage2 ls) a) (fun s hs => absurd (slot_len h hs) (by omega))]
  · obtain ⟨d, hd⟩ : ∃ d, 2 - p.length = d + 1 := ⟨1 - p.length, by omega⟩
    rw [hd, can2, object2_congr (c2 := canAt W (stage2 ls) a) (fun s hs => by rw [canAt]; congr 1; simp; omega)]
theorem obj_f {a : Int} {p : List Int} (ho : (objAt W (stage2 ls) a p).2 = true) : ObjF W (stage2 ls) a p (objAt W (stage2 ls) a p).1 := by
  have hW := world_len h.w
  rw [objAt] at ho ⊢
  generalize hob : object2 W (stage2 ls) (canAt W (stage2 ls) a) a p = ob at ho ⊢
  rw [object2] at hob
  by_cases hb : ((stage2 ls a p).whole || (stage2 ls a p).must.testBit 1 || (stage2 ls a p).must.testBit 2 || (stage2 ls a p).no.testBit 0) = true
  · rw [if_pos hb] at hob; rw [← hob] at ho; cases ho
  · rw [if_neg hb] at hob
    have hb := Bool.eq_false_iff.2 hb
    simp only [Bool.or_eq_false_iff] at hb
    cases hs : slots2 W (stage2 ls) (canAt W (stage2 ls) a) a p (stage2 ls a p).slots (stage2 ls a p).must (stage2 ls a p).no with
    | none => rw [hs] at hob; rw [← hob] at ho; cases ho
    | some mn =>
      obtain ⟨m', n'⟩ := mn
      rw [hs] at hob
      simp only [] at hob
      obtain ⟨f1, f2, f3, f4⟩ := slots2_facts _ _ _ _ _ hs
      rw [← hob] at ho ⊢
      simp only [] at ho ⊢
      have hz := zero_bits.1 ho
      have hown : ∀ s ∈ (stage2 ls a p).slots, 3 ≤ ownerN W s ∧ ownerN W s < 3 + W.parents.length := fun s hs => by
        have := owner_rng h.w (slot_in h hs)
        rw [ownerN]; omega
      have hm12 : ∀ c, c = 1 ∨ c = 2 → m'.testBit c = false := fun c hc => by
        rw [Bool.eq_false_iff]; intro hm
        rcases f3 c hm with h' | ⟨s, hs', e⟩
        · rcases hc with rfl | rfl
          · rw [hb.1.1.2] at h'; cases h'
          · rw [hb.1.2] at h'; cases h'
        · have := hown s hs'; omega
      have hmlt : ∀ c, m'.testBit c = true → c < 3 + W.parents.length := fun c hm => by
        rcases f3 c hm with h' | ⟨s, hs', e⟩
        · exact h.must_lt h'
        · rw [e]; exact (hown s hs').2
      have hX := closeK_get h.w W.parents.length 3 m' rfl
      have hlt : ∀ c, (closeK W W.parents.length 3 m').testBit c = true → c < 3 + W.parents.length := fun c hc => by
        rcases (hX c).1 hc with h1 | ⟨i, h1, h2, _, h4⟩
        · exact hmlt c h1
        · have := upB_le h.w i i (Nat.le_refl _) (by omega) c h4; omega
      have hR : ∀ c, (andNotP (closeK W W.parents.length 3 m') 1).testBit c = ((closeK W W.parents.length 3 m').testBit c && !(c == 0)) := fun c => by
        rw [andNot_bit, show (1 : Nat).testBit c = (c == 0) from by
          rcases c with _ | c
          · rfl
          · rw [Nat.testBit_succ]; simp]
        cases hc : (closeK W W.parents.length 3 m').testBit c with
        | false => simp
        | true => have := hlt c hc; rw [decide_eq_true (by omega)]; rfl
      have hRm : ∀ c, m'.testBit c = true → c ≠ 0 → (andNotP (closeK W W.parents.length 3 m') 1).testBit c = true := fun c hm hc => by
        rw [hR, (hX c).2 (.inl hm), show (c == 0) = false from by simpa using hc]; rfl
      have hRn : ∀ c, n'.testBit c = true → (andNotP (closeK W W.parents.length 3 m') 1).testBit c = false := fun c hn => by
        have := hz c
        rw [Nat.testBit_and, hn, Bool.and_true] at this; exact this
      refine ⟨hb.1.1.1, hb.1.1.2, hb.1.2, hb.2, fun c hc h0 => hRm c (f1 c hc) h0, fun c hc => hRn c (f2 c hc), fun c hc => ?_, fun c hc => ?_, fun c b hc hub hb0 => ?_, fun s hs' => ?_⟩
      · rw [hR, Bool.eq_false_iff]; intro hh
        rw [Bool.and_eq_true, Bool.not_eq_true', beq_eq_false_iff_ne] at hh
        rcases (hX c).1 hh.1 with h1 | ⟨i, h1, h2, _, h4⟩
        · rw [hm12 c (by omega)] at h1; cases h1
        · have := upB_le h.w i i (Nat.le_refl _) (by omega) c h4; omega
      · rw [hR, Bool.and_eq_true] at hc; exact hlt c hc.1
      · rw [hR, Bool.and_eq_true] at hc ⊢
        refine ⟨?_, by simpa using hb0⟩
        rw [hX b]
        rcases (hX c).1 hc.1 with h1 | ⟨i, h1, h2, h3, h4⟩
        · have hc0 : c ≠ 0 := by simpa using hc.2
          have hcl := hmlt c h1
          have hc12 : c ≠ 1 ∧ c ≠ 2 := ⟨fun e => (by rw [hm12 c (.inl e)] at h1; cases h1), fun e => by rw [hm12 c (.inr e)] at h1; cases h1⟩
          exact .inr ⟨c, by omega, by omega, h1, hub⟩
        · exact .inr ⟨i, h1, h2, h3, upB_trans h.w i i (Nat.le_refl _) (by omega) c b h4 hub⟩
      · refine ⟨fun hn => hRm _ ((f4 s hs').1 hn).1 (by have := hown s hs'; omega), fun hr => ?_⟩
        cases hcn : canAt W (stage2 ls) a (p ++ [s]) with
        | true => rfl
        | false => rw [hRn _ ((f4 s hs').2 hcn)] at hr; cases hr
/-- what stands at a spot where something may -/
theorem vat_cases {a : Int} {p : List Int} (hp : p.length ≤ 2) (hc : canAt W (stage2 ls) a p = true) :
    (integer2 (stage2 ls) a p = true ∧ vAt W (stage2 ls) a p = .int (freeK (stage2 ls a p).nots (stage2 ls a p).low)) ∨ (none2 (stage2 ls) a p = true ∧ vAt W (stage2 ls) a p = .non) ∨
    ((objAt W (stage2 ls) a p).2 = true ∧ vAt W (stage2 ls) a p = .obj fun c => c == 0 || (objAt W (stage2 ls) a p).1.testBit c) := by
  rw [can_at h hp] at hc
  unfold vAt
  by_cases hi : integer2 (stage2 ls) a p = true
  · rw [if_pos hi]; exact .inl ⟨hi, rfl⟩
  · rw [if_neg hi]
    by_cases hn : none2 (stage2 ls) a p = true
    · rw [if_pos hn]; exact .inr (.inl ⟨hn, rfl⟩)
    · rw [if_neg hn]
      rw [Bool.eq_false_iff.2 hi, Bool.eq_false_iff.2 hn] at hc
      exact .inr (.inr ⟨by simpa using hc, rfl⟩)
theorem own_ne {s : Int} (hs : 0 ≤ s ∧ s < W.owner.length) : ownerN W s ≠ 0 := by
  have := owner_rng h.w hs; rw [ownerN]; omega
theorem mk_inv (ht : together2 W ls = true) {a : Int} (ha : 0 ≤ a ∧ a < 3) : ∀ (n : Nat) (p : List Int), p.length = n → ∀ v, mkP W (stage2 ls) a p = some v → v = .non ∨ (v = vAt W (stage2 ls) a p ∧ p.length ≤ 2 ∧ canAt W (stage2 ls) a p = true)
  | 0, p, hp, v, hv => by
    rw [List.eq_nil_of_length_eq_zero hp] at hv ⊢
    have e : v = vAt W (stage2 ls) a [] := (Option.some.inj hv).symm
    refine .inr ⟨e, by simp, ?_⟩
    rw [together2, Bool.and_eq_true, Bool.and_eq_true] at ht
    have : a = 0 ∨ a = 1 ∨ a = 2 := by omega
    rcases this with rfl | rfl | rfl
    · exact ht.1.1
    · exact ht.1.2
    · exact ht.2
  | n + 1, p, hp, v, hv => by
    rcases List.eq_nil_or_concat p with rfl | ⟨q, s, rfl⟩
    · simp at hp
    · rw [List.concat_eq_append] at hp hv ⊢
      rw [mk_snoc] at hv
      obtain ⟨u, hu, hst⟩ := Option.bind_eq_some_iff.1 hv
      rcases mk_inv ht ha n q (by simpa using hp) u hu with rfl | ⟨rfl, hq, hc⟩
      · cases hst
      · rcases vat_cases h hq hc with ⟨_, e⟩ | ⟨_, e⟩ | ⟨ho, e⟩
        · rw [e] at hst; cases hst
        · rw [e] at hst; cases hst
        · rw [e] at hst
          simp only [stepV] at hst
          split at hst
          · rename_i hcond
            simp only [Bool.and_eq_true, decide_eq_true_eq, Bool.or_eq_true, beq_iff_eq] at hcond
            split at hst
            · rename_i hcs
              have hcs := List.contains_iff_mem.1 hcs
              have hl := slot_len h hcs
              refine .inr ⟨(Option.some.inj hst).symm, by simp; omega, ((obj_f h ho).slots s hcs).2 ?_⟩
              rcases hcond.2 with e0 | e0
              · exact absurd e0 (own_ne h hcond.1)
              · exact e0
            · exact .inl (Option.some.inj hst).symm
          · cases hst
theorem mk_ok (ht : together2 W ls = true) : VOk W (mkV W (stage2 ls)) := by
  refine ⟨fun a h0 h3 => ?_, fun a p n hv => ?_, fun a p S hv => ?_, fun a p s h0 h1 => ?_⟩
  · rw [mkV, if_pos ⟨h0, h3⟩]; rfl
  · rw [mkV] at hv
    split at hv
    · rename_i ha
      rcases mk_inv h ht ha p.length p rfl _ hv with e | ⟨e, hp, hc⟩
      · cases e
      · rcases vat_cases h hp hc with ⟨hi, e'⟩ | ⟨_, e'⟩ | ⟨_, e'⟩
        · rw [e'] at e; cases e
          rw [integer2, Bool.and_eq_true, decide_eq_true_eq] at hi
          have hk := freeK_spec (stage2 ls a p).nots (stage2 ls a p).low
          have ht' := h.tri a p
          have hf := (num_fold (freeK (stage2 ls a p).nots (stage2 ls a p).low) (ls.filter (hitL a p)) rs0 (fun l hm => (h.ok l (List.mem_filter.1 hm).1).op)).1 (by rw [← ht']; exact ⟨hk.2.1, hi.1, hk.1⟩)
          exact ⟨hf.1.1, hf.1.2.1⟩
        · rw [e'] at e; cases e
        · rw [e'] at e; cases e
    · cases hv
  · rw [mkV] at hv
    split at hv
    · rename_i ha
      rcases mk_inv h ht ha p.length p rfl _ hv with e | ⟨e, hp, hc⟩
      · cases e
      · rcases vat_cases h hp hc with ⟨hi, e'⟩ | ⟨_, e'⟩ | ⟨ho, e'⟩
        · rw [e'] at e; cases e
        · rw [e'] at e; cases e
        · rw [e'] at e; cases e
          have hF := obj_f h ho
          refine ⟨rfl, by simp [hF.low], by simp [hF.low], fun c hc' hS b hub => ?_⟩
          simp only [Bool.or_eq_true, beq_iff_eq] at hS ⊢
          by_cases hb0 : b = 0
          · exact .inl hb0
          · rcases hS with rfl | hS
            · rw [upB_low (by omega)] at hub; simp at hub; exact absurd hub hb0
            · exact .inr (hF.up c b hS hub hb0)
    · cases hv
  · rw [mkV]
    by_cases ha : 0 ≤ a ∧ a < 3
    · simp only [mkV, if_pos ha]
      rw [mk_snoc]
      constructor
      · intro hs
        obtain ⟨v, hv⟩ := Option.isSome_iff_exists.1 hs
        obtain ⟨u, hu, hst⟩ := Option.bind_eq_some_iff.1 hv
        cases u with
        | int n => cases hst
        | non => cases hst
        | obj S =>
          simp only [stepV] at hst
          split at hst
          · rename_i hcond
            rw [Bool.and_eq_true] at hcond
            exact ⟨S, hu, hcond.2⟩
          · cases hst
      · rintro ⟨S, hS, hSo⟩
        rw [hS]
        simp only [Option.bind_some, stepV]
        rw [if_pos (by simp [h0, h1, hSo])]
        split <;> rfl
    · simp only [mkV, if_neg ha]
      simp
theorem ends_no {a : Int} {p : List Int} {s : Int} (hs : s ∈ (stage2 ls a p).slots) (hn : (stage2 ls a (p ++ [s])).needed = true) : ends2 (stage2 ls) a p = false := by
  have _ := h
  rw [ends2, List.all_eq_false]; exact ⟨s, hs, by rw [hn]; simp⟩
theorem lit_way {l : FLit} (hl : l ∈ ls) (ht : together2 W ls = true) : ∀ (n : Nat) (p : List Int), p.length = n → p <+: l.f.path →
    (mkP W (stage2 ls) l.f.arg p = none ∧ l.neg = true) ∨ (mkP W (stage2 ls) l.f.arg p = some (vAt W (stage2 ls) l.f.arg p) ∧ canAt W (stage2 ls) l.f.arg p = true)
  | 0, p, hp, _ => by
    have hok := h.ok l hl
    rw [List.eq_nil_of_length_eq_zero hp]
    refine .inr ⟨rfl, ?_⟩
    rcases mk_inv h ht hok.arg 0 [] rfl _ (show mkP W (stage2 ls) l.f.arg [] = some (vAt W (stage2 ls) l.f.arg []) from rfl) with e | e
    · rw [together2, Bool.and_eq_true, Bool.and_eq_true] at ht
      have ha := hok.arg
      have : l.f.arg = 0 ∨ l.f.arg = 1 ∨ l.f.arg = 2 := by omega
      rcases this with e | e | e <;> rw [e]
      · exact ht.1.1
      · exact ht.1.2
      · exact ht.2
    · exact e.2.2
  | n + 1, p, hp, hpre => by
    rcases List.eq_nil_or_concat p with rfl | ⟨q, s, rfl⟩
    · simp at hp
    · rw [List.concat_eq_append] at hp hpre ⊢
      have hok := h.ok l hl
      have hway : wayL l.f.arg (q ++ [s]) l = true := by rw [wayL, Bool.and_eq_true, beg_iff]; exact ⟨by simp, hpre⟩
      have hs : s ∈ (stage2 ls l.f.arg q).slots := by rw [h.slots]; exact List.any_eq_true.2 ⟨l, hl, hway⟩
      have hnd : l.neg = false → (stage2 ls l.f.arg (q ++ [s])).needed = true := fun hn => by
        rw [h.need]; exact List.any_eq_true.2 ⟨l, hl, by rw [needL, hn, hway]; rfl⟩
      have hq : q.length ≤ 2 := by have := slot_len h hs; omega
      rw [mk_snoc]
      rcases lit_way hl ht n q (by simpa using hp) ((List.prefix_append _ _).trans hpre) with ⟨e, hn⟩ | ⟨e, hc⟩
      · rw [e]; exact .inl ⟨rfl, hn⟩
      · rw [e]
        simp only [Option.bind_some]
        rcases vat_cases h hq hc with ⟨hi, e'⟩ | ⟨hi, e'⟩ | ⟨ho, e'⟩
        · rw [e']
          refine .inl ⟨rfl, ?_⟩
          cases hn : l.neg with
          | true => rfl
          | false =>
            rw [integer2, plain2, ends_no h hs (hnd hn)] at hi
            simp at hi
        · rw [e']
          refine .inl ⟨rfl, ?_⟩
          cases hn : l.neg with
          | true => rfl
          | false =>
            rw [none2, plain2, ends_no h hs (hnd hn)] at hi
            simp at hi
        · have hF := (obj_f h ho).slots s hs
          have hr := slot_in h hs
          rw [e']
          simp only [stepV]
          by_cases hcond : (decide (0 ≤ s) && decide (s < W.owner.length) && (ownerN W s == 0 || (objAt W (stage2 ls) l.f.arg q).1.testBit (ownerN W s))) = true
          · rw [if_pos hcond, if_pos (List.contains_iff_mem.2 hs)]
            simp only [Bool.and_eq_true, decide_eq_true_eq, Bool.or_eq_true, beq_iff_eq] at hcond
            refine .inr ⟨rfl, hF.2 ?_⟩
            rcases hcond.2 with e0 | e0
            · exact absurd e0 (own_ne h hr)
            · exact e0
          · rw [if_neg hcond]
            refine .inl ⟨rfl, ?_⟩
            cases hn : l.neg with
            | true => rfl
            | false =>
              exfalso; apply hcond
              rw [decide_eq_true hr.1, decide_eq_true hr.2, hF.1 (hnd hn)]; simp
theorem mk_lits (ht : together2 W ls = true) : ∀ l ∈ ls, litV (mkV W (stage2 ls)) l = true := by
  intro l hl
  have hok := h.ok l hl
  have hhit : hitL l.f.arg l.f.path l = true := by simp [hitL]
  rw [litV, evL, mkV, if_pos hok.arg]
  rcases lit_way h hl ht _ l.f.path rfl (List.prefix_refl _) with ⟨e, hn⟩ | ⟨e, hc⟩
  · rw [e, hn]; rfl
  · rw [e]
    simp only []
    have hcl := hok.cls
    have hmu : l.f.op = 2 → l.neg = false → (stage2 ls l.f.arg l.f.path).must.testBit l.f.cls.toNat = true := fun h2 hn => by
      rw [h.must]; exact List.any_eq_true.2 ⟨l, hl, by rw [isL, hhit, h2, hn]; simp⟩
    have hno : l.f.op = 2 → l.neg = true → (stage2 ls l.f.arg l.f.path).no.testBit l.f.cls.toNat = true := fun h2 hn => by
      rw [h.no]; exact List.any_eq_true.2 ⟨l, hl, by rw [isL, hhit, h2, hn]; simp⟩
    have hwh : l.f.op ≠ 2 → l.neg = false → (stage2 ls l.f.arg l.f.path).whole = true := fun h2 hn => by
      rw [h.whole]; exact List.any_eq_true.2 ⟨l, hl, by rw [wholeL, hhit, hn]; simpa using h2⟩
    rcases vat_cases h hok.path hc with ⟨hi, e'⟩ | ⟨hi, e'⟩ | ⟨ho, e'⟩
    · rw [e']; unfold valL
      rw [integer2, Bool.and_eq_true, decide_eq_true_eq, plain_iff h] at hi
      by_cases h2 : l.f.op = 2
      · rw [if_pos h2, isC]
        cases hn : l.neg with
        | false =>
          have := hi.2.1 _ (hmu h2 hn)
          rcases this with e0 | e0
          · rw [e0]; rfl
          · rw [e0]; rfl
        | true =>
          have h1 := hno h2 hn
          have : ¬ (l.f.cls.toNat = 0 ∨ l.f.cls.toNat = (1 : Int).toNat) := fun hh => by rw [hi.2.2.1 _ hh] at h1; cases h1
          have e0 : (l.f.cls.toNat == 0 || l.f.cls.toNat == 1) = false := by
            rw [Bool.or_eq_false_iff, beq_eq_false_iff_ne, beq_eq_false_iff_ne]; exact not_or.1 this
          rw [e0]; rfl
      · rw [if_neg h2]
        simp only []
        have hk := freeK_spec (stage2 ls l.f.arg l.f.path).nots (stage2 ls l.f.arg l.f.path).low
        have ht' := h.tri l.f.arg l.f.path
        have hf := (num_fold (freeK (stage2 ls l.f.arg l.f.path).nots (stage2 ls l.f.arg l.f.path).low) (ls.filter (hitL l.f.arg l.f.path)) rs0 (fun l hm => (h.ok l (List.mem_filter.1 hm).1).op)).1 (by rw [← ht']; exact ⟨hk.2.1, hi.1, hk.1⟩)
        have := hf.2 l (List.mem_filter.2 ⟨hl, hhit⟩)
        rw [numOk, show (l.f.op == 2) = false from by simpa using h2, Bool.false_or] at this
        exact this
    · rw [e']; unfold valL
      rw [none2, Bool.and_eq_true, Bool.not_eq_true', plain_iff h] at hi
      by_cases h2 : l.f.op = 2
      · rw [if_pos h2, isC]
        cases hn : l.neg with
        | false =>
          have := hi.2.1 _ (hmu h2 hn)
          rcases this with e0 | e0
          · rw [e0]; rfl
          · rw [e0]; rfl
        | true =>
          have h1 := hno h2 hn
          have : ¬ (l.f.cls.toNat = 0 ∨ l.f.cls.toNat = (2 : Int).toNat) := fun hh => by rw [hi.2.2.1 _ hh] at h1; cases h1
          have e0 : (l.f.cls.toNat == 0 || l.f.cls.toNat == 2) = false := by
            rw [Bool.or_eq_false_iff, beq_eq_false_iff_ne, beq_eq_false_iff_ne]; exact not_or.1 this
          rw [e0]; rfl
      · rw [if_neg h2]
        cases hn : l.neg with
        | false => rw [hwh h2 hn] at hi; cases hi.1
        | true => rfl
    · rw [e']; unfold valL
      have hF := obj_f h ho
      by_cases h2 : l.f.op = 2
      · rw [if_pos h2, isC]
        cases hn : l.neg with
        | false =>
          by_cases h0 : l.f.cls.toNat = 0
          · rw [h0]; rfl
          · rw [hF.must _ (hmu h2 hn) h0]; simp
        | true =>
          have h1 := hno h2 hn
          have h0 : l.f.cls.toNat ≠ 0 := fun e0 => by rw [e0, hF.n0] at h1; cases h1
          rw [hF.no _ h1, show (l.f.cls.toNat == 0) = false from by simpa using h0]; rfl
      · rw [if_neg h2]
        cases hn : l.neg with
        | false => have := hwh h2 hn; rw [hF.whole] at this; cases this
        | true => rfl
theorem together_sem : together2 W ls = true ↔ ∃ V, VOk W V ∧ ∀ l ∈ ls, litV V l = true :=
  ⟨fun ht => ⟨_, mk_ok h ht, mk_lits h ht⟩, fun ⟨_, hV, hl⟩ => sem_together h hV hl⟩
end
/-- a fact can be so just if it is so in some model -/
theorem can_sem {W : FW} (hW : worldP W = true) {f : Fact} (hf : wfB W f = true) : canC W f = true ↔ ∃ V, VOk W V ∧ ev V f = true := by
  rw [canC, List.any_eq_true]
  constructor
  · rintro ⟨c, hc, ht⟩
    obtain ⟨V, hV, hl⟩ := (together_sem (case_ls hW hf hc)).1 ht
    refine ⟨V, hV, ?_⟩
    have := cases_ev V f (wf_ok f hf) false
    rw [Bool.bne_false] at this
    rw [← this]
    exact List.any_eq_true.2 ⟨c, hc, List.all_eq_true.2 hl⟩
  · rintro ⟨V, hV, he⟩
    have := cases_ev V f (wf_ok f hf) false
    rw [Bool.bne_false, he] at this
    obtain ⟨c, hc, hl⟩ := List.any_eq_true.1 this
    exact ⟨c, hc, sem_together (case_ls hW hf hc) hV (List.all_eq_true.1 hl)⟩
end Go.Proofs.YtiljpbljebfhnaaGreat

set_option linter.unusedVariables false
set_option linter.unusedSimpArgs false
set_option maxRecDepth 10000
namespace Go.Proofs.YtiljpbljebfhnaaGreat
open Go.Eng
open Go.Eng.Fc
theorem code0 {b : Bool} : ((if b = true then (0 : Int) else 2) != 0) = !b := by cases b <;> rfl
section
variable {W : FW} {a b c : Fact} (ha : goodP W [a] = true) (hb : goodP W [b] = true) (hc : goodP W [c] = true)
include ha hb
include hc
end
end Go.Proofs.YtiljpbljebfhnaaGreat

set_option linter.unusedVariables false
set_option linter.unusedSimpArgs false
set_option maxRecDepth 10000
namespace Go.Proofs.YtiljpbljebfhnaaGreat
open Go.Eng
open Go.Eng.Fc
theorem o31 (l : List (List Int)) (hl : l.length ≤ 1000000) : OCall Tryz.prog 31 [AV.intss l] 23 1 (AV.intss l) := by
  intro H
  refine ACall.mk' (n := 8) Tryz.func31 rfl (by kernel_rfl) rfl rfl (fun B I w0 => ?_)
  refine S2 ?_; refine Oas ?_; refine S5 ?_; refine Omv ?_
  refine OL.isNilC rfl rfl rfl rfl rfl rfl rfl (AVle.refl _) rfl rfl (fun n4 hn4 => ?_)
  refine S2 ?_
  refine CW.cond rfl (fun h0 => ?_) (fun h0 => ?_)
  ·
    replace h0 := nm h0
    refine S2 ?_; refine Oas ?_; refine S4 ?_
    refine Done.ownNil 2 23 1 rfl ?_
    refine r1 2 (_) ?_
    exact ⟨_, congrArg (fun x => AV.as x _) (show AV.sl 1 [] = AV.sl 1 _ by rw [hn4 h0]), rfl⟩
  ·
    replace h0 := nm h0
    refine S4 ?_
    refine OL.row0Own rfl rfl rfl rfl (fun v5 => ?_)
    refine Omv ?_
    refine OL.appendC rfl rfl rfl rfl rfl rfl rfl rfl (AVle.refl _) (one_map (fun _ => rfl) l) (fun v => by repeat (first | exact Upd.head _ _ _ | apply Upd.tail)) (by simp; omega) (by simp; omega) (fun v7 => ?_)
    refine Oas ?_; refine S3 ?_
    refine r1 2 (_) ?_
    exact ⟨_, rfl, rfl⟩
theorem o32 (l : List Int) (hl : l.length ≤ 1000000) : OCall Tryz.prog 32 [AV.ints l] 3 1 (AV.ints l) := by
  intro H
  refine ACall.mk' (n := 8) Tryz.func32 rfl (by kernel_rfl) rfl rfl (fun B I w0 => ?_)
  refine S2 ?_; refine Oas ?_; refine S5 ?_; refine Omv ?_
  refine OL.isNilC rfl rfl rfl rfl rfl rfl rfl (AVle.refl _) rfl rfl (fun n4 hn4 => ?_)
  refine S2 ?_
  refine CW.cond rfl (fun h0 => ?_) (fun h0 => ?_)
  ·
    replace h0 := nm h0
    refine S2 ?_; refine Oas ?_; refine S4 ?_
    refine Done.ownNil 2 3 1 rfl ?_
    refine r1 2 (_) ?_
    exact ⟨_, congrArg (fun x => AV.as x _) (show AV.sl 1 [] = AV.sl 1 _ by rw [hn4 h0]), rfl⟩
  ·
    replace h0 := nm h0
    refine S4 ?_
    refine OL.row0Own rfl rfl rfl rfl (fun v5 => ?_)
    refine Omv ?_
    refine OL.appendC rfl rfl rfl rfl rfl rfl rfl rfl (AVle.refl _) (one_map (fun _ => rfl) l) (fun v => by repeat (first | exact Upd.head _ _ _ | apply Upd.tail)) (by simp; omega) (by simp; omega) (fun v7 => ?_)
    refine Oas ?_; refine S3 ?_
    refine r1 2 (_) ?_
    exact ⟨_, rfl, rfl⟩
abbrev U8 := Fin 256
abbrev AV.u8 (x : U8) : AV := .val (.int .u8 (x.val : Int))
abbrev AV.u8s (l : List U8) : AV := .sl 1 (l.map fun x => [AV.u8 x])
abbrev AV.u8ss (l : List (List U8)) : AV := .sl 1 (l.map fun x => [AV.u8s x])
def clsOf (p : U8) (n : Nat) : Int := 3 + (p.val : Int).tmod n
def ownStep (n : Nat) (own : List Int) (p : U8) : List Int := if (decide ((n : Int) > 0) && !own.contains (clsOf p n)) = true then own ++ [clsOf p n] else own
def addCls (ps : List (List Int)) (l : List U8) : List (List Int) := if (ps.length : Int) < 60 then ps ++ [(l.take 3).foldl (ownStep ps.length) []] else ps
def addSl (n : Nat) (os : List Int) (p : U8) : List Int := if (decide ((n : Int) > 0) && decide ((os.length : Int) < 40)) = true then os ++ [clsOf p n] else os
def bigP (W : FW) (pl : List (List U8)) : List (List Int) := (pl.take 10).foldl addCls W.parents
def bigW (W : FW) (pl : List (List U8)) (ol : List U8) : FW := ⟨bigP W pl, (ol.take 10).foldl (addSl (bigP W pl).length) W.owner⟩
theorem tm_b (p : U8) (n : Nat) : 0 ≤ (p.val : Int).tmod n ∧ (p.val : Int).tmod n ≤ 255 := by
  have := p.isLt
  rw [Int.tmod_eq_emod_of_nonneg (by omega)]
  rcases Nat.eq_zero_or_pos n with rfl | hn
  · simp; omega
  · have h1 := Int.emod_nonneg (p.val : Int) (b := (n : Int)) (by omega)
    have h2 : (p.val : Int) % (n : Int) ≤ p.val := by exact_mod_cast Nat.mod_le p.val n
    omega
theorem own_len (n : Nat) : ∀ (l : List U8) (own : List Int), (l.foldl (ownStep n) own).length ≤ own.length + l.length
  | [], own => by simp
  | p :: r, own => by
    rw [List.foldl_cons]
    have := own_len n r (ownStep n own p)
    have h2 : (ownStep n own p).length ≤ own.length + 1 := by unfold ownStep; split <;> simp
    rw [List.length_cons]; omega
theorem cls_len : ∀ (l : List (List U8)) (ps : List (List Int)), (l.foldl addCls ps).length ≤ ps.length + l.length
  | [], ps => by simp
  | p :: r, ps => by
    rw [List.foldl_cons]
    have := cls_len r (addCls ps p)
    have h2 : (addCls ps p).length ≤ ps.length + 1 := by unfold addCls; split <;> simp
    rw [List.length_cons]; omega
theorem sl_len (n : Nat) : ∀ (l : List U8) (os : List Int), (l.foldl (addSl n) os).length ≤ os.length + l.length
  | [], os => by simp
  | p :: r, os => by
    rw [List.foldl_cons]
    have := sl_len n r (addSl n os p)
    have h2 : (addSl n os p).length ≤ os.length + 1 := by unfold addSl; split <;> simp
    rw [List.length_cons]; omega
theorem fold_take {α β : Type} [Inhabited α] (f : β → α → β) (b : β) {l : List α} {i : Nat} (h : i < l.length) : (l.take (i + 1)).foldl f b = f ((l.take i).foldl f b) (l.getD i default) := by
  rw [← take_getD h, List.foldl_append]; rfl
/-! ### a bigger world -/
structure BigW (W W' : FW) : Prop where
  ok : worldP W = true
  ok' : worldP W' = true
  par : W.parents <+: W'.parents
  own : W.owner <+: W'.owner
theorem BigW.np {W W' : FW} (h : BigW W W') : W.parents.length ≤ W'.parents.length := h.par.length_le
theorem BigW.no {W W' : FW} (h : BigW W W') : W.owner.length ≤ W'.owner.length := h.own.length_le
theorem BigW.par_at {W W' : FW} (h : BigW W W') {i : Nat} (hi : i < W.parents.length) : W'.parents.getD i default = W.parents.getD i default := by
  obtain ⟨t, ht⟩ := h.par
  rw [← ht, List.getD_eq_getElem?_getD, List.getElem?_append_left hi, List.getD_eq_getElem?_getD]
theorem BigW.own_at {W W' : FW} (h : BigW W W') {s : Int} (hs : 0 ≤ s ∧ s < W.owner.length) : ownerN W' s = ownerN W s := by
  obtain ⟨t, ht⟩ := h.own
  rw [ownerN, ownerN, ← ht, List.getD_eq_getElem?_getD, List.getElem?_append_left (by omega), List.getD_eq_getElem?_getD]
theorem BigW.up {W W' : FW} (h : BigW W W') : ∀ (n c : Nat), c ≤ n → c < 3 + W.parents.length → ∀ b, upB W' c b = upB W c b := by
  intro n
  induction n with
  | zero => intro c hn hc b; rw [upB_low (by omega), upB_low (by omega)]
  | succ n ih =>
    intro c hn hc b
    by_cases h3 : c < 3
    · rw [upB_low h3, upB_low h3]
    · obtain ⟨i, rfl⟩ : ∃ i, c = 3 + i := ⟨c - 3, by omega⟩
      have hnp := h.np
      rw [upB_own h.ok' (by omega), upB_own h.ok (by omega), h.par_at (by omega)]
      congr 1
      refine any_congr_mem fun p hp => ?_
      have h2 := parents_lt i _ _ (by have := parentss_at W.parents 0 i (by have := h.ok; simp only [worldP, Bool.and_eq_true] at this; exact this.1.2) (by omega); simpa using this) p hp
      exact ih p.toNat (by omega) (by omega) b
theorem BigW.node {W W' : FW} (h : BigW W W') {f : Fact} (hf : nodeOkB W f = true) : nodeOkB W' f = true := by
  have hnp := h.np
  have hno := h.no
  simp only [nodeOkB, Bool.and_eq_true] at hf ⊢
  refine ⟨hf.1, ?_⟩
  have h2 := hf.2
  by_cases hl : leafP f = true
  · rw [if_pos hl] at h2 ⊢
    simp only [Bool.and_eq_true, argP, leafOkP, pathP, Bool.not_eq_true', Bool.or_eq_false_iff, decide_eq_false_iff_not, Bool.not_eq_false', List.all_eq_true, decide_eq_true_eq, slotP] at h2 ⊢
    refine ⟨⟨h2.1.1, h2.1.2.1, fun s hs => ?_⟩, ?_⟩
    · have := h2.1.2.2 s hs; omega
    · have h3 := h2.2
      by_cases ho : f.op = 2
      · rw [if_pos ho] at h3 ⊢
        simp only [Bool.and_eq_true, classP, decide_eq_true_eq] at h3 ⊢
        exact ⟨h3.1, h3.2.1, by omega⟩
      · rw [if_neg ho] at h3 ⊢; exact h3
  · rw [if_neg hl] at h2 ⊢; exact h2
theorem BigW.wf {W W' : FW} (h : BigW W W') : ∀ f : Fact, wfB W f = true → wfB W' f = true := by
  refine Fact.ind1 fun f ih hf => ?_
  rw [wfB_iff] at hf ⊢
  exact ⟨h.node hf.1, fun k hk => ih k hk (hf.2 k hk)⟩
theorem BigW.good {W W' : FW} (h : BigW W W') {l : List Fact} (hl : goodP W l = true) : goodP W' l = true := by
  simp only [goodP, Bool.and_eq_true, List.all_eq_true] at hl ⊢
  refine ⟨h.ok', fun f hf => ?_⟩
  have := hl.2 f hf
  rw [← formed_eq, Bool.and_eq_true] at this ⊢
  exact ⟨this.1, h.wf f this.2⟩
/-- a model of the bigger world, seen from the lesser one -/
def cutVal (n : Nat) : Val → Val
  | .obj S => .obj fun c => S c && decide (c < n)
  | v => v
def cutV (n : Nat) (V : VM) : VM := fun a p => (V a p).map (cutVal n)
theorem cut_isC {n c : Nat} (hc : c < n) (v : Val) : isC (cutVal n v) c = isC v c := by
  cases v with
  | int m => rfl
  | non => rfl
  | obj S => simp [isC, cutVal, hc]
theorem cut_valL {W : FW} {f : Fact} (hf : nodeOkB W f = true) (hl : leafP f = true) (v : Val) : valL f (cutVal (3 + W.parents.length) v) = valL f v := by
  by_cases h2 : f.op = 2
  · rw [valL_is h2, valL_is h2]
    refine cut_isC ?_ v
    simp only [nodeOkB, Bool.and_eq_true] at hf
    have h3 := hf.2
    rw [if_pos hl, Bool.and_eq_true, leafOkP, if_pos h2] at h3
    simp only [Bool.and_eq_true, classP, decide_eq_true_eq] at h3
    omega
  · rw [valL_no h2, valL_no h2]
    cases v <;> rfl
theorem ev_congr {W : FW} {V V' : VM} (h : ∀ f, nodeOkB W f = true → leafP f = true → evL V' f = evL V f) : ∀ f : Fact, wfB W f = true → ev V' f = ev V f := by
  refine Fact.ind1 fun f ih hf => ?_
  have hk := (wfB_iff.1 hf).2
  have hn := (wfB_iff.1 hf).1
  have hok := wf_ok f hf
  by_cases hl : leafP f = true
  · rw [ev_leaf hl, ev_leaf hl, h f hn hl]
  by_cases h1 : f.op = 1
  · rw [ev_true h1, ev_true h1]
  by_cases h5 : f.op = 5
  · have := kids_one hok h5
    rw [ev_not h5 (by omega), ev_not h5 (by omega), ih _ (getD_mem (by omega)) (hk _ (getD_mem (by omega)))]
  have hlf' : leafP f = false := by simpa using hl
  have h2 := kids_two hok h1 h5 hlf'
  have h67 : f.op = 6 ∨ f.op = 7 := by
    simp only [nodeOkB, Bool.and_eq_true, decide_eq_true_eq] at hn
    simp only [leafP, Bool.and_eq_false_iff, decide_eq_false_iff_not] at hlf'
    omega
  have e0 := ih _ (getD_mem (l := f.kids) (k := 0) (by omega)) (hk _ (getD_mem (by omega)))
  have e1 := ih _ (getD_mem (l := f.kids) (k := 1) (by omega)) (hk _ (getD_mem (by omega)))
  rcases h67 with e | e
  · rw [ev_and e (by omega), ev_and e (by omega), e0, e1]
  · rw [ev_or e (by omega), ev_or e (by omega), e0, e1]
theorem BigW.cut_ok {W W' : FW} (h : BigW W W') {V : VM} (hV : VOk W' V) : VOk W (cutV (3 + W.parents.length) V) := by
  have hnp := h.np
  have hno := h.no
  refine ⟨fun a h0 h3 => by rw [cutV, Option.isSome_map]; exact hV.root a h0 h3, fun a p n hv => ?_, fun a p S hv => ?_, fun a p s h0 h1 => ?_⟩
  · obtain ⟨v, h1, h2⟩ := Option.map_eq_some_iff.1 hv
    cases v with
    | int m => cases h2; exact hV.int a p _ h1
    | non => cases h2
    | obj S => cases h2
  · obtain ⟨v, h1, h2⟩ := Option.map_eq_some_iff.1 hv
    cases v with
    | int m => cases h2
    | non => cases h2
    | obj S' =>
      cases h2
      obtain ⟨a1, a2, a3, a4⟩ := hV.obj a p S' h1
      refine ⟨by simp [a1]; omega, by simp [a2], by simp [a3], fun c hc hS b hub => ?_⟩
      simp only [Bool.and_eq_true, decide_eq_true_eq] at hS ⊢
      have hb := upB_le h.ok c c (Nat.le_refl _) hc b hub
      refine ⟨a4 c (by omega) hS.1 b ?_, by omega⟩
      rw [h.up c c (Nat.le_refl _) hc]; exact hub
  · rw [cutV, cutV, Option.isSome_map, hV.step a p s h0 (by omega)]
    have ho := owner_rng h.ok ⟨h0, h1⟩
    rw [h.own_at ⟨h0, h1⟩]
    constructor
    · rintro ⟨S, hS, hSo⟩
      refine ⟨_, by rw [hS]; rfl, ?_⟩
      simp only [Bool.and_eq_true, decide_eq_true_eq]
      exact ⟨hSo, by rw [ownerN]; omega⟩
    · rintro ⟨S, hS, hSo⟩
      obtain ⟨v, h2, h3⟩ := Option.map_eq_some_iff.1 hS
      cases v with
      | int m => cases h3
      | non => cases h3
      | obj S' =>
        cases h3
        simp only [Bool.and_eq_true] at hSo
        exact ⟨S', h2, hSo.1⟩
/-- a model of the lesser world, in the bigger one: at what is new stands none -/
def extStep (W W' : FW) (V : VM) (a : Int) (p : List Int) (cur : Option Val) (s : Int) : Option Val :=
  if 0 ≤ s ∧ s < W.owner.length then V a (p ++ [s])
  else if 0 ≤ s ∧ s < W'.owner.length then (match cur with | some (.obj S) => if S (ownerN W' s) = true then some .non else none | _ => none) else none
def oldB (W : FW) (p : List Int) : Bool := p.all fun s => decide (0 ≤ s) && decide (s < W.owner.length)
def extV (W W' : FW) (V : VM) : VM := fun a p =>
  if oldB W p = true then V a p
  else match p.getLast? with
    | none => none
    | some s => if oldB W p.dropLast = true ∧ 0 ≤ s ∧ s < W'.owner.length then (match V a p.dropLast with | some (.obj S) => if (S (ownerN W' s) && decide (ownerN W' s < 3 + W.parents.length)) = true then some .non else none | _ => none) else none
theorem cut_old {W W' : FW} (h : BigW W W') {V : VM} (hV : VOk W V) : VOk W (cutV (3 + W.parents.length) V) := BigW.cut_ok ⟨h.ok, h.ok, List.prefix_refl _, List.prefix_refl _⟩ hV
theorem ext_ok {W W' : FW} (h : BigW W W') {V : VM} (hV : VOk W V) (hcut : ∀ a p S, V a p = some (.obj S) → ∀ c, S c = true → c < 3 + W.parents.length) : VOk W' (extV W W' V) := by
  have hnp := h.np
  have hno := h.no
  have old : ∀ a p, oldB W p = true → extV W W' V a p = V a p := fun a p hp => by rw [extV, if_pos hp]
  have new : ∀ a p v, oldB W p = false → extV W W' V a p = some v → v = .non := fun a p v hp hv => by
    rw [extV, if_neg (by rw [hp]; simp)] at hv
    split at hv
    · cases hv
    · split at hv
      · split at hv
        · split at hv
          · exact (Option.some.inj hv).symm
          · cases hv
        · cases hv
      · cases hv
  refine ⟨fun a h0 h3 => by rw [old a [] rfl]; exact hV.root a h0 h3, fun a p n hv => ?_, fun a p S hv => ?_, fun a p s h0 h1 => ?_⟩
  · cases ho : oldB W p with
    | true => rw [old a p ho] at hv; exact hV.int a p n hv
    | false => cases new a p _ ho hv
  · cases ho : oldB W p with
    | true =>
      rw [old a p ho] at hv
      obtain ⟨a1, a2, a3, a4⟩ := hV.obj a p S hv
      refine ⟨a1, a2, a3, fun c hc hS b hub => ?_⟩
      have hcl := hcut a p S hv c hS
      rw [h.up c c (Nat.le_refl _) hcl] at hub
      exact a4 c hcl hS b hub
    | false => cases new a p _ ho hv
  · cases ho : oldB W p with
    | true =>
      rw [old a p ho]
      by_cases hs : s < W.owner.length
      · rw [old a (p ++ [s]) (by rw [oldB, List.all_append, ← oldB, ho]; simp [h0, hs]), hV.step a p s h0 hs, h.own_at ⟨h0, hs⟩]
      · have hn : oldB W (p ++ [s]) = false := by rw [oldB, List.all_append, ← oldB, ho]; simp; omega
        rw [extV, if_neg (by rw [hn]; simp), List.getLast?_concat, List.dropLast_concat]
        simp only []
        rw [if_pos ⟨ho, h0, h1⟩]
        cases hv : V a p with
        | none => simp
        | some v =>
          cases v with
          | int m => simp
          | non => simp
          | obj S =>
            simp only []
            constructor
            · intro hh
              split at hh
              · rename_i hc
                rw [Bool.and_eq_true] at hc
                exact ⟨S, rfl, hc.1⟩
              · cases hh
            · rintro ⟨S', e, hS⟩
              cases e
              rw [if_pos (by rw [hS, decide_eq_true (hcut a p S hv _ hS)]; rfl)]; rfl
    | false =>
      have hn : oldB W (p ++ [s]) = false := by rw [oldB, List.all_append, ← oldB, ho]; rfl
      have e1 : extV W W' V a (p ++ [s]) = none := by
        rw [extV, if_neg (by rw [hn]; simp), List.getLast?_concat, List.dropLast_concat]
        simp only []
        rw [if_neg (by rw [ho]; simp)]
      rw [e1]
      constructor
      · intro hh; cases hh
      · rintro ⟨S, hS, _⟩
        cases new a p _ ho hS
theorem leaf_old {W : FW} {f : Fact} (hf : nodeOkB W f = true) (hl : leafP f = true) : oldB W f.path = true := by
  simp only [nodeOkB, Bool.and_eq_true] at hf
  have h3 := hf.2
  rw [if_pos hl] at h3
  simp only [Bool.and_eq_true, argP, pathP, Bool.not_eq_true', Bool.or_eq_false_iff, Bool.not_eq_false'] at h3
  exact h3.1.2.2
theorem BigW.can {W W' : FW} (h : BigW W W') {f : Fact} (hf : wfB W f = true) : canC W' f = canC W f := by
  rw [Bool.eq_iff_iff, can_sem h.ok' (h.wf f hf), can_sem h.ok hf]
  constructor
  · rintro ⟨V, hV, he⟩
    refine ⟨_, h.cut_ok hV, ?_⟩
    rw [← he]
    refine ev_congr (W := W) (fun f hf hl => ?_) f hf
    rw [evL, evL, cutV]
    cases V f.arg f.path with
    | none => rfl
    | some v => exact cut_valL hf hl v
  · rintro ⟨V, hV, he⟩
    have h1 := cut_old h hV
    refine ⟨_, ext_ok h h1 (fun a p S hS c hc => ?_), ?_⟩
    · obtain ⟨v, e1, e2⟩ := Option.map_eq_some_iff.1 hS
      cases v with
      | int m => cases e2
      | non => cases e2
      | obj S' =>
        cases e2
        simp only [Bool.and_eq_true, decide_eq_true_eq] at hc
        exact hc.2
    · rw [← he]
      refine ev_congr (W := W) (fun f hf hl => ?_) f hf
      rw [evL, evL, extV, if_pos (leaf_old hf hl), cutV]
      cases V f.arg f.path with
      | none => rfl
      | some v => exact cut_valL hf hl v
theorem BigW.imp {W W' : FW} (h : BigW W W') {a b : Fact} (ha : wfB W a = true) (hb : wfB W b = true) : impC W' a b = impC W a b := by
  rw [impC, impC, h.can (wf_and ha (wf_not hb))]
end Go.Proofs.YtiljpbljebfhnaaGreat

set_option linter.unusedVariables false
set_option linter.unusedSimpArgs false
set_option maxRecDepth 10000
namespace Go.Proofs.YtiljpbljebfhnaaGreat
open Go.Eng
open Go.Eng.Fc
theorem parents_snoc {i : Nat} {x : Int} : ∀ (l seen : List Int), parentsP i seen (l ++ [x]) = (parentsP i seen l && !(decide (x < 3) || decide (x ≥ 3 + i) || (seen ++ l).contains x))
  | [], seen => by simp [parentsP]
  | p :: r, seen => by
    rw [List.cons_append, parentsP, parentsP, parents_snoc r, List.append_assoc, Bool.and_assoc]; rfl
theorem parentss_snoc {x : List Int} : ∀ (l : List (List Int)) (i : Nat), parentssP i (l ++ [x]) = (parentssP i l && parentsP (i + l.length) [] x)
  | [], i => by simp [parentssP]
  | p :: r, i => by
    rw [List.cons_append, parentssP, parentssP, parentss_snoc r, Bool.and_assoc, List.length_cons, show i + 1 + r.length = i + (r.length + 1) by omega]
theorem tm_lt (p : U8) {n : Nat} (hn : 0 < n) : (p.val : Int).tmod n < n := by
  rw [Int.tmod_eq_emod_of_nonneg (by omega)]
  exact Int.emod_lt_of_pos _ (by omega)
theorem ownStep_ok {n : Nat} {own : List Int} (h : parentsP n [] own = true) (p : U8) : parentsP n [] (ownStep n own p) = true := by
  unfold ownStep
  split
  · rename_i hc
    rw [Bool.and_eq_true, decide_eq_true_eq, Bool.not_eq_true'] at hc
    have h1 := tm_b p n
    have h2 := tm_lt p (n := n) (by omega)
    rw [parents_snoc, h, List.nil_append, hc.2, clsOf]
    simp; omega
  · exact h
theorem owns_ok {n : Nat} : ∀ (l : List U8) (own : List Int), parentsP n [] own = true → parentsP n [] (l.foldl (ownStep n) own) = true
  | [], own, h => h
  | p :: r, own, h => owns_ok r _ (ownStep_ok h p)
theorem cls_ok : ∀ (l : List (List U8)) (ps : List (List Int)), parentssP 0 ps = true → ps.length ≤ 60 → parentssP 0 (l.foldl addCls ps) = true ∧ (l.foldl addCls ps).length ≤ 60 ∧ ps <+: l.foldl addCls ps
  | [], ps, h, hl => ⟨h, hl, List.prefix_refl _⟩
  | p :: r, ps, h, hl => by
    rw [List.foldl_cons]
    have key : parentssP 0 (addCls ps p) = true ∧ (addCls ps p).length ≤ 60 ∧ ps <+: addCls ps p := by
      unfold addCls
      split
      · refine ⟨?_, by simp; omega, List.prefix_append _ _⟩
        rw [parentss_snoc, h, Nat.zero_add, owns_ok _ _ rfl]; rfl
      · exact ⟨h, hl, List.prefix_refl _⟩
    obtain ⟨a1, a2, a3⟩ := cls_ok r _ key.1 key.2.1
    exact ⟨a1, a2, key.2.2.trans a3⟩
theorem sl_ok {n : Nat} : ∀ (l : List U8) (os : List Int), (∀ c ∈ os, 3 ≤ c ∧ c < 3 + n) → os.length ≤ 40 → (∀ c ∈ l.foldl (addSl n) os, 3 ≤ c ∧ c < 3 + n) ∧ (l.foldl (addSl n) os).length ≤ 40 ∧ os <+: l.foldl (addSl n) os
  | [], os, h, hl => ⟨h, hl, List.prefix_refl _⟩
  | p :: r, os, h, hl => by
    rw [List.foldl_cons]
    have key : (∀ c ∈ addSl n os p, 3 ≤ c ∧ c < 3 + n) ∧ (addSl n os p).length ≤ 40 ∧ os <+: addSl n os p := by
      unfold addSl
      split
      · rename_i hc
        rw [Bool.and_eq_true, decide_eq_true_eq, decide_eq_true_eq] at hc
        refine ⟨fun c hm => ?_, by simp; omega, List.prefix_append _ _⟩
        rcases List.mem_append.1 hm with hm | hm
        · exact h c hm
        · have h1 := tm_b p n
          have h2 := tm_lt p (n := n) (by omega)
          rw [List.mem_singleton] at hm
          rw [hm, clsOf]; omega
      · exact ⟨h, hl, List.prefix_refl _⟩
    obtain ⟨a1, a2, a3⟩ := sl_ok r _ key.1 key.2.1
    exact ⟨a1, a2, key.2.2.trans a3⟩
theorem world_lens {W : FW} (h : worldP W = true) : W.parents.length ≤ 60 ∧ W.owner.length ≤ 40 := by
  simp only [worldP, Bool.and_eq_true, decide_eq_true_eq] at h; exact h.1.1
theorem big_ok {W : FW} (h : worldP W = true) (pl : List (List U8)) (ol : List U8) : BigW W (bigW W pl ol) := by
  have hl := world_lens h
  have h' := h
  simp only [worldP, Bool.and_eq_true, decide_eq_true_eq, List.all_eq_true, ownP] at h'
  obtain ⟨a1, a2, a3⟩ := cls_ok (pl.take 10) W.parents h'.1.2 hl.1
  have hle := a3.length_le
  obtain ⟨b1, b2, b3⟩ := sl_ok (n := (bigP W pl).length) (ol.take 10) W.owner (fun c hc => by have := h'.2 c hc; have e : (bigP W pl).length = ((pl.take 10).foldl addCls W.parents).length := rfl; omega) hl.2
  refine ⟨h, ?_, a3, b3⟩
  simp only [worldP, Bool.and_eq_true, decide_eq_true_eq, List.all_eq_true, ownP]
  exact ⟨⟨⟨a2, b2⟩, a1⟩, b1⟩
theorem good_one {W : FW} {a b : Fact} (h : goodP W [a, b] = true) : goodP W [a] = true := by
  simp only [goodP, List.all_cons, List.all_nil, Bool.and_true, Bool.and_eq_true] at *
  exact ⟨h.1, h.2.1⟩
theorem ints_one (l : List Int) (x : Int) : AV.ints (l ++ [x]) = .sl 1 (l.map (fun n => [AV.i n]) ++ [[AV.i x]]) := congrArg _ List.map_append
theorem p6n (g : Gv) (pl : List (List U8)) (ol : List U8) (h : goodP g.W [g.A, g.B] = false) : PCall Tryz.prog 6 [AV.given g, AV.u8ss pl, AV.u8s ol] (.b true) := by
  intro H
  refine ACall.mk' (n := 181) Tryz.func6 rfl (by kernel_rfl) rfl rfl (fun B I w0 => ?_)
  refine S2 ?_; refine Obx ?_; refine Oas ?_; refine S4 ?_; refine Ofa ?_; refine Ola ?_; refine Ofa ?_; refine Ola ?_; refine Ofa ?_; refine Ola ?_
  refine OL.popC rfl rfl rfl (POp.call (.mk' rfl rfl rfl rfl rfl) (p24n h)) ?_
  refine Omv ?_; refine Oex ?_; refine Oex ?_; refine Oas ?_; refine Oas ?_; refine S5 ?_; refine Omv ?_; refine Ocm ?_; refine S2 ?_
  refine CW.cond rfl (fun h0 => ?_) (fun h0 => ?_)
  ·
    refine S2 ?_
    refine OL.popC rfl rfl rfl (POp.call (.mk' rfl rfl rfl rfl rfl) (p21)) ?_
    refine Oas ?_; refine S4 ?_
    refine r1 6 (H) ?_
    exact ⟨by rfl, rfl⟩
  ·
    cases h0
theorem p6g (g : Gv) (pl : List (List U8)) (ol : List U8) (h : goodP g.W [g.A, g.B] = true) : PCall Tryz.prog 6 [AV.given g, AV.u8ss pl, AV.u8s ol] (.b true) := by
  intro H
  refine ACall.mk' (n := 181) Tryz.func6 rfl (by kernel_rfl) rfl rfl (fun B I w0 => ?_)
  have hw := world_lens (good_w h)
  have hbig := big_ok (good_w h) pl ol
  refine S2 ?_; refine Obx ?_; refine Oas ?_; refine S4 ?_; refine Ofa ?_; refine Ola ?_; refine Ofa ?_; refine Ola ?_; refine Ofa ?_; refine Ola ?_
  refine OL.popC rfl rfl rfl (POp.call (.mk' rfl rfl rfl rfl rfl) (p24c h)) ?_
  refine Omv ?_; refine Oex ?_; refine Oex ?_; refine Oas ?_; refine Oas ?_; refine S5 ?_; refine Omv ?_; refine Ocm ?_; refine S2 ?_
  refine CW.cond rfl (fun h0 => ?_) (fun h0 => ?_)
  ·
    cases h0
  ·
    refine S3 ?_
    refine CW.dp mixed ?_
    refine DP.anyE [.own 3 41 23 1 (AV.intss g.W.parents), .own 7 45 3 1 (AV.ints g.W.owner), .al 9 9 25 [.slice none 0 0, .slice none 0 0]] [⟨8, 46, [41, 45], fun vs => .agg [.as (AV.intss g.W.parents) (vs.getD 0 undef), .as (AV.ints g.W.owner) (vs.getD 1 undef)]⟩] 0 10 181 rfl (by decide +kernel) (by kernel_rfl) rfl rfl (by decide +kernel) ?_
    refine UD.popE ⟨0, 10, by kernel_rfl, rfl⟩ rfl rfl rfl rfl ((by first | exact POp.fa rfl rfl rfl rfl | exact POp.faP rfl rfl rfl rfl)) ?_
    refine UD.popE ⟨0, 10, by kernel_rfl, rfl⟩ rfl rfl rfl rfl ((by first | exact POp.fa rfl rfl rfl rfl | exact POp.faP rfl rfl rfl rfl)) ?_
    refine UD.popE ⟨0, 10, by kernel_rfl, rfl⟩ rfl rfl rfl rfl ((by first | exact POp.ld1 rfl rfl rfl rfl | (apply POp.ld1H rfl rfl rfl; (case hm => repeat (first | exact .head _ | refine .tail _ ?_)); (case hy => rfl)))) ?_
    refine UD.ownE [] [.own 7 45 3 1 (AV.ints g.W.owner), .al 9 9 25 [.slice none 0 0, .slice none 0 0]] rfl ⟨0, 10, by kernel_rfl, rfl⟩ rfl rfl rfl (.mk' rfl rfl rfl rfl rfl) (o31 g.W.parents (by omega)) ?_
    refine UD.popE ⟨0, 10, by kernel_rfl, rfl⟩ rfl rfl rfl rfl ((by first | exact POp.fa rfl rfl rfl rfl | exact POp.faP rfl rfl rfl rfl)) ?_
    refine UD.popE ⟨0, 10, by kernel_rfl, rfl⟩ rfl rfl rfl rfl ((by first | exact POp.fa rfl rfl rfl rfl | exact POp.faP rfl rfl rfl rfl)) ?_
    refine UD.popE ⟨0, 10, by kernel_rfl, rfl⟩ rfl rfl rfl rfl ((by first | exact POp.ld1 rfl rfl rfl rfl | (apply POp.ld1H rfl rfl rfl; (case hm => repeat (first | exact .head _ | refine .tail _ ?_)); (case hy => rfl)))) ?_
    refine UD.ownE [.own 3 41 23 1 (AV.intss g.W.parents)] [.al 9 9 25 [.slice none 0 0, .slice none 0 0]] rfl ⟨0, 10, by kernel_rfl, rfl⟩ rfl rfl rfl (.mk' rfl rfl rfl rfl rfl) (o32 g.W.owner (by omega)) ?_
    refine UD.lateE [] [] ⟨8, 46, [41, 45], fun vs => .agg [.as (AV.intss g.W.parents) (vs.getD 0 undef), .as (AV.ints g.W.owner) (vs.getD 1 undef)]⟩ rfl ⟨0, 10, by kernel_rfl, rfl⟩ rfl rfl rfl rfl (by simp only [List.forall_mem_cons]; exact ⟨⟨_, (.head _), rfl, rfl, _, _, _, rfl⟩, ⟨_, (.tail _ (.head _)), rfl, rfl, _, _, _, rfl⟩, by simp⟩) (fun f => POp.build' rfl rfl (by first | rfl | simp_all [strip]) rfl) ?_
    refine UD.alE [.own 3 41 23 1 (AV.intss g.W.parents), .own 7 45 3 1 (AV.ints g.W.owner)] [] rfl ⟨0, 10, by kernel_rfl, rfl⟩ rfl rfl rfl rfl ?_
    refine UD.nil ⟨by simp only [List.forall_mem_cons]; exact ⟨rfl, rfl, rfl, by simp⟩, fun fv => ?_⟩
    simp only [List.map_cons, List.map_nil, List.cons_append, List.nil_append, ES.d, ES.av, ES.en, List.getD_cons_zero, List.getD_cons_succ]
    generalize fv 41 = v41
    generalize fv 45 = v45
    generalize blkOf (fv 9) = b9
    refine DP.tailC 10 (by decide +kernel) rfl ?_
    refine Sto ?_; refine S5 ?_; refine Omv ?_; refine Omv ?_; refine Oln ?_
    refine OL.popC rfl rfl rfl (POp.min2 (c := ((pl.take 10).length : Int)) rfl rfl rfl rfl rfl (by rw [List.length_take]; split <;> omega)) ?_
    refine OL.popC rfl rfl rfl (POp.slMin 10 rfl rfl rfl rfl rfl) ?_
    refine Oln ?_; refine Omv ?_; refine S3 ?_
    refine lj (fun m st => ∃ (i : Nat) (v1 : Value), st = ⟨[(53, .i i), (52, .i (pl.take 10).length), (51, AV.u8ss (pl.take 10)), (9, .p b9 0), (8, .i 0), (7, .b (impC g.W g.A g.B)), (6, .b false), (2, AV.u8s ol), (3, .ptr (Gcells g))], .own 23 1 v1 :: .own 3 1 v45 :: .blk b9 25 [.as (AV.intss (((pl.take 10).take i).foldl addCls g.W.parents)) v1, .as (AV.ints g.W.owner) v45] :: H⟩ ∧ m = (pl.take 10).length - i ∧ i ≤ (pl.take 10).length) (⟨0, v41, rfl, rfl, by omega⟩) ?_
    rintro m _ ⟨i, v1, rfl, rfl, hi⟩
    refine S2 ?_; refine Ocm ?_; refine S3 ?_
    refine CW.cond rfl (fun h1 => ?_) (fun h1 => ?_)
    ·
      replace h1 := nm h1
      have htl : (pl.take 10).length ≤ 10 := by rw [List.length_take]; omega
      have hx : i < (pl.take 10).length := by omega
      have hps := cls_len ((pl.take 10).take i) g.W.parents
      have hi10 : ((pl.take 10).take i).length ≤ 10 := by rw [List.length_take, List.length_take]; omega
      refine S6 ?_; refine Oix ?_; refine Old ?_; refine Oas ?_; refine S4 ?_; refine Oas ?_; refine S4 ?_
      refine CW.ownNil 12 3 1 rfl ?_
      refine S1 ?_; refine Omv ?_; refine Omv ?_; refine Oln ?_
      refine OL.popC rfl rfl rfl (POp.min2 (c := ((((pl.take 10).getD i default).take 3).length : Int)) rfl rfl rfl rfl rfl (by rw [List.length_take]; split <;> omega)) ?_
      refine OL.popC rfl rfl rfl (POp.slMin 3 rfl rfl rfl rfl rfl) ?_
      refine Oln ?_; refine Omv ?_; refine S3 ?_
      refine lj (fun m st => ∃ (k : Nat) (v3 : Value), st = ⟨[(63, .i k), (62, .i (((pl.take 10).getD i default).take 3).length), (61, AV.u8s (((pl.take 10).getD i default).take 3)), (12, .as (AV.ints (((((pl.take 10).getD i default).take 3).take k).foldl (ownStep (((pl.take 10).take i).foldl addCls g.W.parents).length) [])) v3), (53, .i i), (52, .i (pl.take 10).length), (51, AV.u8ss (pl.take 10)), (9, .p b9 0), (8, .i 0), (7, .b (impC g.W g.A g.B)), (6, .b false), (2, AV.u8s ol), (3, .ptr (Gcells g))], .own 3 1 v3 :: .own 23 1 v1 :: .own 3 1 v45 :: .blk b9 25 [.as (AV.intss (((pl.take 10).take i).foldl addCls g.W.parents)) v1, .as (AV.ints g.W.owner) v45] :: H⟩ ∧ m = (((pl.take 10).getD i default).take 3).length - k ∧ k ≤ (((pl.take 10).getD i default).take 3).length) (⟨0, _, rfl, rfl, by omega⟩) ?_
      rintro m _ ⟨k, v3, rfl, rfl, hk⟩
      refine S2 ?_; refine Ocm ?_; refine S3 ?_
      refine CW.cond rfl (fun h2 => ?_) (fun h2 => ?_)
      ·
        replace h2 := nm h2
        have hkl : k < (((pl.take 10).getD i default).take 3).length := by omega
        have hk3 : (((pl.take 10).getD i default).take 3).length ≤ 3 := by rw [List.length_take]; omega
        have hkt : ((((pl.take 10).getD i default).take 3).take k).length ≤ 3 := by rw [List.length_take, List.length_take]; omega
        have hol := own_len (((pl.take 10).take i).foldl addCls g.W.parents).length ((((pl.take 10).getD i default).take 3).take k) []
        rw [List.length_nil] at hol
        have hp := (((((pl.take 10).getD i default).take 3).getD k default)).isLt
        have htm := tm_b ((((pl.take 10).getD i default).take 3).getD k default) (((pl.take 10).take i).foldl addCls g.W.parents).length
        refine S6 ?_; refine Oix ?_; refine Old ?_; refine Oas ?_; refine S4 ?_; refine Ofa ?_; refine Old ?_; refine Oln ?_; refine Oas ?_; refine S3 ?_
        rw [List.length_map]
        refine S1 ?_; refine Omv ?_; refine Ocm ?_; refine Omv ?_; refine Pmv ?_; refine Pmv ?_
        refine OL.guardC rfl rfl rfl rfl rfl rfl (fun hg => POp.cv rfl rfl (gd hg) (wrap64 (by omega))) ?_
        refine Pmv ?_
        refine OL.guardC rfl rfl rfl rfl rfl rfl (fun hg => POp.div rfl rfl rfl (gd hg) (gd hg) (by simp only [decide_eq_true_eq] at hg; omega) (.inr ⟨rfl, rfl⟩)) ?_
        refine Par ?_
        refine OL.guardC rfl rfl rfl rfl rfl rfl (fun hg => POp.callLe (.mk' rfl rfl rfl rfl (by first | rfl | ((repeat (first | exact hg | rfl | refine Bool.and_eq_true_iff.2 ⟨?_, ?_⟩)); done) | simp_all [strip, constAV])) (.cons (AVle.asL _ _) (.cons (.refl _) .nil)) (p33 _ _)) ?_
        refine Pnt ?_; refine Opk ?_; refine S2 ?_
        refine CW.cond rfl (fun h3 => ?_) (fun h3 => ?_)
        ·
          have hc3 : (decide (((((pl.take 10).take i).foldl addCls g.W.parents).length : Int) > 0) && !(((((pl.take 10).getD i default).take 3).take k).foldl (ownStep (((pl.take 10).take i).foldl addCls g.W.parents).length) []).contains (clsOf ((((pl.take 10).getD i default).take 3).getD k default) (((pl.take 10).take i).foldl addCls g.W.parents).length)) = true := by simpa [clsOf] using h3
          simp only [Bool.and_eq_true, decide_eq_true_eq] at hc3
          have e3 : (((((pl.take 10).getD i default).take 3).take (k + 1)).foldl (ownStep (((pl.take 10).take i).foldl addCls g.W.parents).length) []) = (((((pl.take 10).getD i default).take 3).take k).foldl (ownStep (((pl.take 10).take i).foldl addCls g.W.parents).length) []) ++ [clsOf ((((pl.take 10).getD i default).take 3).getD k default) (((pl.take 10).take i).foldl addCls g.W.parents).length] := by rw [fold_take _ _ hkl, ownStep, if_pos (by simpa [clsOf] using h3)]
          refine S1 ?_; refine Omv ?_; refine Omv ?_
          refine OL.popC rfl rfl rfl (POp.cv rfl rfl rfl (wrap64 (by omega))) ?_
          refine Omv ?_
          refine OL.popC rfl rfl rfl (POp.div rfl rfl rfl rfl rfl (by omega) (.inr ⟨rfl, rfl⟩)) ?_
          refine Oar ?_
          refine OL.popC rfl rfl rfl (POp.row rfl rfl (by first | rfl | simp_all [strip]) rfl rfl rfl rfl rfl rfl) ?_
          refine OL.appendC rfl rfl rfl rfl rfl rfl rfl rfl (AVle.refl _) (rfl) (fun v => by repeat (first | exact Upd.head _ _ _ | apply Upd.tail)) (by simp only [partsOf, List.zip, List.zipWith, List.map, List.length_map, List.length_cons, List.length_nil]; omega) (by simp only [partsOf, List.zip, List.zipWith, List.map, List.length_map, List.length_cons, List.length_nil]; omega) (fun v89 => ?_)
          refine Oas ?_; refine S3 ?_
          refine CW.le 12 (y := .as (AV.ints (((((pl.take 10).getD i default).take 3).take (k + 1)).foldl (ownStep (((pl.take 10).take i).foldl addCls g.W.parents).length) [])) v89) rfl (by rw [e3, ints_one]; exact AVle.refl _) ?_
          refine S1 ?_; refine Oar ?_; refine Omv ?_; refine S1 ?_
          exact ag (⟨k + 1, v89, rfl, rfl, by omega⟩)
        ·
          have e3 : (((((pl.take 10).getD i default).take 3).take (k + 1)).foldl (ownStep (((pl.take 10).take i).foldl addCls g.W.parents).length) []) = (((((pl.take 10).getD i default).take 3).take k).foldl (ownStep (((pl.take 10).take i).foldl addCls g.W.parents).length) []) := by rw [fold_take _ _ hkl, ownStep, if_neg (by simpa [clsOf] using h3)]
          refine S3 ?_
          rw [← e3]
          refine S1 ?_; refine Oar ?_; refine Omv ?_; refine S1 ?_
          exact ag (⟨k + 1, v3, rfl, rfl, by omega⟩)
      ·
        replace h2 := nm h2
        obtain rfl : k = (((pl.take 10).getD i default).take 3).length := by omega
        rw [List.take_length]
        refine S7 ?_; refine Ofa ?_; refine Old ?_; refine Oln ?_; refine Ocm ?_; refine S2 ?_
        refine CW.cond rfl (fun h4 => ?_) (fun h4 => ?_)
        ·
          replace h4 := nm h4
          rw [List.length_map] at h4
          have e4 : (((pl.take 10).take i).foldl addCls g.W.parents).map (fun x => [AV.ints x]) ++ [[AV.ints ((((pl.take 10).getD i default).take 3).foldl (ownStep (((pl.take 10).take i).foldl addCls g.W.parents).length) [])]] = (((pl.take 10).take (i + 1)).foldl addCls g.W.parents).map (fun x => [AV.ints x]) := by rw [fold_take _ _ hx, addCls, if_pos (by omega), List.map_append]; rfl
          refine S1 ?_; refine Ofa ?_; refine Old ?_; refine Omv ?_
          refine OL.popC rfl rfl rfl (POp.row rfl rfl (by first | rfl | simp_all [strip]) rfl rfl rfl rfl rfl rfl) ?_
          refine OL.appendC rfl rfl rfl rfl rfl rfl rfl rfl (AVle.sl (.cons (.cons (AVle.asL _ _) .nil) .nil)) (rfl) (fun v => by repeat (first | exact Upd.head _ _ _ | apply Upd.tail)) (by simp only [partsOf, List.zip, List.zipWith, List.map, List.length_map, List.length_cons, List.length_nil]; omega) (by simp only [partsOf, List.zip, List.zipWith, List.map, List.length_map, List.length_cons, List.length_nil]; omega) (fun v99 => ?_)
          refine Ofa ?_
          apply OL.stoC rfl rfl rfl rfl rfl rfl rfl rfl rfl rfl
          (case hu => repeat (first | exact Upd.head _ _ _ | apply Upd.tail)); (case hfit => rfl); (case hds => exact congrArg (fun z => [AV.as (.sl 1 z) v99, .as (AV.ints g.W.owner) v45]) e4)
          refine S3 ?_
          refine S1 ?_; refine Oar ?_; refine Omv ?_; refine S1 ?_
          exact ag (⟨i + 1, v99, rfl, rfl, by omega⟩)
        ·
          replace h4 := nm h4
          rw [List.length_map] at h4
          have e4 : (((pl.take 10).take (i + 1)).foldl addCls g.W.parents) = (((pl.take 10).take i).foldl addCls g.W.parents) := by rw [fold_take _ _ hx, addCls, if_neg (by omega)]
          refine S3 ?_
          rw [← e4]
          refine S1 ?_; refine Oar ?_; refine Omv ?_; refine S1 ?_
          exact ag (⟨i + 1, v1, rfl, rfl, by omega⟩)
    ·
      replace h1 := nm h1
      obtain rfl : i = (pl.take 10).length := by omega
      rw [List.take_length, show (pl.take 10).foldl addCls g.W.parents = bigP g.W pl from rfl]
      have hbp := cls_len (pl.take 10) g.W.parents
      have hbp2 : (bigP g.W pl).length ≤ 70 := by have : (pl.take 10).length ≤ 10 := by rw [List.length_take]; omega
                                                  exact Nat.le_trans hbp (by omega)
      refine S8 ?_; refine Omv ?_; refine Omv ?_; refine Oln ?_
      refine OL.popC rfl rfl rfl (POp.min2 (c := ((ol.take 10).length : Int)) rfl rfl rfl rfl rfl (by rw [List.length_take]; split <;> omega)) ?_
      refine OL.popC rfl rfl rfl (POp.slMin 10 rfl rfl rfl rfl rfl) ?_
      refine Oln ?_; refine Omv ?_; refine S3 ?_
      refine lj (fun m st => ∃ (j : Nat) (v2 : Value), st = ⟨[(108, .i j), (107, .i (ol.take 10).length), (106, AV.u8s (ol.take 10)), (9, .p b9 0), (8, .i 0), (7, .b (impC g.W g.A g.B)), (6, .b false), (2, AV.u8s ol), (3, .ptr (Gcells g))], .own 23 1 v1 :: .own 3 1 v2 :: .blk b9 25 [.as (AV.intss (bigP g.W pl)) v1, .as (AV.ints (((ol.take 10).take j).foldl (addSl (bigP g.W pl).length) g.W.owner)) v2] :: H⟩ ∧ m = (ol.take 10).length - j ∧ j ≤ (ol.take 10).length) (⟨0, v45, rfl, rfl, by omega⟩) ?_
      rintro m _ ⟨j, v2, rfl, rfl, hj⟩
      refine S2 ?_; refine Ocm ?_; refine S3 ?_
      refine CW.cond rfl (fun h5 => ?_) (fun h5 => ?_)
      ·
        replace h5 := nm h5
        have hol : (ol.take 10).length ≤ 10 := by rw [List.length_take]; omega
        have hjl : j < (ol.take 10).length := by omega
        have hjt : ((ol.take 10).take j).length ≤ 10 := by rw [List.length_take, List.length_take]; omega
        have hsl := sl_len (bigP g.W pl).length ((ol.take 10).take j) g.W.owner
        have hp := (((ol.take 10).getD j default)).isLt
        have htm := tm_b ((ol.take 10).getD j default) (bigP g.W pl).length
        refine S6 ?_; refine Oix ?_; refine Old ?_; refine Oas ?_; refine S4 ?_; refine Ofa ?_; refine Old ?_; refine Oln ?_; refine Oas ?_; refine S3 ?_
        rw [List.length_map]
        refine S1 ?_; refine Omv ?_; refine Ocm ?_; refine Omv ?_; refine Pfa ?_; refine Pld ?_; refine Pln ?_; refine Pcm ?_; refine Opk ?_; refine S2 ?_
        refine CW.cond rfl (fun h6 => ?_) (fun h6 => ?_)
        ·
          rw [List.length_map] at h6
          have hc6 : (decide (((bigP g.W pl).length : Int) > 0) && decide (((((ol.take 10).take j).foldl (addSl (bigP g.W pl).length) g.W.owner).length : Int) < 40)) = true := by simpa using h6
          have e6 : (((ol.take 10).take j).foldl (addSl (bigP g.W pl).length) g.W.owner).map (fun x => [AV.i x]) ++ [[AV.i (clsOf ((ol.take 10).getD j default) (bigP g.W pl).length)]] = (((ol.take 10).take (j + 1)).foldl (addSl (bigP g.W pl).length) g.W.owner).map (fun x => [AV.i x]) := by rw [fold_take _ _ hjl, addSl, if_pos hc6, List.map_append]; rfl
          simp only [Bool.and_eq_true, decide_eq_true_eq] at hc6
          refine CW.dp mixed ?_
          refine DP.anyC 0 8 181 rfl (by decide +kernel) rfl rfl (by decide +kernel) ?_
          refine Afa ?_; refine Ald ?_; refine Amv ?_
          refine AD.popC rfl rfl rfl (POp.cv rfl rfl rfl (wrap64 (by omega))) ?_
          refine Amv ?_
          refine AD.popC rfl rfl rfl (POp.div rfl rfl rfl rfl rfl (by omega) (.inr ⟨rfl, rfl⟩)) ?_
          refine Aar ?_
          refine AD.popC rfl rfl rfl (POp.row rfl rfl (by first | rfl | simp_all [strip]) rfl rfl rfl rfl rfl rfl) ?_
          refine AD.nil ?_
          refine DP.tailC 8 (by decide +kernel) rfl ?_
          refine OL.appendC rfl rfl rfl rfl rfl rfl rfl rfl (AVle.refl _) (rfl) (fun v => by repeat (first | exact Upd.head _ _ _ | apply Upd.tail)) (by simp only [partsOf, List.zip, List.zipWith, List.map, List.length_map, List.length_cons, List.length_nil]; omega) (by simp only [partsOf, List.zip, List.zipWith, List.map, List.length_map, List.length_cons, List.length_nil]; omega) (fun v131 => ?_)
          refine Ofa ?_
          apply OL.stoC rfl rfl rfl rfl rfl rfl rfl rfl rfl rfl
          (case hu => repeat (first | exact Upd.head _ _ _ | apply Upd.tail)); (case hfit => rfl); (case hds => exact congrArg (fun z => [AV.as (AV.intss (bigP g.W pl)) v1, .as (.sl 1 z) v131]) e6)
          refine S3 ?_
          refine S1 ?_; refine Oar ?_; refine Omv ?_; refine S1 ?_
          exact ag (⟨j + 1, v131, rfl, rfl, by omega⟩)
        ·
          rw [List.length_map] at h6
          have e6 : (((ol.take 10).take (j + 1)).foldl (addSl (bigP g.W pl).length) g.W.owner) = (((ol.take 10).take j).foldl (addSl (bigP g.W pl).length) g.W.owner) := by rw [fold_take _ _ hjl, addSl, if_neg (by simpa using h6)]
          refine S3 ?_
          rw [← e6]
          refine S1 ?_; refine Oar ?_; refine Omv ?_; refine S1 ?_
          exact ag (⟨j + 1, v2, rfl, rfl, by omega⟩)
      ·
        replace h5 := nm h5
        obtain rfl : j = (ol.take 10).length := by omega
        rw [List.take_length]
        refine S7 ?_; refine Ola ?_; refine Ofa ?_; refine Ola ?_; refine Ofa ?_; refine Ola ?_
        refine OL.popC rfl rfl rfl (POp.callLe (.mk' rfl rfl rfl rfl rfl) (.cons (AVle.agg (.cons (AVle.asL _ _) (.cons (AVle.asL _ _) .nil))) (.cons (.refl _) (.cons (.refl _) .nil))) (p24c (W := bigW g.W pl ol) (hbig.good h))) ?_
        refine Omv ?_; refine Oex ?_; refine Oex ?_; refine Oas ?_; refine Oas ?_; refine S4 ?_; refine Ofa ?_; refine Ola ?_; refine Ofa ?_; refine Ola ?_
        refine OL.popC rfl rfl rfl (POp.call (.mk' rfl rfl rfl rfl rfl) (p18c (good_one h))) ?_
        refine Omv ?_; refine Oex ?_; refine Oex ?_; refine Oas ?_; refine Oas ?_; refine S4 ?_; refine Ola ?_; refine Ofa ?_; refine Ola ?_
        refine OL.popC rfl rfl rfl (POp.callLe (.mk' rfl rfl rfl rfl rfl) (.cons (AVle.agg (.cons (AVle.asL _ _) (.cons (AVle.asL _ _) .nil))) (.cons (.refl _) .nil)) (p18c (W := bigW g.W pl ol) (hbig.good (good_one h)))) ?_
        refine Omv ?_; refine Oex ?_; refine Oex ?_; refine Oas ?_; refine Oas ?_; refine S4 ?_; refine Omv ?_; refine Ocm ?_; refine Omv ?_; refine Pmv ?_; refine Pcm ?_; refine Opk ?_
        refine Omv ?_; refine Pmv ?_; refine Pcm ?_; refine Opk ?_; refine Omv ?_; refine Pmv ?_; refine Pmv ?_; refine Peb ?_; refine Opk ?_; refine Omv ?_; refine Pmv ?_; refine Pmv ?_
        refine Peb ?_; refine Opk ?_; refine Omv ?_
        refine OL.guardC rfl rfl rfl rfl rfl rfl (fun hg => POp.call (.mk' rfl rfl rfl rfl rfl) (p21)) ?_
        refine Opk ?_; refine Oas ?_; refine S3 ?_
        refine r1 6 (H) ?_
        exact ⟨retB (by rw [hbig.imp (good_f h (.head _)).1 (good_f h (.tail _ (.head _))).1, hbig.can (good_f h (.head _)).1]; simp), rfl⟩
end Go.Proofs.YtiljpbljebfhnaaGreat

set_option linter.unusedVariables false
set_option linter.unusedSimpArgs false
set_option maxRecDepth 10000
namespace Go.Proofs.YtiljpbljebfhnaaGreat
open Go.Eng
open Go.Eng.Fc
open Go.ChangeShapes
theorem p6 (g : Gv) (pl : List (List U8)) (ol : List U8) : PCall Tryz.prog 6 [AV.given g, AV.u8ss pl, AV.u8s ol] (.b true) := by
  cases h : goodP g.W [g.A, g.B] with
  | true => exact p6g g pl ol h
  | false => exact p6n g pl ol h
section
variable {H : Type} {enc : TypeId × Value → H} {w : World} {base : Nat} {spare : Nat → Bool} {held : Bool}
theorem reads_u8f (n : Nat) : Reads enc Tryz.prog w base spare held n 5 (fun q : U8 => [AV.u8 q]) := fun fuel _ cs x h => by
  obtain ⟨q, rfl, _, hw⟩ := DataW.trod_int Tryz.underlying5 h
  simp [Lit.wf, IntKind.min, IntKind.max, IntKind.signed, IntKind.bits] at hw
  exact ⟨⟨q.toNat, by omega⟩, .cons _ _ _ _ (by rw [AV.u8, Int.toNat_of_nonneg (by omega)]; exact .val _) .nil⟩
theorem reads_u8s (n : Nat) : Reads enc Tryz.prog w base spare held n 54 (fun l : List U8 => [AV.u8s l]) :=
  Reads.le (reads_slice (n := n) Tryz.underlying54 (by kernel_rfl) (by omega) (fun _ => rfl) (reads_u8f n)) (by omega)
theorem reads_u8ss (n : Nat) : Reads enc Tryz.prog w base spare held n 53 (fun l : List (List U8) => [AV.u8ss l]) :=
  Reads.le (reads_slice (n := n) Tryz.underlying53 (by kernel_rfl) (by omega) (fun _ => rfl) (reads_u8s n)) (by omega)
end
section
variable {H : Type} {enc : TypeId × Value → H} {w : World} {v : Value} {d : DataW H} {ps : List MemPlace} {base base' : Nat} {r : Reach}
theorem u8s_of (hv : Value.okWide Tryz.prog w r base 54 v) (h : DataW.Trod enc Tryz.prog w base' (fun _ => true) true 54 v d ps) : ∃ l : List U8, Rel (allI w) w (AV.u8s l) v := by
  obtain ⟨fuel, h⟩ := h
  obtain ⟨n, hn⟩ := reads_u8s fuel fuel (Nat.le_refl _) _ _ h
  exact ⟨n, one_rel (by kernel_rfl) hv hn⟩
theorem u8ss_of (hv : Value.okWide Tryz.prog w r base 53 v) (h : DataW.Trod enc Tryz.prog w base' (fun _ => true) true 53 v d ps) : ∃ l : List (List U8), Rel (allI w) w (AV.u8ss l) v := by
  obtain ⟨fuel, h⟩ := h
  obtain ⟨n, hn⟩ := reads_u8ss fuel fuel (Nat.le_refl _) _ _ h
  exact ⟨n, one_rel (by kernel_rfl) hv hn⟩
end
end Go.Proofs.YtiljpbljebfhnaaGreat
