/- Part 10 of the proof: contracts of functions of the program and what they need. No condition beyond those that each theorem names. -/
import Derived.Test.YtiljpbljebfhnaaGreatSrP9
import Derived.ProofKit
set_option linter.unusedVariables false
set_option linter.unusedSimpArgs false
set_option maxRecDepth 10000
namespace Go.Proofs.YtiljpbljebfhnaaGreat
open Go.Eng
open Go.Eng.Fc
/-! ### what can be so has a model -/
theorem slots2_congr {W : FW} {kn : K2} {a : Int} {p : List Int} {c1 c2 : List Int → Bool} : ∀ (l : List Int) (must no : Nat), (∀ s ∈ l, c1 (p ++ [s]) = c2 (p ++ [s])) → slots2 W kn c1 a p l must no = slots2 W kn c2 a p l must no
  | [], _, _, _ => rfl
  | s :: r, must, no, h => by
    have h1 := h s (.head _)
    have hr : ∀ x ∈ r, c1 (p ++ [x]) = c2 (p ++ [x]) := fun x hx => h x (.tail _ hx)
    rw [slots2, slots2, h1, slots2_congr r _ _ hr, slots2_congr r _ _ hr, slots2_congr r _ _ hr]
theorem object2_congr {W : FW} {kn : K2} {a : Int} {p : List Int} {c1 c2 : List Int → Bool} (h : ∀ s ∈ (kn a p).slots, c1 (p ++ [s]) = c2 (p ++ [s])) : object2 W kn c1 a p = object2 W kn c2 a p := by
  rw [object2, object2, slots2_congr _ _ _ h]
def canAt (W : FW) (kn : K2) (a : Int) (p : List Int) : Bool := can2 W kn (2 - p.length) a p
def objAt (W : FW) (kn : K2) (a : Int) (p : List Int) : Nat × Bool := object2 W kn (canAt W kn a) a p
def vAt (W : FW) (kn : K2) (a : Int) (p : List Int) : Val :=
  if integer2 kn a p = true then .int (freeK (kn a p).nots (kn a p).low)
  else if none2 kn a p = true then .non
  else .obj fun c => c == 0 || (objAt W kn a p).1.testBit c
def stepV (W : FW) (kn : K2) (a : Int) (p : List Int) (v : Val) (s : Int) : Option Val := match v with
  | .obj S => if (decide (0 ≤ s) && decide (s < W.owner.length) && S (ownerN W s)) = true then (if (kn a p).slots.contains s = true then some (vAt W kn a (p ++ [s])) else some .non) else none
  | _ => none
def mkP (W : FW) (kn : K2) (a : Int) (p : List Int) : Option Val := (p.foldl (fun (st : List Int × Option Val) s => (st.1 ++ [s], st.2.bind fun v => stepV W kn a st.1 v s)) ([], some (vAt W kn a []))).2
def mkV (W : FW) (kn : K2) : VM := fun a p => if 0 ≤ a ∧ a < 3 then mkP W kn a p else none
theorem mk_fst (W : FW) (kn : K2) (a : Int) : ∀ (p : List Int) (st : List Int × Option Val), (p.foldl (fun (st : List Int × Option Val) s => (st.1 ++ [s], st.2.bind fun v => stepV W kn a st.1 v s)) st).1 = st.1 ++ p
  | [], st => by simp
  | s :: r, st => by rw [List.foldl_cons, mk_fst W kn a r]; simp
theorem mk_snoc (W : FW) (kn : K2) (a : Int) (p : List Int) (s : Int) : mkP W kn a (p ++ [s]) = (mkP W kn a p).bind fun v => stepV W kn a p v s := by
  rw [mkP, List.foldl_append, List.foldl_cons, List.foldl_nil, mk_fst]; rfl
theorem slots2_facts {W : FW} {kn : K2} {can : List Int → Bool} {a : Int} {p : List Int} : ∀ (l : List Int) (must no m' n' : Nat), slots2 W kn can a p l must no = some (m', n') →
    (∀ c, must.testBit c = true → m'.testBit c = true) ∧ (∀ c, no.testBit c = true → n'.testBit c = true) ∧ (∀ c, m'.testBit c = true → must.testBit c = true ∨ ∃ s ∈ l, c = ownerN W s) ∧
    ∀ s ∈ l, ((kn a (p ++ [s])).needed = true → m'.testBit (ownerN W s) = true ∧ can (p ++ [s]) = true) ∧ (can (p ++ [s]) = false → n'.testBit (ownerN W s) = true)
  | [], must, no, m', n', h => by
    rw [slots2] at h; cases h
    exact ⟨fun _ h => h, fun _ h => h, fun _ h => .inl h, fun s hs => by cases hs⟩
  | s :: r, must, no, m', n', h => by
    rw [slots2] at h
    cases hnd : (kn a (p ++ [s])).needed with
    | true =>
      rw [hnd] at h
      cases hcn : can (p ++ [s]) with
      | false => rw [hcn] at h; cases h
      | true =>
        rw [hcn] at h
        simp only [Bool.not_true, Bool.and_false, Bool.false_eq_true, if_false, if_true] at h
        obtain ⟨i1, i2, i3, i4⟩ := slots2_facts r _ _ _ _ h
        refine ⟨fun c hc => i1 c (by rw [or_bit, hc]; rfl), i2, fun c hc => ?_, fun x hx => ?_⟩
        · rcases i3 c hc with h' | ⟨x, hx, e⟩
          · rw [or_bit, Bool.or_eq_true, beq_iff_eq] at h'
            rcases h' with h' | h'
            · exact .inl h'
            · exact .inr ⟨s, .head _, h'⟩
          · exact .inr ⟨x, .tail _ hx, e⟩
        · rcases List.mem_cons.1 hx with rfl | hx
          · exact ⟨fun _ => ⟨i1 _ (by rw [or_bit]; simp [ownerN]), hcn⟩, fun hf => by rw [hcn] at hf; cases hf⟩
          · exact i4 x hx
    | false =>
      rw [hnd] at h
      cases hcn : can (p ++ [s]) with
      | false =>
        rw [hcn] at h
        simp only [Bool.not_false, Bool.and_true, Bool.false_and, Bool.false_eq_true, if_false, if_true] at h
        obtain ⟨i1, i2, i3, i4⟩ := slots2_facts r _ _ _ _ h
        refine ⟨i1, fun c hc => i2 c (by rw [or_bit, hc]; rfl), fun c hc => ?_, fun x hx => ?_⟩
        · rcases i3 c hc with h' | ⟨x, hx, e⟩
          · exact .inl h'
          · exact .inr ⟨x, .tail _ hx, e⟩
        · rcases List.mem_cons.1 hx with rfl | hx
          · exact ⟨fun hf => (by rw [hnd] at hf; cases hf), fun _ => i2 _ (by rw [or_bit]; simp [ownerN])⟩
          · exact i4 x hx
      | true =>
        rw [hcn] at h
        simp only [Bool.not_true, Bool.false_and, Bool.false_eq_true, if_false] at h
        obtain ⟨i1, i2, i3, i4⟩ := slots2_facts r _ _ _ _ h
        refine ⟨i1, i2, fun c hc => ?_, fun x hx => ?_⟩
        · rcases i3 c hc with h' | ⟨x, hx, e⟩
          · exact .inl h'
          · exact .inr ⟨x, .tail _ hx, e⟩
        · rcases List.mem_cons.1 hx with rfl | hx
          · exact ⟨fun hf => (by rw [hnd] at hf; cases hf), fun hf => by rw [hcn] at hf; cases hf⟩
          · exact i4 x hx
/-- what is known of an object that may stand at a spot -/
structure ObjF (W : FW) (kn : K2) (a : Int) (p : List Int) (R : Nat) : Prop where
  whole : (kn a p).whole = false
  m1 : (kn a p).must.testBit 1 = false
  m2 : (kn a p).must.testBit 2 = false
  n0 : (kn a p).no.testBit 0 = false
  must : ∀ c, (kn a p).must.testBit c = true → c ≠ 0 → R.testBit c = true
  no : ∀ c, (kn a p).no.testBit c = true → R.testBit c = false
  low : ∀ c, c < 3 → R.testBit c = false
  lt : ∀ c, R.testBit c = true → c < 3 + W.parents.length
  up : ∀ c b, R.testBit c = true → upB W c b = true → b ≠ 0 → R.testBit b = true
  slots : ∀ s ∈ (kn a p).slots, ((kn a (p ++ [s])).needed = true → R.testBit (ownerN W s) = true) ∧ (R.testBit (ownerN W s) = true → canAt W kn a (p ++ [s]) = true)
section
variable {W : FW} {ls : List FLit} (h : LsOk W ls)
include h
theorem can_at {a : Int} {p : List Int} (hp : p.length ≤ 2) : canAt W (stage2 ls) a p = (integer2 (stage2 ls) a p || none2 (stage2 ls) a p || (objAt W (stage2 ls) a p).2) := by
  rw [canAt, objAt]
  by_cases h2 : p.length = 2
  · rw [h2, show 2 - 2 = 0 from rfl, can2, object2_congr (c2 := canAt W (stage2 ls) a) (fun s hs => absurd (slot_len h hs) (by omega))]
  · obtain ⟨d, hd⟩ : ∃ d, 2 - p.length = d + 1 := ⟨1 - p.length, by omega⟩
    rw [hd, can2, object2_congr (c2 := canAt W (stage2 ls) a) (fun s hs => by rw [canAt]; congr 1; simp; omega)]
theorem obj_f {a : Int} {p : List Int} (ho : (objAt W (stage2 ls) a p).2 = true) : ObjF W (stage2 ls) a p (objAt W (stage2 ls) a p).1 := by
  have hW := world_len h.w
  rw [objAt] at ho ⊢
  generalize hob : object2 W (stage2 ls) (canAt W (stage2 ls) a) a p = ob at ho ⊢
  rw [object2] at hob
  by_cases hb : ((stage2 ls a p).whole || (stage2 ls a p).must.testBit 1 || (stage2 ls a p).must.testBit 2 || (stage2 ls a p).no.testBit 0) = true
  · rw [if_pos hb] at hob; rw [← hob] at ho; cases ho
  · rw [if_neg hb] at hob
    have hb := Bool.eq_false_iff.2 hb
    simp only [Bool.or_eq_false_iff] at hb
    cases hs : slots2 W (stage2 ls) (canAt W (stage2 ls) a) a p (stage2 ls a p).slots (stage2 ls a p).must (stage2 ls a p).no with
    | none => rw [hs] at hob; rw [← hob] at ho; cases ho
    | some mn =>
      obtain ⟨m', n'⟩ := mn
      rw [hs] at hob
      simp only [] at hob
      obtain ⟨f1, f2, f3, f4⟩ := slots2_facts _ _ _ _ _ hs
      rw [← hob] at ho ⊢
      simp only [] at ho ⊢
      have hz := zero_bits.1 ho
      have hown : ∀ s ∈ (stage2 ls a p).slots, 3 ≤ ownerN W s ∧ ownerN W s < 3 + W.parents.length := fun s hs => by
        have := owner_rng h.w (slot_in h hs)
        rw [ownerN]; omega
      have hm12 : ∀ c, c = 1 ∨ c = 2 → m'.testBit c = false := fun c hc => by
        rw [Bool.eq_false_iff]; intro hm
        rcases f3 c hm with h' | ⟨s, hs', e⟩
        · rcases hc with rfl | rfl
          · rw [hb.1.1.2] at h'; cases h'
          · rw [hb.1.2] at h'; cases h'
        · have := hown s hs'; omega
      have hmlt : ∀ c, m'.testBit c = true → c < 3 + W.parents.length := fun c hm => by
        rcases f3 c hm with h' | ⟨s, hs', e⟩
        · exact h.must_lt h'
        · rw [e]; exact (hown s hs').2
      have hX := closeK_get h.w W.parents.length 3 m' rfl
      have hlt : ∀ c, (closeK W W.parents.length 3 m').testBit c = true → c < 3 + W.parents.length := fun c hc => by
        rcases (hX c).1 hc with h1 | ⟨i, h1, h2, _, h4⟩
        · exact hmlt c h1
        · have := upB_le h.w i i (Nat.le_refl _) (by omega) c h4; omega
      have hR : ∀ c, (andNotP (closeK W W.parents.length 3 m') 1).testBit c = ((closeK W W.parents.length 3 m').testBit c && !(c == 0)) := fun c => by
        rw [andNot_bit, show (1 : Nat).testBit c = (c == 0) from by
          rcases c with _ | c
          · rfl
          · rw [Nat.testBit_succ]; simp]
        cases hc : (closeK W W.parents.length 3 m').testBit c with
        | false => simp
        | true => have := hlt c hc; rw [decide_eq_true (by omega)]; rfl
      have hRm : ∀ c, m'.testBit c = true → c ≠ 0 → (andNotP (closeK W W.parents.length 3 m') 1).testBit c = true := fun c hm hc => by
        rw [hR, (hX c).2 (.inl hm), show (c == 0) = false from by simpa using hc]; rfl
      have hRn : ∀ c, n'.testBit c = true → (andNotP (closeK W W.parents.length 3 m') 1).testBit c = false := fun c hn => by
        have := hz c
        rw [Nat.testBit_and, hn, Bool.and_true] at this; exact this
      refine ⟨hb.1.1.1, hb.1.1.2, hb.1.2, hb.2, fun c hc h0 => hRm c (f1 c hc) h0, fun c hc => hRn c (f2 c hc), fun c hc => ?_, fun c hc => ?_, fun c b hc hub hb0 => ?_, fun s hs' => ?_⟩
      · rw [hR, Bool.eq_false_iff]; intro hh
        rw [Bool.and_eq_true, Bool.not_eq_true', beq_eq_false_iff_ne] at hh
        rcases (hX c).1 hh.1 with h1 | ⟨i, h1, h2, _, h4⟩
        · rw [hm12 c (by omega)] at h1; cases h1
        · have := upB_le h.w i i (Nat.le_refl _) (by omega) c h4; omega
      · rw [hR, Bool.and_eq_true] at hc; exact hlt c hc.1
      · rw [hR, Bool.and_eq_true] at hc ⊢
        refine ⟨?_, by simpa using hb0⟩
        rw [hX b]
        rcases (hX c).1 hc.1 with h1 | ⟨i, h1, h2, h3, h4⟩
        · have hc0 : c ≠ 0 := by simpa using hc.2
          have hcl := hmlt c h1
          have hc12 : c ≠ 1 ∧ c ≠ 2 := ⟨fun e => (by rw [hm12 c (.inl e)] at h1; cases h1), fun e => by rw [hm12 c (.inr e)] at h1; cases h1⟩
          exact .inr ⟨c, by omega, by omega, h1, hub⟩
        · exact .inr ⟨i, h1, h2, h3, upB_trans h.w i i (Nat.le_refl _) (by omega) c b h4 hub⟩
      · refine ⟨fun hn => hRm _ ((f4 s hs').1 hn).1 (by have := hown s hs'; omega), fun hr => ?_⟩
        cases hcn : canAt W (stage2 ls) a (p ++ [s]) with
        | true => rfl
        | false => rw [hRn _ ((f4 s hs').2 hcn)] at hr; cases hr
/-- what stands at a spot where something may -/
theorem vat_cases {a : Int} {p : List Int} (hp : p.length ≤ 2) (hc : canAt W (stage2 ls) a p = true) :
    (integer2 (stage2 ls) a p = true ∧ vAt W (stage2 ls) a p = .int (freeK (stage2 ls a p).nots (stage2 ls a p).low)) ∨ (none2 (stage2 ls) a p = true ∧ vAt W (stage2 ls) a p = .non) ∨
    ((objAt W (stage2 ls) a p).2 = true ∧ vAt W (stage2 ls) a p = .obj fun c => c == 0 || (objAt W (stage2 ls) a p).1.testBit c) := by
  rw [can_at h hp] at hc
  unfold vAt
  by_cases hi : integer2 (stage2 ls) a p = true
  · rw [if_pos hi]; exact .inl ⟨hi, rfl⟩
  · rw [if_neg hi]
    by_cases hn : none2 (stage2 ls) a p = true
    · rw [if_pos hn]; exact .inr (.inl ⟨hn, rfl⟩)
    · rw [if_neg hn]
      rw [Bool.eq_false_iff.2 hi, Bool.eq_false_iff.2 hn] at hc
      exact .inr (.inr ⟨by simpa using hc, rfl⟩)
theorem own_ne {s : Int} (hs : 0 ≤ s ∧ s < W.owner.length) : ownerN W s ≠ 0 := by
  have := owner_rng h.w hs; rw [ownerN]; omega
theorem mk_inv (ht : together2 W ls = true) {a : Int} (ha : 0 ≤ a ∧ a < 3) : ∀ (n : Nat) (p : List Int), p.length = n → ∀ v, mkP W (stage2 ls) a p = some v → v = .non ∨ (v = vAt W (stage2 ls) a p ∧ p.length ≤ 2 ∧ canAt W (stage2 ls) a p = true)
  | 0, p, hp, v, hv => by
    rw [List.eq_nil_of_length_eq_zero hp] at hv ⊢
    have e : v = vAt W (stage2 ls) a [] := (Option.some.inj hv).symm
    refine .inr ⟨e, by simp, ?_⟩
    rw [together2, Bool.and_eq_true, Bool.and_eq_true] at ht
    have : a = 0 ∨ a = 1 ∨ a = 2 := by omega
    rcases this with rfl | rfl | rfl
    · exact ht.1.1
    · exact ht.1.2
    · exact ht.2
  | n + 1, p, hp, v, hv => by
    rcases List.eq_nil_or_concat p with rfl | ⟨q, s, rfl⟩
    · simp at hp
    · rw [List.concat_eq_append] at hp hv ⊢
      rw [mk_snoc] at hv
      obtain ⟨u, hu, hst⟩ := Option.bind_eq_some_iff.1 hv
      rcases mk_inv ht ha n q (by simpa using hp) u hu with rfl | ⟨rfl, hq, hc⟩
      · cases hst
      · rcases vat_cases h hq hc with ⟨_, e⟩ | ⟨_, e⟩ | ⟨ho, e⟩
        · rw [e] at hst; cases hst
        · rw [e] at hst; cases hst
        · rw [e] at hst
          simp only [stepV] at hst
          split at hst
          · rename_i hcond
            simp only [Bool.and_eq_true, decide_eq_true_eq, Bool.or_eq_true, beq_iff_eq] at hcond
            split at hst
            · rename_i hcs
              have hcs := List.contains_iff_mem.1 hcs
              have hl := slot_len h hcs
              refine .inr ⟨(Option.some.inj hst).symm, by simp; omega, ((obj_f h ho).slots s hcs).2 ?_⟩
              rcases hcond.2 with e0 | e0
              · exact absurd e0 (own_ne h hcond.1)
              · exact e0
            · exact .inl (Option.some.inj hst).symm
          · cases hst
theorem mk_ok (ht : together2 W ls = true) : VOk W (mkV W (stage2 ls)) := by
  refine ⟨fun a h0 h3 => ?_, fun a p n hv => ?_, fun a p S hv => ?_, fun a p s h0 h1 => ?_⟩
  · rw [mkV, if_pos ⟨h0, h3⟩]; rfl
  · rw [mkV] at hv
    split at hv
    · rename_i ha
      rcases mk_inv h ht ha p.length p rfl _ hv with e | ⟨e, hp, hc⟩
      · cases e
      · rcases vat_cases h hp hc with ⟨hi, e'⟩ | ⟨_, e'⟩ | ⟨_, e'⟩
        · rw [e'] at e; cases e
          rw [integer2, Bool.and_eq_true, decide_eq_true_eq] at hi
          have hk := freeK_spec (stage2 ls a p).nots (stage2 ls a p).low
          have ht' := h.tri a p
          have hf := (num_fold (freeK (stage2 ls a p).nots (stage2 ls a p).low) (ls.filter (hitL a p)) rs0 (fun l hm => (h.ok l (List.mem_filter.1 hm).1).op)).1 (by rw [← ht']; exact ⟨hk.2.1, hi.1, hk.1⟩)
          exact ⟨hf.1.1, hf.1.2.1⟩
        · rw [e'] at e; cases e
        · rw [e'] at e; cases e
    · cases hv
  · rw [mkV] at hv
    split at hv
    · rename_i ha
      rcases mk_inv h ht ha p.length p rfl _ hv with e | ⟨e, hp, hc⟩
      · cases e
      · rcases vat_cases h hp hc with ⟨hi, e'⟩ | ⟨_, e'⟩ | ⟨ho, e'⟩
        · rw [e'] at e; cases e
        · rw [e'] at e; cases e
        · rw [e'] at e; cases e
          have hF := obj_f h ho
          refine ⟨rfl, by simp [hF.low], by simp [hF.low], fun c hc' hS b hub => ?_⟩
          simp only [Bool.or_eq_true, beq_iff_eq] at hS ⊢
          by_cases hb0 : b = 0
          · exact .inl hb0
          · rcases hS with rfl | hS
            · rw [upB_low (by omega)] at hub; simp at hub; exact absurd hub hb0
            · exact .inr (hF.up c b hS hub hb0)
    · cases hv
  · rw [mkV]
    by_cases ha : 0 ≤ a ∧ a < 3
    · simp only [mkV, if_pos ha]
      rw [mk_snoc]
      constructor
      · intro hs
        obtain ⟨v, hv⟩ := Option.isSome_iff_exists.1 hs
        obtain ⟨u, hu, hst⟩ := Option.bind_eq_some_iff.1 hv
        cases u with
        | int n => cases hst
        | non => cases hst
        | obj S =>
          simp only [stepV] at hst
          split at hst
          · rename_i hcond
            rw [Bool.and_eq_true] at hcond
            exact ⟨S, hu, hcond.2⟩
          · cases hst
      · rintro ⟨S, hS, hSo⟩
        rw [hS]
        simp only [Option.bind_some, stepV]
        rw [if_pos (by simp [h0, h1, hSo])]
        split <;> rfl
    · simp only [mkV, if_neg ha]
      simp
theorem ends_no {a : Int} {p : List Int} {s : Int} (hs : s ∈ (stage2 ls a p).slots) (hn : (stage2 ls a (p ++ [s])).needed = true) : ends2 (stage2 ls) a p = false := by
  have _ := h
  rw [ends2, List.all_eq_false]; exact ⟨s, hs, by rw [hn]; simp⟩
theorem lit_way {l : FLit} (hl : l ∈ ls) (ht : together2 W ls = true) : ∀ (n : Nat) (p : List Int), p.length = n → p <+: l.f.path →
    (mkP W (stage2 ls) l.f.arg p = none ∧ l.neg = true) ∨ (mkP W (stage2 ls) l.f.arg p = some (vAt W (stage2 ls) l.f.arg p) ∧ canAt W (stage2 ls) l.f.arg p = true)
  | 0, p, hp, _ => by
    have hok := h.ok l hl
    rw [List.eq_nil_of_length_eq_zero hp]
    refine .inr ⟨rfl, ?_⟩
    rcases mk_inv h ht hok.arg 0 [] rfl _ (show mkP W (stage2 ls) l.f.arg [] = some (vAt W (stage2 ls) l.f.arg []) from rfl) with e | e
    · rw [together2, Bool.and_eq_true, Bool.and_eq_true] at ht
      have ha := hok.arg
      have : l.f.arg = 0 ∨ l.f.arg = 1 ∨ l.f.arg = 2 := by omega
      rcases this with e | e | e <;> rw [e]
      · exact ht.1.1
      · exact ht.1.2
      · exact ht.2
    · exact e.2.2
  | n + 1, p, hp, hpre => by
    rcases List.eq_nil_or_concat p with rfl | ⟨q, s, rfl⟩
    · simp at hp
    · rw [List.concat_eq_append] at hp hpre ⊢
      have hok := h.ok l hl
      have hway : wayL l.f.arg (q ++ [s]) l = true := by rw [wayL, Bool.and_eq_true, beg_iff]; exact ⟨by simp, hpre⟩
      have hs : s ∈ (stage2 ls l.f.arg q).slots := by rw [h.slots]; exact List.any_eq_true.2 ⟨l, hl, hway⟩
      have hnd : l.neg = false → (stage2 ls l.f.arg (q ++ [s])).needed = true := fun hn => by
        rw [h.need]; exact List.any_eq_true.2 ⟨l, hl, by rw [needL, hn, hway]; rfl⟩
      have hq : q.length ≤ 2 := by have := slot_len h hs; omega
      rw [mk_snoc]
      rcases lit_way hl ht n q (by simpa using hp) ((List.prefix_append _ _).trans hpre) with ⟨e, hn⟩ | ⟨e, hc⟩
      · rw [e]; exact .inl ⟨rfl, hn⟩
      · rw [e]
        simp only [Option.bind_some]
        rcases vat_cases h hq hc with ⟨hi, e'⟩ | ⟨hi, e'⟩ | ⟨ho, e'⟩
        · rw [e']
          refine .inl ⟨rfl, ?_⟩
          cases hn : l.neg with
          | true => rfl
          | false =>
            rw [integer2, plain2, ends_no h hs (hnd hn)] at hi
            simp at hi
        · rw [e']
          refine .inl ⟨rfl, ?_⟩
          cases hn : l.neg with
          | true => rfl
          | false =>
            rw [none2, plain2, ends_no h hs (hnd hn)] at hi
            simp at hi
        · have hF := (obj_f h ho).slots s hs
          have hr := slot_in h hs
          rw [e']
          simp only [stepV]
          by_cases hcond : (decide (0 ≤ s) && decide (s < W.owner.length) && (ownerN W s == 0 || (objAt W (stage2 ls) l.f.arg q).1.testBit (ownerN W s))) = true
          · rw [if_pos hcond, if_pos (List.contains_iff_mem.2 hs)]
            simp only [Bool.and_eq_true, decide_eq_true_eq, Bool.or_eq_true, beq_iff_eq] at hcond
            refine .inr ⟨rfl, hF.2 ?_⟩
            rcases hcond.2 with e0 | e0
            · exact absurd e0 (own_ne h hr)
            · exact e0
          · rw [if_neg hcond]
            refine .inl ⟨rfl, ?_⟩
            cases hn : l.neg with
            | true => rfl
            | false =>
              exfalso; apply hcond
              rw [decide_eq_true hr.1, decide_eq_true hr.2, hF.1 (hnd hn)]; simp
theorem mk_lits (ht : together2 W ls = true) : ∀ l ∈ ls, litV (mkV W (stage2 ls)) l = true := by
  intro l hl
  have hok := h.ok l hl
  have hhit : hitL l.f.arg l.f.path l = true := by simp [hitL]
  rw [litV, evL, mkV, if_pos hok.arg]
  rcases lit_way h hl ht _ l.f.path rfl (List.prefix_refl _) with ⟨e, hn⟩ | ⟨e, hc⟩
  · rw [e, hn]; rfl
  · rw [e]
    simp only []
    have hcl := hok.cls
    have hmu : l.f.op = 2 → l.neg = false → (stage2 ls l.f.arg l.f.path).must.testBit l.f.cls.toNat = true := fun h2 hn => by
      rw [h.must]; exact List.any_eq_true.2 ⟨l, hl, by rw [isL, hhit, h2, hn]; simp⟩
    have hno : l.f.op = 2 → l.neg = true → (stage2 ls l.f.arg l.f.path).no.testBit l.f.cls.toNat = true := fun h2 hn => by
      rw [h.no]; exact List.any_eq_true.2 ⟨l, hl, by rw [isL, hhit, h2, hn]; simp⟩
    have hwh : l.f.op ≠ 2 → l.neg = false → (stage2 ls l.f.arg l.f.path).whole = true := fun h2 hn => by
      rw [h.whole]; exact List.any_eq_true.2 ⟨l, hl, by rw [wholeL, hhit, hn]; simpa using h2⟩
    rcases vat_cases h hok.path hc with ⟨hi, e'⟩ | ⟨hi, e'⟩ | ⟨ho, e'⟩
    · rw [e']; unfold valL
      rw [integer2, Bool.and_eq_true, decide_eq_true_eq, plain_iff h] at hi
      by_cases h2 : l.f.op = 2
      · rw [if_pos h2, isC]
        cases hn : l.neg with
        | false =>
          have := hi.2.1 _ (hmu h2 hn)
          rcases this with e0 | e0
          · rw [e0]; rfl
          · rw [e0]; rfl
        | true =>
          have h1 := hno h2 hn
          have : ¬ (l.f.cls.toNat = 0 ∨ l.f.cls.toNat = (1 : Int).toNat) := fun hh => by rw [hi.2.2.1 _ hh] at h1; cases h1
          have e0 : (l.f.cls.toNat == 0 || l.f.cls.toNat == 1) = false := by
            rw [Bool.or_eq_false_iff, beq_eq_false_iff_ne, beq_eq_false_iff_ne]; exact not_or.1 this
          rw [e0]; rfl
      · rw [if_neg h2]
        simp only []
        have hk := freeK_spec (stage2 ls l.f.arg l.f.path).nots (stage2 ls l.f.arg l.f.path).low
        have ht' := h.tri l.f.arg l.f.path
        have hf := (num_fold (freeK (stage2 ls l.f.arg l.f.path).nots (stage2 ls l.f.arg l.f.path).low) (ls.filter (hitL l.f.arg l.f.path)) rs0 (fun l hm => (h.ok l (List.mem_filter.1 hm).1).op)).1 (by rw [← ht']; exact ⟨hk.2.1, hi.1, hk.1⟩)
        have := hf.2 l (List.mem_filter.2 ⟨hl, hhit⟩)
        rw [numOk, show (l.f.op == 2) = false from by simpa using h2, Bool.false_or] at this
        exact this
    · rw [e']; unfold valL
      rw [none2, Bool.and_eq_true, Bool.not_eq_true', plain_iff h] at hi
      by_cases h2 : l.f.op = 2
      · rw [if_pos h2, isC]
        cases hn : l.neg with
        | false =>
          have := hi.2.1 _ (hmu h2 hn)
          rcases this with e0 | e0
          · rw [e0]; rfl
          · rw [e0]; rfl
        | true =>
          have h1 := hno h2 hn
          have : ¬ (l.f.cls.toNat = 0 ∨ l.f.cls.toNat = (2 : Int).toNat) := fun hh => by rw [hi.2.2.1 _ hh] at h1; cases h1
          have e0 : (l.f.cls.toNat == 0 || l.f.cls.toNat == 2) = false := by
            rw [Bool.or_eq_false_iff, beq_eq_false_iff_ne, beq_eq_false_iff_ne]; exact not_or.1 this
          rw [e0]; rfl
      · rw [if_neg h2]
        cases hn : l.neg with
        | false => rw [hwh h2 hn] at hi; cases hi.1
        | true => rfl
    · rw [e']; unfold valL
      have hF := obj_f h ho
      by_cases h2 : l.f.op = 2
      · rw [if_pos h2, isC]
        cases hn : l.neg with
        | false =>
          by_cases h0 : l.f.cls.toNat = 0
          · rw [h0]; rfl
          · rw [hF.must _ (hmu h2 hn) h0]; simp
        | true =>
          have h1 := hno h2 hn
          have h0 : l.f.cls.toNat ≠ 0 := fun e0 => by rw [e0, hF.n0] at h1; cases h1
          rw [hF.no _ h1, show (l.f.cls.toNat == 0) = false from by simpa using h0]; rfl
      · rw [if_neg h2]
        cases hn : l.neg with
        | false => have := hwh h2 hn; rw [hF.whole] at this; cases this
        | true => rfl
theorem together_sem : together2 W ls = true ↔ ∃ V, VOk W V ∧ ∀ l ∈ ls, litV V l = true :=
  ⟨fun ht => ⟨_, mk_ok h ht, mk_lits h ht⟩, fun ⟨_, hV, hl⟩ => sem_together h hV hl⟩
end
/-- a fact can be so just if it is so in some model -/
theorem can_sem {W : FW} (hW : worldP W = true) {f : Fact} (hf : wfB W f = true) : canC W f = true ↔ ∃ V, VOk W V ∧ ev V f = true := by
  rw [canC, List.any_eq_true]
  constructor
  · rintro ⟨c, hc, ht⟩
    obtain ⟨V, hV, hl⟩ := (together_sem (case_ls hW hf hc)).1 ht
    refine ⟨V, hV, ?_⟩
    have := cases_ev V f (wf_ok f hf) false
    rw [Bool.bne_false] at this
    rw [← this]
    exact List.any_eq_true.2 ⟨c, hc, List.all_eq_true.2 hl⟩
  · rintro ⟨V, hV, he⟩
    have := cases_ev V f (wf_ok f hf) false
    rw [Bool.bne_false, he] at this
    obtain ⟨c, hc, hl⟩ := List.any_eq_true.1 this
    exact ⟨c, hc, sem_together (case_ls hW hf hc) hV (List.all_eq_true.1 hl)⟩
theorem imp_sem {W : FW} (hW : worldP W = true) {a b : Fact} (ha : wfB W a = true) (hb : wfB W b = true) : impC W a b = true ↔ ∀ V, VOk W V → ev V a = true → ev V b = true := by
  rw [impC, Bool.not_eq_true', Bool.eq_false_iff, ne_eq, can_sem hW (wf_and ha (wf_not hb))]
  constructor
  · intro hn V hV h1
    cases h2 : ev V b with
    | true => rfl
    | false => exact absurd ⟨V, hV, by rw [ev_andF, ev_notF, h1, h2]; rfl⟩ hn
  · rintro hh ⟨V, hV, h1⟩
    rw [ev_andF, ev_notF, Bool.and_eq_true] at h1
    rw [hh V hV h1.1] at h1
    cases h1.2
end Go.Proofs.YtiljpbljebfhnaaGreat

set_option linter.unusedVariables false
set_option linter.unusedSimpArgs false
set_option maxRecDepth 10000
namespace Go.Proofs.YtiljpbljebfhnaaGreat
open Go.Eng
open Go.Eng.Fc
def Pcells (p : Fact × Fact) : List AV := Fcells p.1 ++ Fcells p.2
abbrev AV.pairs (l : List (Fact × Fact)) : AV := .sl 12 (l.map Pcells)
def okImp (W : FW) (p : Fact × Fact) : Bool := !goodP W [p.1] || !goodP W [p.2] || impC W p.1 p.2
theorem good12 {W : FW} {a b : Fact} (h1 : goodP W [a] = true) (h2 : goodP W [b] = true) : goodP W [a, b] = true := by
  simp only [goodP, List.all_cons, List.all_nil, Bool.and_true, Bool.and_eq_true] at *
  exact ⟨h1.1, h1.2, h2.2⟩
theorem all_take {α : Type} [Inhabited α] {l : List α} {i : Nat} {p : α → Bool} (h : i < l.length) : (l.take (i + 1)).all p = ((l.take i).all p && p (l.getD i default)) := by
  rw [List.take_add_one, List.all_append, getD_lt h, List.getElem?_eq_getElem h]; simp
theorem ok_no {W : FW} {p : Fact × Fact} (hg : goodP W [p.1, p.2] = true) (hb : impC W p.1 p.2 = false) : okImp W p = false := by
  unfold okImp
  simp only [goodP, List.all_cons, List.all_nil, Bool.and_true, Bool.and_eq_true] at hg ⊢
  rw [hb, hg.1, hg.2.1, hg.2.2]; rfl
theorem code0 {b : Bool} : ((if b = true then (0 : Int) else 2) != 0) = !b := by cases b <;> rfl
theorem p48 (W : FW) (l : List (Fact × Fact)) (hl : l.length ≤ 1000) : PCall Tryz.prog 48 [AV.world W, AV.pairs l] (.b (l.all (okImp W))) := by
  intro H
  refine ACall.mk' (n := 43) Tryz.func48 rfl (by kernel_rfl) rfl rfl (fun B I w0 => ?_)
  refine S2 ?_; refine Obx ?_; refine Oas ?_; refine S5 ?_; refine Omv ?_; refine Oln ?_; refine Omv ?_; refine S3 ?_
  refine lj (fun m st => ∃ i : Nat, st = ⟨[(11, .i i), (10, .i l.length), (9, AV.pairs l), (4, .b false), (2, .ptr (Wcells W))], H⟩ ∧ m = l.length - i ∧ i ≤ l.length ∧ (l.take i).all (okImp W) = true) (⟨0, rfl, rfl, by omega, rfl⟩) ?_
  rintro m _ ⟨i, rfl, rfl, hi, hall⟩
  refine S2 ?_; refine Ocm ?_; refine S3 ?_
  refine CW.cond rfl (fun h0 => ?_) (fun h0 => ?_)
  ·
    replace h0 := nm h0
    refine S6 ?_; refine Oix ?_; refine Ola ?_
    refine OL.alC rfl rfl rfl rfl (fun b0 => ?_)
    refine Sto ?_; refine S5 ?_; refine Ola ?_; refine Oia ?_; refine Ola ?_
    refine OL.popC rfl rfl rfl (POp.call (.mk' rfl rfl rfl rfl rfl) (p47 W (l.getD i default).1)) ?_
    refine Ocm ?_; refine Omv ?_; refine Pla ?_; refine Pia ?_; refine Pla ?_
    refine OL.guardC rfl rfl rfl rfl rfl rfl (fun hg => POp.call (.mk' rfl rfl rfl rfl (by first | rfl | ((repeat (first | exact hg | rfl | refine Bool.and_eq_true_iff.2 ⟨?_, ?_⟩)); done) | simp_all [strip, constAV])) (p47 W (l.getD i default).2)) ?_
    refine Pcm ?_; refine Opk ?_; refine S2 ?_
    refine CW.cond rfl (fun h1 => ?_) (fun h1 => ?_)
    ·
      rw [code0, code0] at h1
      have ok : okImp W (l.getD i default) = true := by unfold okImp; cases hg1 : goodP W [(l.getD i default).1] <;> cases hg2 : goodP W [(l.getD i default).2] <;> simp_all
      refine S5 ?_; refine Oar ?_; refine Omv ?_; refine S1 ?_
      exact ag (⟨i + 1, rfl, rfl, by omega, by rw [all_take (by omega), hall, ok]; rfl⟩)
    ·
      rw [code0, code0] at h1
      have hg : goodP W [(l.getD i default).1, (l.getD i default).2] = true := by cases hg1 : goodP W [(l.getD i default).1] <;> cases hg2 : goodP W [(l.getD i default).2] <;> simp_all [good12]
      refine S4 ?_; refine Ola ?_; refine Oia ?_; refine Ola ?_; refine Oia ?_; refine Ola ?_
      refine OL.popC rfl rfl rfl (POp.call (.mk' rfl rfl rfl rfl rfl) (p24c hg)) ?_
      refine Omv ?_; refine Oex ?_; refine Oex ?_; refine Oas ?_; refine Oas ?_; refine S4 ?_; refine Omv ?_; refine Ocm ?_; refine Omv ?_; refine Pmv ?_; refine Pnt ?_; refine Opk ?_
      refine S2 ?_
      refine CW.cond rfl (fun h2 => ?_) (fun h2 => ?_)
      ·
        have hb : impC W (l.getD i default).1 (l.getD i default).2 = false := by simpa using h2
        have hf : okImp W (l.getD i default) = false := ok_no hg hb
        refine S2 ?_; refine Oas ?_; refine S8 ?_
        refine r1 4 (H) ?_
        exact ⟨retB (by symm; rw [List.all_eq_false]; exact ⟨_, getD_mem (k := i) (by omega), by rw [hf]; simp⟩), rfl⟩
      ·
        have ok : okImp W (l.getD i default) = true := by unfold okImp; simp_all
        refine S4 ?_; refine Oar ?_; refine Omv ?_; refine S1 ?_
        exact ag (⟨i + 1, rfl, rfl, by omega, by rw [all_take (by omega), hall, ok]; rfl⟩)
  ·
    replace h0 := nm h0
    obtain rfl : i = l.length := by omega
    rw [List.take_length] at hall
    refine S7 ?_; refine Oas ?_; refine S3 ?_
    refine r1 4 (H) ?_
    exact ⟨retB hall.symm, rfl⟩
theorem ok_sem {W : FW} {x y : Fact} (h : ∀ V, VOk W V → ev V x = true → ev V y = true) : okImp W (x, y) = true := by
  unfold okImp
  cases h1 : goodP W [x] with
  | false => rfl
  | true =>
    cases h2 : goodP W [y] with
    | false => rfl
    | true =>
      have g1 := good_f1 h1
      have g2 := good_f1 h2
      rw [(imp_sem g1.1 g1.2.2.1 g2.2.2.1).2 h]; rfl
section
variable {W : FW} {a b c : Fact} (ha : goodP W [a] = true) (hb : goodP W [b] = true) (hc : goodP W [c] = true)
include ha hb
include hc
end
end Go.Proofs.YtiljpbljebfhnaaGreat

set_option linter.unusedVariables false
set_option linter.unusedSimpArgs false
set_option maxRecDepth 10000
namespace Go.Proofs.YtiljpbljebfhnaaGreat
open Go.Eng
open Go.Eng.Fc
abbrev U8 := Fin 256
abbrev AV.u8 (x : U8) : AV := .val (.int .u8 (x.val : Int))
/-! ### a bigger world -/
structure BigW (W W' : FW) : Prop where
  ok : worldP W = true
  ok' : worldP W' = true
  par : W.parents <+: W'.parents
  own : W.owner <+: W'.owner
theorem BigW.np {W W' : FW} (h : BigW W W') : W.parents.length ≤ W'.parents.length := h.par.length_le
theorem BigW.no {W W' : FW} (h : BigW W W') : W.owner.length ≤ W'.owner.length := h.own.length_le
theorem BigW.par_at {W W' : FW} (h : BigW W W') {i : Nat} (hi : i < W.parents.length) : W'.parents.getD i default = W.parents.getD i default := by
  obtain ⟨t, ht⟩ := h.par
  rw [← ht, List.getD_eq_getElem?_getD, List.getElem?_append_left hi, List.getD_eq_getElem?_getD]
theorem BigW.own_at {W W' : FW} (h : BigW W W') {s : Int} (hs : 0 ≤ s ∧ s < W.owner.length) : ownerN W' s = ownerN W s := by
  obtain ⟨t, ht⟩ := h.own
  rw [ownerN, ownerN, ← ht, List.getD_eq_getElem?_getD, List.getElem?_append_left (by omega), List.getD_eq_getElem?_getD]
theorem BigW.up {W W' : FW} (h : BigW W W') : ∀ (n c : Nat), c ≤ n → c < 3 + W.parents.length → ∀ b, upB W' c b = upB W c b := by
  intro n
  induction n with
  | zero => intro c hn hc b; rw [upB_low (by omega), upB_low (by omega)]
  | succ n ih =>
    intro c hn hc b
    by_cases h3 : c < 3
    · rw [upB_low h3, upB_low h3]
    · obtain ⟨i, rfl⟩ : ∃ i, c = 3 + i := ⟨c - 3, by omega⟩
      have hnp := h.np
      rw [upB_own h.ok' (by omega), upB_own h.ok (by omega), h.par_at (by omega)]
      congr 1
      refine any_congr_mem fun p hp => ?_
      have h2 := parents_lt i _ _ (by have := parentss_at W.parents 0 i (by have := h.ok; simp only [worldP, Bool.and_eq_true] at this; exact this.1.2) (by omega); simpa using this) p hp
      exact ih p.toNat (by omega) (by omega) b
theorem BigW.node {W W' : FW} (h : BigW W W') {f : Fact} (hf : nodeOkB W f = true) : nodeOkB W' f = true := by
  have hnp := h.np
  have hno := h.no
  simp only [nodeOkB, Bool.and_eq_true] at hf ⊢
  refine ⟨hf.1, ?_⟩
  have h2 := hf.2
  by_cases hl : leafP f = true
  · rw [if_pos hl] at h2 ⊢
    simp only [Bool.and_eq_true, argP, leafOkP, pathP, Bool.not_eq_true', Bool.or_eq_false_iff, decide_eq_false_iff_not, Bool.not_eq_false', List.all_eq_true, decide_eq_true_eq, slotP] at h2 ⊢
    refine ⟨⟨h2.1.1, h2.1.2.1, fun s hs => ?_⟩, ?_⟩
    · have := h2.1.2.2 s hs; omega
    · have h3 := h2.2
      by_cases ho : f.op = 2
      · rw [if_pos ho] at h3 ⊢
        simp only [Bool.and_eq_true, classP, decide_eq_true_eq] at h3 ⊢
        exact ⟨h3.1, h3.2.1, by omega⟩
      · rw [if_neg ho] at h3 ⊢; exact h3
  · rw [if_neg hl] at h2 ⊢; exact h2
theorem BigW.wf {W W' : FW} (h : BigW W W') : ∀ f : Fact, wfB W f = true → wfB W' f = true := by
  refine Fact.ind1 fun f ih hf => ?_
  rw [wfB_iff] at hf ⊢
  exact ⟨h.node hf.1, fun k hk => ih k hk (hf.2 k hk)⟩
theorem BigW.good {W W' : FW} (h : BigW W W') {l : List Fact} (hl : goodP W l = true) : goodP W' l = true := by
  simp only [goodP, Bool.and_eq_true, List.all_eq_true] at hl ⊢
  refine ⟨h.ok', fun f hf => ?_⟩
  have := hl.2 f hf
  rw [← formed_eq, Bool.and_eq_true] at this ⊢
  exact ⟨this.1, h.wf f this.2⟩
/-- a model of the bigger world, seen from the lesser one -/
def cutVal (n : Nat) : Val → Val
  | .obj S => .obj fun c => S c && decide (c < n)
  | v => v
def cutV (n : Nat) (V : VM) : VM := fun a p => (V a p).map (cutVal n)
theorem cut_isC {n c : Nat} (hc : c < n) (v : Val) : isC (cutVal n v) c = isC v c := by
  cases v with
  | int m => rfl
  | non => rfl
  | obj S => simp [isC, cutVal, hc]
theorem cut_valL {W : FW} {f : Fact} (hf : nodeOkB W f = true) (hl : leafP f = true) (v : Val) : valL f (cutVal (3 + W.parents.length) v) = valL f v := by
  by_cases h2 : f.op = 2
  · rw [valL_is h2, valL_is h2]
    refine cut_isC ?_ v
    simp only [nodeOkB, Bool.and_eq_true] at hf
    have h3 := hf.2
    rw [if_pos hl, Bool.and_eq_true, leafOkP, if_pos h2] at h3
    simp only [Bool.and_eq_true, classP, decide_eq_true_eq] at h3
    omega
  · rw [valL_no h2, valL_no h2]
    cases v <;> rfl
theorem ev_congr {W : FW} {V V' : VM} (h : ∀ f, nodeOkB W f = true → leafP f = true → evL V' f = evL V f) : ∀ f : Fact, wfB W f = true → ev V' f = ev V f := by
  refine Fact.ind1 fun f ih hf => ?_
  have hk := (wfB_iff.1 hf).2
  have hn := (wfB_iff.1 hf).1
  have hok := wf_ok f hf
  by_cases hl : leafP f = true
  · rw [ev_leaf hl, ev_leaf hl, h f hn hl]
  by_cases h1 : f.op = 1
  · rw [ev_true h1, ev_true h1]
  by_cases h5 : f.op = 5
  · have := kids_one hok h5
    rw [ev_not h5 (by omega), ev_not h5 (by omega), ih _ (getD_mem (by omega)) (hk _ (getD_mem (by omega)))]
  have hlf' : leafP f = false := by simpa using hl
  have h2 := kids_two hok h1 h5 hlf'
  have h67 : f.op = 6 ∨ f.op = 7 := by
    simp only [nodeOkB, Bool.and_eq_true, decide_eq_true_eq] at hn
    simp only [leafP, Bool.and_eq_false_iff, decide_eq_false_iff_not] at hlf'
    omega
  have e0 := ih _ (getD_mem (l := f.kids) (k := 0) (by omega)) (hk _ (getD_mem (by omega)))
  have e1 := ih _ (getD_mem (l := f.kids) (k := 1) (by omega)) (hk _ (getD_mem (by omega)))
  rcases h67 with e | e
  · rw [ev_and e (by omega), ev_and e (by omega), e0, e1]
  · rw [ev_or e (by omega), ev_or e (by omega), e0, e1]
theorem BigW.cut_ok {W W' : FW} (h : BigW W W') {V : VM} (hV : VOk W' V) : VOk W (cutV (3 + W.parents.length) V) := by
  have hnp := h.np
  have hno := h.no
  refine ⟨fun a h0 h3 => by rw [cutV, Option.isSome_map]; exact hV.root a h0 h3, fun a p n hv => ?_, fun a p S hv => ?_, fun a p s h0 h1 => ?_⟩
  · obtain ⟨v, h1, h2⟩ := Option.map_eq_some_iff.1 hv
    cases v with
    | int m => cases h2; exact hV.int a p _ h1
    | non => cases h2
    | obj S => cases h2
  · obtain ⟨v, h1, h2⟩ := Option.map_eq_some_iff.1 hv
    cases v with
    | int m => cases h2
    | non => cases h2
    | obj S' =>
      cases h2
      obtain ⟨a1, a2, a3, a4⟩ := hV.obj a p S' h1
      refine ⟨by simp [a1]; omega, by simp [a2], by simp [a3], fun c hc hS b hub => ?_⟩
      simp only [Bool.and_eq_true, decide_eq_true_eq] at hS ⊢
      have hb := upB_le h.ok c c (Nat.le_refl _) hc b hub
      refine ⟨a4 c (by omega) hS.1 b ?_, by omega⟩
      rw [h.up c c (Nat.le_refl _) hc]; exact hub
  · rw [cutV, cutV, Option.isSome_map, hV.step a p s h0 (by omega)]
    have ho := owner_rng h.ok ⟨h0, h1⟩
    rw [h.own_at ⟨h0, h1⟩]
    constructor
    · rintro ⟨S, hS, hSo⟩
      refine ⟨_, by rw [hS]; rfl, ?_⟩
      simp only [Bool.and_eq_true, decide_eq_true_eq]
      exact ⟨hSo, by rw [ownerN]; omega⟩
    · rintro ⟨S, hS, hSo⟩
      obtain ⟨v, h2, h3⟩ := Option.map_eq_some_iff.1 hS
      cases v with
      | int m => cases h3
      | non => cases h3
      | obj S' =>
        cases h3
        simp only [Bool.and_eq_true] at hSo
        exact ⟨S', h2, hSo.1⟩
def oldB (W : FW) (p : List Int) : Bool := p.all fun s => decide (0 ≤ s) && decide (s < W.owner.length)
def extV (W W' : FW) (V : VM) : VM := fun a p =>
  if oldB W p = true then V a p
  else match p.getLast? with
    | none => none
    | some s => if oldB W p.dropLast = true ∧ 0 ≤ s ∧ s < W'.owner.length then (match V a p.dropLast with | some (.obj S) => if (S (ownerN W' s) && decide (ownerN W' s < 3 + W.parents.length)) = true then some .non else none | _ => none) else none
theorem cut_old {W W' : FW} (h : BigW W W') {V : VM} (hV : VOk W V) : VOk W (cutV (3 + W.parents.length) V) := BigW.cut_ok ⟨h.ok, h.ok, List.prefix_refl _, List.prefix_refl _⟩ hV
theorem ext_ok {W W' : FW} (h : BigW W W') {V : VM} (hV : VOk W V) (hcut : ∀ a p S, V a p = some (.obj S) → ∀ c, S c = true → c < 3 + W.parents.length) : VOk W' (extV W W' V) := by
  have hnp := h.np
  have hno := h.no
  have old : ∀ a p, oldB W p = true → extV W W' V a p = V a p := fun a p hp => by rw [extV, if_pos hp]
  have new : ∀ a p v, oldB W p = false → extV W W' V a p = some v → v = .non := fun a p v hp hv => by
    rw [extV, if_neg (by rw [hp]; simp)] at hv
    split at hv
    · cases hv
    · split at hv
      · split at hv
        · split at hv
          · exact (Option.some.inj hv).symm
          · cases hv
        · cases hv
      · cases hv
  refine ⟨fun a h0 h3 => by rw [old a [] rfl]; exact hV.root a h0 h3, fun a p n hv => ?_, fun a p S hv => ?_, fun a p s h0 h1 => ?_⟩
  · cases ho : oldB W p with
    | true => rw [old a p ho] at hv; exact hV.int a p n hv
    | false => cases new a p _ ho hv
  · cases ho : oldB W p with
    | true =>
      rw [old a p ho] at hv
      obtain ⟨a1, a2, a3, a4⟩ := hV.obj a p S hv
      refine ⟨a1, a2, a3, fun c hc hS b hub => ?_⟩
      have hcl := hcut a p S hv c hS
      rw [h.up c c (Nat.le_refl _) hcl] at hub
      exact a4 c hcl hS b hub
    | false => cases new a p _ ho hv
  · cases ho : oldB W p with
    | true =>
      rw [old a p ho]
      by_cases hs : s < W.owner.length
      · rw [old a (p ++ [s]) (by rw [oldB, List.all_append, ← oldB, ho]; simp [h0, hs]), hV.step a p s h0 hs, h.own_at ⟨h0, hs⟩]
      · have hn : oldB W (p ++ [s]) = false := by rw [oldB, List.all_append, ← oldB, ho]; simp; omega
        rw [extV, if_neg (by rw [hn]; simp), List.getLast?_concat, List.dropLast_concat]
        simp only []
        rw [if_pos ⟨ho, h0, h1⟩]
        cases hv : V a p with
        | none => simp
        | some v =>
          cases v with
          | int m => simp
          | non => simp
          | obj S =>
            simp only []
            constructor
            · intro hh
              split at hh
              · rename_i hc
                rw [Bool.and_eq_true] at hc
                exact ⟨S, rfl, hc.1⟩
              · cases hh
            · rintro ⟨S', e, hS⟩
              cases e
              rw [if_pos (by rw [hS, decide_eq_true (hcut a p S hv _ hS)]; rfl)]; rfl
    | false =>
      have hn : oldB W (p ++ [s]) = false := by rw [oldB, List.all_append, ← oldB, ho]; rfl
      have e1 : extV W W' V a (p ++ [s]) = none := by
        rw [extV, if_neg (by rw [hn]; simp), List.getLast?_concat, List.dropLast_concat]
        simp only []
        rw [if_neg (by rw [ho]; simp)]
      rw [e1]
      constructor
      · intro hh; cases hh
      · rintro ⟨S, hS, _⟩
        cases new a p _ ho hS
theorem leaf_old {W : FW} {f : Fact} (hf : nodeOkB W f = true) (hl : leafP f = true) : oldB W f.path = true := by
  simp only [nodeOkB, Bool.and_eq_true] at hf
  have h3 := hf.2
  rw [if_pos hl] at h3
  simp only [Bool.and_eq_true, argP, pathP, Bool.not_eq_true', Bool.or_eq_false_iff, Bool.not_eq_false'] at h3
  exact h3.1.2.2
theorem BigW.can {W W' : FW} (h : BigW W W') {f : Fact} (hf : wfB W f = true) : canC W' f = canC W f := by
  rw [Bool.eq_iff_iff, can_sem h.ok' (h.wf f hf), can_sem h.ok hf]
  constructor
  · rintro ⟨V, hV, he⟩
    refine ⟨_, h.cut_ok hV, ?_⟩
    rw [← he]
    refine ev_congr (W := W) (fun f hf hl => ?_) f hf
    rw [evL, evL, cutV]
    cases V f.arg f.path with
    | none => rfl
    | some v => exact cut_valL hf hl v
  · rintro ⟨V, hV, he⟩
    have h1 := cut_old h hV
    refine ⟨_, ext_ok h h1 (fun a p S hS c hc => ?_), ?_⟩
    · obtain ⟨v, e1, e2⟩ := Option.map_eq_some_iff.1 hS
      cases v with
      | int m => cases e2
      | non => cases e2
      | obj S' =>
        cases e2
        simp only [Bool.and_eq_true, decide_eq_true_eq] at hc
        exact hc.2
    · rw [← he]
      refine ev_congr (W := W) (fun f hf hl => ?_) f hf
      rw [evL, evL, extV, if_pos (leaf_old hf hl), cutV]
      cases V f.arg f.path with
      | none => rfl
      | some v => exact cut_valL hf hl v
theorem BigW.imp {W W' : FW} (h : BigW W W') {a b : Fact} (ha : wfB W a = true) (hb : wfB W b = true) : impC W' a b = impC W a b := by
  rw [impC, impC, h.can (wf_and ha (wf_not hb))]
end Go.Proofs.YtiljpbljebfhnaaGreat

set_option linter.unusedVariables false
set_option linter.unusedSimpArgs false
set_option maxRecDepth 10000
namespace Go.Proofs.YtiljpbljebfhnaaGreat
open Go.Eng
open Go.Eng.Fc
end Go.Proofs.YtiljpbljebfhnaaGreat

set_option linter.unusedVariables false
set_option linter.unusedSimpArgs false
set_option maxRecDepth 10000
namespace Go.Proofs.YtiljpbljebfhnaaGreat
open Go.Eng
open Go.Eng.Fc
open Go.ChangeShapes
section
variable {H : Type} {enc : TypeId × Value → H} {w : World} {base : Nat} {spare : Nat → Bool} {held : Bool}
end
section
variable {H : Type} {enc : TypeId × Value → H} {w : World} {v : Value} {d : DataW H} {ps : List MemPlace} {base base' : Nat} {r : Reach}
end
end Go.Proofs.YtiljpbljebfhnaaGreat

set_option linter.unusedVariables false
set_option linter.unusedSimpArgs false
set_option maxRecDepth 10000
namespace Go.Proofs.YtiljpbljebfhnaaGreat
open Go.Eng
open Go.Eng.Fc
theorem kid_le : ∀ {l : List Fact} {k : Fact}, k ∈ l → nodesN k ≤ nodesNs l
  | x :: r, k, hk => by
    rw [nodesNs]
    rcases List.mem_cons.1 hk with rfl | hk
    · omega
    · have := kid_le hk; omega
end Go.Proofs.YtiljpbljebfhnaaGreat

set_option linter.unusedVariables false
set_option linter.unusedSimpArgs false
set_option maxRecDepth 10000
namespace Go.Proofs.YtiljpbljebfhnaaGreat
open Go.Eng
open Go.Eng.Fc
/-! ### weights that no step makes greater -/
mutual
def w2F : Fact → Nat
  | .mk op arg path cls n kids => (if 2 ≤ op ∧ op ≤ 4 then 2 else 1) + w2Fs kids
def w2Fs : List Fact → Nat
  | [] => 0
  | k :: r => w2F k + w2Fs r
end
theorem w2F_eq (f : Fact) : w2F f = (if 2 ≤ f.op ∧ f.op ≤ 4 then 2 else 1) + w2Fs f.kids := by cases f; rw [w2F]; rfl
theorem puts2_out (y : Fact) : ∀ (l : List Fact) (i : Int), (i < 0 ∨ (nodesNs l : Int) ≤ i) → w2Fs (putsF y l i) = w2Fs l ∧ (putsF y l i).length = l.length := by
  have key : ∀ f : Fact, ∀ i : Int, (i < 0 ∨ (nodesN f : Int) ≤ i) → w2F (putF y f i) = w2F f := by
    refine Fact.ind1 fun f ih i hi => ?_
    have h0 : ¬ i = 0 := by have := nodesN_eq f; omega
    rw [putF_ne h0, w2F_eq, w2F_eq f]
    have hl : ∀ (l : List Fact) (j : Int), (∀ k ∈ l, k ∈ f.kids) → (j < 0 ∨ (nodesNs l : Int) ≤ j) → w2Fs (putsF y l j) = w2Fs l := by
      intro l
      induction l with
      | nil => intro j _ _; rw [putsF]
      | cons x r ihr =>
        intro j hm hj
        rw [putsF, w2Fs, w2Fs]
        rw [nodesNs] at hj
        rw [ih x (hm x (.head _)) j (by omega), ihr (j - nodesN x) (fun k hk => hm k (.tail _ hk)) (by omega)]
    show (if 2 ≤ f.op ∧ f.op ≤ 4 then 2 else 1) + w2Fs (putsF y f.kids (i - 1)) = _
    rw [hl f.kids (i - 1) (fun _ h => h) (by rw [nodesN_eq] at hi; omega)]
  intro l
  induction l with
  | nil => intro i _; rw [putsF]; exact ⟨rfl, rfl⟩
  | cons x r ihr =>
    intro i hi
    rw [nodesNs] at hi
    rw [putsF, w2Fs, w2Fs, List.length_cons, List.length_cons]
    have := ihr (i - nodesN x) (by omega)
    rw [key x i (by omega), this.1, this.2]
    exact ⟨rfl, rfl⟩
theorem putF_w2 (y : Fact) : ∀ f : Fact, ∀ i : Nat, ∀ x, (nodesL f)[i]? = some x → w2F (putF y f i) + w2F x = w2F f + w2F y := by
  refine Fact.ind1 fun f ih i x hx => ?_
  cases i with
  | zero =>
    rw [nodesL_eq] at hx
    simp at hx; subst hx
    rw [show ((0 : Nat) : Int) = 0 from rfl, putF_zero]; omega
  | succ i =>
    rw [nodesL_eq, ← nodesLs_flat] at hx
    simp at hx
    rw [putF_ne (by omega), w2F_eq, w2F_eq f]
    have hl : ∀ (l : List Fact) (j : Nat), (∀ k ∈ l, k ∈ f.kids) → (nodesLs l)[j]? = some x → w2Fs (putsF y l j) + w2F x = w2Fs l + w2F y := by
      intro l
      induction l with
      | nil => intro j _ h; simp [nodesLs] at h
      | cons k r ihr =>
        intro j hm h
        rw [nodesLs] at h
        rw [putsF, w2Fs, w2Fs]
        have hlk := nodesL_len k
        by_cases hj : j < nodesN k
        · rw [List.getElem?_append_left (by omega)] at h
          have h1 := ih k (hm k (.head _)) j x h
          have h2 := (puts2_out y r (j - nodesN k) (by omega)).1
          rw [h2]; omega
        · rw [List.getElem?_append_right (by omega), hlk] at h
          have h1 := ihr (j - nodesN k) (fun q hq => hm q (.tail _ hq)) h
          have h2 := (puts2_out y [k] j (by right; simp [nodesNs]; omega)).1
          rw [putsF, w2Fs, putsF, w2Fs, w2Fs, w2Fs] at h2
          rw [show ((j : Int) - nodesN k) = ((j - nodesN k : Nat) : Int) by omega]
          omega
    show (if 2 ≤ f.op ∧ f.op ≤ 4 then 2 else 1) + w2Fs (putsF y f.kids (((i + 1 : Nat) : Int) - 1)) + w2F x = _
    rw [show (((i + 1 : Nat) : Int) - 1) = (i : Int) by omega]
    have := hl f.kids i (fun _ h => h) hx
    omega

theorem kid_w2 {x k : Fact} (h : k ∈ x.kids) : w2F k < w2F x := by
  have : ∀ l : List Fact, k ∈ l → w2F k ≤ w2Fs l := by
    intro l
    induction l with
    | nil => intro h; cases h
    | cons y r ih => intro h; rw [w2Fs]; rcases List.mem_cons.1 h with rfl | h; omega; have := ih h; omega
  have := this x.kids h
  rw [w2F_eq x]; split <;> omega
theorem cand_w2 {W : FW} {x y : Fact} (h : wfB W x = true) (hy : y ∈ candsP x) : w2F y ≤ w2F x := by
  obtain ⟨hn, hk⟩ := wfB_iff.1 h
  rcases List.mem_append.1 hy with hy | hy
  · have h1 : ¬ x.op = 1 := fun e => by rw [prefP, if_pos e] at hy; cases hy
    have hy2 : w2F y ≤ 2 := by
      rw [prefP, if_neg h1] at hy
      split at hy
      · simp at hy; subst hy; decide
      · simp at hy; rcases hy with rfl | rfl <;> decide
    have hx2 : 2 ≤ w2F x := by
      rw [w2F_eq]
      by_cases hl : 2 ≤ x.op ∧ x.op ≤ 4
      · rw [if_pos hl]; omega
      · rw [if_neg hl]
        simp only [nodeOkB, Bool.and_eq_true, decide_eq_true_eq, beq_iff_eq] at hn
        have hlen : 1 ≤ x.kids.length := by have := hn.1.2; unfold kidsP at this; split at this <;> (try split at this) <;> omega
        obtain ⟨q, r, hq⟩ := List.exists_cons_of_ne_nil (l := x.kids) (fun e => by rw [e] at hlen; simp at hlen)
        rw [hq, w2Fs, w2F_eq q]; split <;> omega
    omega
  · have := kid_w2 hy; omega
theorem step_w2 {W : FW} {f g : Fact} (hf : wfB W f = true) (h : stepF2 W f = some g) : wfB W g = true ∧ wtF g < wtF f ∧ w2F g ≤ w2F f := by
  rw [stepF2, stepL2] at h
  obtain ⟨p, hp, h⟩ := List.exists_of_findSome?_eq_some h
  have hx : (nodesL f)[p.2]? = some p.1 := List.mem_zipIdx_iff_getElem?.1 hp
  have hwx := wf_nodes f hf p.1 (List.mem_of_getElem? hx)
  have hm := List.mem_of_find?_eq_some h
  obtain ⟨y, hy, rfl⟩ := List.mem_map.1 hm
  have h1 := cand_ok hwx hy
  have h2 := putF_wt y f p.2 p.1 hx
  have h3 := putF_w2 y f p.2 p.1 hx
  have h4 := cand_w2 hwx hy
  exact ⟨wf_put h1.1 f hf _, by omega, by omega⟩
end Go.Proofs.YtiljpbljebfhnaaGreat

set_option linter.unusedVariables false
set_option linter.unusedSimpArgs false
set_option maxRecDepth 10000
namespace Go.Proofs.YtiljpbljebfhnaaGreat
open Go.Eng
open Go.Eng.Fc
theorem short2_none {W : FW} {f : Fact} (h : stepF2 W f = none) : shortF2 W f = f := by
  rw [shortF2]
  cases hn : wtF f with
  | zero => rfl
  | succ n => rw [shortN2, h]
theorem short_c {W : FW} (hw : worldP W = true) {f : Fact} (h : goodP W [f] = true) : shortF W f = shortF2 W f := by
  have hf := good_f h (.head _)
  exact short_eq hw hf.1 (Nat.le_trans (wt_nodes f) (by omega))
theorem p27c {W : FW} {f : Fact} (h : goodP W [f] = true) : PCall Tryz.prog 27 [AV.world W, AV.fact f] (.tup [AV.fact (shortF2 W f), .i 0]) := by
  have := p27g h
  rwa [short_c (good_w h) h] at this
def zeroF : Fact := .mk 0 0 [] 0 0 []
theorem zero_le : AVleL [.i 0, .i 0, .val (.slice none 0 0), .i 0, .i 0, .val (.slice none 0 0)] (Fcells zeroF) := nilFact_le 0
end Go.Proofs.YtiljpbljebfhnaaGreat

set_option linter.unusedVariables false
set_option linter.unusedSimpArgs false
set_option maxRecDepth 10000
namespace Go.Proofs.YtiljpbljebfhnaaGreat
open Go.Eng
open Go.Eng.Fc
/-! ### nodes, without those that are FactTrue -/
mutual
def n1F : Fact → Nat
  | .mk op arg path cls n kids => (if op = 1 then 0 else 1) + n1Fs kids
def n1Fs : List Fact → Nat
  | [] => 0
  | k :: r => n1F k + n1Fs r
end
theorem n1F_eq (f : Fact) : n1F f = (if f.op = 1 then 0 else 1) + n1Fs f.kids := by cases f; rw [n1F]; rfl
mutual
theorem n1_nodes : ∀ f : Fact, n1F f ≤ nodesN f ∧ ((∀ x ∈ nodesL f, ¬ x.op = 1) → n1F f = nodesN f)
  | .mk op arg path cls n kids => by
    have h := n1_nodess kids
    rw [nodesN, n1F, nodesL]
    refine ⟨by split <;> omega, fun hh => ?_⟩
    have h1 : ¬ op = 1 := hh _ (.head _)
    rw [if_neg h1, h.2 fun x hx => hh x (.tail _ hx)]
theorem n1_nodess : ∀ l : List Fact, n1Fs l ≤ nodesNs l ∧ ((∀ x ∈ nodesLs l, ¬ x.op = 1) → n1Fs l = nodesNs l)
  | [] => by rw [nodesNs, n1Fs]; exact ⟨Nat.le_refl _, fun _ => rfl⟩
  | k :: r => by
    have h1 := n1_nodes k
    have h2 := n1_nodess r
    rw [nodesNs, n1Fs, nodesLs]
    refine ⟨by omega, fun hh => ?_⟩
    rw [h1.2 fun x hx => hh x (List.mem_append_left _ hx), h2.2 fun x hx => hh x (List.mem_append_right _ hx)]
end
theorem putsn1_out (y : Fact) : ∀ (l : List Fact) (i : Int), (i < 0 ∨ (nodesNs l : Int) ≤ i) → n1Fs (putsF y l i) = n1Fs l ∧ (putsF y l i).length = l.length := by
  have key : ∀ f : Fact, ∀ i : Int, (i < 0 ∨ (nodesN f : Int) ≤ i) → n1F (putF y f i) = n1F f := by
    refine Fact.ind1 fun f ih i hi => ?_
    have h0 : ¬ i = 0 := by have := nodesN_eq f; omega
    rw [putF_ne h0, n1F_eq, n1F_eq f]
    have hl : ∀ (l : List Fact) (j : Int), (∀ k ∈ l, k ∈ f.kids) → (j < 0 ∨ (nodesNs l : Int) ≤ j) → n1Fs (putsF y l j) = n1Fs l := by
      intro l
      induction l with
      | nil => intro j _ _; rw [putsF]
      | cons x r ihr =>
        intro j hm hj
        rw [putsF, n1Fs, n1Fs]
        rw [nodesNs] at hj
        rw [ih x (hm x (.head _)) j (by omega), ihr (j - nodesN x) (fun k hk => hm k (.tail _ hk)) (by omega)]
    show (if f.op = 1 then 0 else 1) + n1Fs (putsF y f.kids (i - 1)) = _
    rw [hl f.kids (i - 1) (fun _ h => h) (by rw [nodesN_eq] at hi; omega)]
  intro l
  induction l with
  | nil => intro i _; rw [putsF]; exact ⟨rfl, rfl⟩
  | cons x r ihr =>
    intro i hi
    rw [nodesNs] at hi
    rw [putsF, n1Fs, n1Fs, List.length_cons, List.length_cons]
    have := ihr (i - nodesN x) (by omega)
    rw [key x i (by omega), this.1, this.2]
    exact ⟨rfl, rfl⟩
theorem putF_n1 (y : Fact) : ∀ f : Fact, ∀ i : Nat, ∀ x, (nodesL f)[i]? = some x → n1F (putF y f i) + n1F x = n1F f + n1F y := by
  refine Fact.ind1 fun f ih i x hx => ?_
  cases i with
  | zero =>
    rw [nodesL_eq] at hx
    simp at hx; subst hx
    rw [show ((0 : Nat) : Int) = 0 from rfl, putF_zero]; omega
  | succ i =>
    rw [nodesL_eq, ← nodesLs_flat] at hx
    simp at hx
    rw [putF_ne (by omega), n1F_eq, n1F_eq f]
    have hl : ∀ (l : List Fact) (j : Nat), (∀ k ∈ l, k ∈ f.kids) → (nodesLs l)[j]? = some x → n1Fs (putsF y l j) + n1F x = n1Fs l + n1F y := by
      intro l
      induction l with
      | nil => intro j _ h; simp [nodesLs] at h
      | cons k r ihr =>
        intro j hm h
        rw [nodesLs] at h
        rw [putsF, n1Fs, n1Fs]
        have hlk := nodesL_len k
        by_cases hj : j < nodesN k
        · rw [List.getElem?_append_left (by omega)] at h
          have h1 := ih k (hm k (.head _)) j x h
          have h2 := (putsn1_out y r (j - nodesN k) (by omega)).1
          rw [h2]; omega
        · rw [List.getElem?_append_right (by omega), hlk] at h
          have h1 := ihr (j - nodesN k) (fun q hq => hm q (.tail _ hq)) h
          have h2 := (putsn1_out y [k] j (by right; simp [nodesNs]; omega)).1
          rw [putsF, n1Fs, putsF, n1Fs, n1Fs, n1Fs] at h2
          rw [show ((j : Int) - nodesN k) = ((j - nodesN k : Nat) : Int) by omega]
          omega
    show (if f.op = 1 then 0 else 1) + n1Fs (putsF y f.kids (((i + 1 : Nat) : Int) - 1)) + n1F x = _
    rw [show (((i + 1 : Nat) : Int) - 1) = (i : Int) by omega]
    have := hl f.kids i (fun _ h => h) hx
    omega

theorem kid_n1 {x k : Fact} (h : k ∈ x.kids) : n1F k ≤ n1F x := by
  have : ∀ l : List Fact, k ∈ l → n1F k ≤ n1Fs l := by
    intro l
    induction l with
    | nil => intro h; cases h
    | cons y r ih => intro h; rw [n1Fs]; rcases List.mem_cons.1 h with rfl | h; omega; have := ih h; omega
  have := this x.kids h
  rw [n1F_eq x]; split <;> omega
theorem cand_n1 {x y : Fact} (hy : y ∈ candsP x) : n1F y ≤ n1F x := by
  rcases List.mem_append.1 hy with hy | hy
  · have h1 : ¬ x.op = 1 := fun e => by rw [prefP, if_pos e] at hy; cases hy
    have hy2 : n1F y ≤ 1 := by
      rw [prefP, if_neg h1] at hy
      split at hy
      · simp at hy; subst hy; decide
      · simp at hy; rcases hy with rfl | rfl <;> decide
    rw [n1F_eq x, if_neg h1]; omega
  · exact kid_n1 hy
theorem put_out (y : Fact) : ∀ f : Fact, ∀ i : Int, (i < 0 ∨ (nodesN f : Int) ≤ i) → putF y f i = f := by
  refine Fact.ind1 fun f ih i hi => ?_
  have hn := nodesN_eq f
  rw [putF_ne (by omega)]
  have key : ∀ (l : List Fact) (j : Int), (∀ k ∈ l, k ∈ f.kids) → (j < 0 ∨ (nodesNs l : Int) ≤ j) → putsF y l j = l := by
    intro l
    induction l with
    | nil => intro j _ _; rw [putsF]
    | cons k r ihr =>
      intro j hm hj
      rw [nodesNs] at hj
      rw [putsF, ih k (hm k (.head _)) j (by omega), ihr _ (fun q hq => hm q (.tail _ hq)) (by omega)]
  rw [key f.kids _ (fun _ h => h) (by omega)]
  exact Fact.ext' rfl rfl rfl rfl rfl rfl
theorem puts_out (y : Fact) : ∀ (l : List Fact) (i : Int), (i < 0 ∨ (nodesNs l : Int) ≤ i) → putsF y l i = l
  | [], i, _ => by rw [putsF]
  | k :: r, i, h => by
    rw [nodesNs] at h
    rw [putsF, put_out y k i (by omega), puts_out y r _ (by omega)]
/-- what is so of a node that is replaced goes up to the whole -/
theorem put_up (y x : Fact) (R : Fact → Fact → Prop) (hr : ∀ f, R f f) (hxy : R y x) (hup : ∀ (f : Fact) (a b : List Fact) (k k' : Fact), f.kids = a ++ k :: b → R k' k → R (.mk f.op f.arg f.path f.cls f.n (a ++ k' :: b)) f) :
    ∀ f : Fact, ∀ i : Nat, (nodesL f)[i]? = some x → R (putF y f i) f := by
  refine Fact.ind1 fun f ih i hx => ?_
  cases i with
  | zero =>
    rw [nodesL_eq] at hx
    simp at hx; subst hx
    rw [show ((0 : Nat) : Int) = 0 from rfl, putF_zero]; exact hxy
  | succ i =>
    rw [nodesL_eq, ← nodesLs_flat] at hx
    simp at hx
    rw [putF_ne (by omega)]
    have hl : ∀ (l : List Fact) (j : Nat), (∀ k ∈ l, k ∈ f.kids) → (nodesLs l)[j]? = some x → ∃ a k b k', l = a ++ k :: b ∧ putsF y l j = a ++ k' :: b ∧ R k' k := by
      intro l
      induction l with
      | nil => intro j _ h; simp [nodesLs] at h
      | cons k r ihr =>
        intro j hm h
        rw [nodesLs] at h
        rw [putsF]
        have hlk := nodesL_len k
        by_cases hj : j < nodesN k
        · rw [List.getElem?_append_left (by omega)] at h
          exact ⟨[], k, r, _, rfl, by rw [puts_out y r _ (by omega)]; rfl, ih k (hm k (.head _)) j h⟩
        · rw [List.getElem?_append_right (by omega), hlk] at h
          obtain ⟨a, q, b, q', e1, e2, e3⟩ := ihr (j - nodesN k) (fun q hq => hm q (.tail _ hq)) h
          refine ⟨k :: a, q, b, q', by rw [e1]; rfl, ?_, e3⟩
          rw [put_out y k j (by omega), show ((j : Int) - nodesN k) = ((j - nodesN k : Nat) : Int) by omega, e2]; rfl
    obtain ⟨a, k, b, k', e1, e2, e3⟩ := hl f.kids i (fun _ h => h) hx
    rw [show (((i + 1 : Nat) : Int) - 1) = (i : Int) by omega, e2]
    exact hup f a b k k' e1 e3
theorem evs_up (V : VM) (a b : List Fact) {k k' : Fact} (h : ev V k' = ev V k) : evs V (a ++ k' :: b) = evs V (a ++ k :: b) := by
  induction a with
  | nil => show evs V (k' :: b) = evs V (k :: b); rw [evs, evs, h]
  | cons x a ih => show evs V (x :: (a ++ k' :: b)) = evs V (x :: (a ++ k :: b)); rw [evs, evs, ih]
theorem put_ev {V : VM} {y x f : Fact} (h : ev V y = ev V x) {i : Nat} (hx : (nodesL f)[i]? = some x) : ev V (putF y f i) = ev V f :=
  put_up y x (fun a b => ev V a = ev V b) (fun _ => rfl) h (fun f a b k k' e h => by
    cases f
    simp only [Fact.op, Fact.arg, Fact.path, Fact.cls, Fact.n, Fact.kids] at e ⊢
    rw [ev, ev, e, evs_up V a b h]; rfl) f i hx
end Go.Proofs.YtiljpbljebfhnaaGreat

set_option linter.unusedVariables false
set_option linter.unusedSimpArgs false
set_option maxRecDepth 10000
namespace Go.Proofs.YtiljpbljebfhnaaGreat
open Go.Eng
open Go.Eng.Fc
/-- a model where only none stands -/
def voidV : VM := fun a p => if 0 ≤ a ∧ a < 3 ∧ p = [] then some .non else none
theorem void_ok (W : FW) : VOk W voidV := by
  refine ⟨fun a h0 h3 => by rw [voidV, if_pos ⟨h0, h3, rfl⟩]; rfl, fun a p n h => ?_, fun a p S h => ?_, fun a p s h0 h1 => ?_⟩
  · rw [voidV] at h; split at h <;> cases h
  · rw [voidV] at h; split at h <;> cases h
  · constructor
    · intro h
      rw [voidV, if_neg (by simp)] at h; cases h
    · rintro ⟨S, h, _⟩
      rw [voidV] at h; split at h <;> cases h
theorem ev_trueF (V : VM) : ev V trueF = true := ev_true rfl
theorem ev_noF (V : VM) : ev V noF = false := by rw [ev_notF, ev_trueF]; rfl
theorem step_ne {W : FW} (hW : worldP W = true) {g : Fact} (hg : wfB W g = true) {x y : Fact} (hx : x ∈ nodesL g) (hy : y ∈ candsP x) (he : ∀ V, VOk W V → ev V y = ev V x) : stepF2 W g ≠ none := by
  intro hn
  obtain ⟨i, hi⟩ := List.getElem?_of_mem hx
  have hwx := wf_nodes g hg x hx
  have hwy := (cand_ok hwx hy).1
  have hwp := wf_put hwy g hg i
  rw [stepF2, stepL2, List.findSome?_eq_none_iff] at hn
  have h1 := hn (x, i) (List.mem_zipIdx_iff_getElem?.2 hi)
  rw [stepAt2, List.find?_eq_none] at h1
  refine h1 _ (List.mem_map_of_mem hy) ?_
  rw [goodG2, Bool.and_eq_true]
  exact ⟨(imp_sem hW hg hwp).2 fun V hV h => by rw [put_ev (he V hV) hi]; exact h, (imp_sem hW hwp hg).2 fun V hV h => by rw [put_ev (he V hV) hi] at h; exact h⟩
theorem parent_of {x : Fact} : ∀ g : Fact, x ∈ nodesL g → x ≠ g → ∃ p ∈ nodesL g, x ∈ p.kids := by
  refine Fact.ind1 fun g ih hx hne => ?_
  rw [nodesL_eq] at hx
  rcases List.mem_cons.1 hx with h | hx
  · exact absurd h hne
  · obtain ⟨k, hk, hx⟩ := List.mem_flatMap.1 hx
    by_cases e : x = k
    · exact ⟨g, by rw [nodesL_eq]; exact .head _, e ▸ hk⟩
    · obtain ⟨p, hp, h⟩ := ih k hk hx e
      exact ⟨p, by rw [nodesL_eq]; exact .tail _ (List.mem_flatMap.2 ⟨k, hk, hp⟩), h⟩
/-- the shape of a node with kids -/
theorem shape567 {W : FW} {p k : Fact} (hp : wfB W p = true) (hk : k ∈ p.kids) : (p = notF k) ∨ (∃ q, p = andF k q ∨ p = andF q k ∨ p = orF k q ∨ p = orF q k) := by
  have hn := (wfB_iff.1 hp).1
  simp only [nodeOkB, Bool.and_eq_true, decide_eq_true_eq, beq_iff_eq] at hn
  have hl : ¬ leafP p = true := by
    intro hl
    have h2 := hn.1.2
    simp only [leafP, Bool.and_eq_true, decide_eq_true_eq] at hl
    rw [kidsP, if_neg (by omega), if_neg (by omega)] at h2
    rw [List.eq_nil_of_length_eq_zero (l := p.kids) (by omega)] at hk; cases hk
  have h2 := hn.2
  rw [if_neg hl] at h2
  simp only [plainP, Bool.not_eq_true', Bool.or_eq_false_iff, decide_eq_false_iff_not, bne_eq_false_iff_eq] at h2
  have hpath : p.path = [] := List.eq_nil_of_length_eq_zero (by have := h2.1.1.2; omega)
  have hlen := hn.1.2
  rw [kidsP] at hlen
  by_cases h5 : p.op = 5
  · rw [if_pos h5] at hlen
    obtain ⟨a, ha⟩ := List.length_eq_one_iff.1 (show p.kids.length = 1 by omega)
    rw [ha, List.mem_singleton] at hk
    subst hk
    exact .inl (Fact.ext' h5 h2.1.1.1 hpath h2.1.2 h2.2 ha)
  · rw [if_neg h5] at hlen
    by_cases h6 : p.op = 6 ∨ p.op = 7
    · rw [if_pos h6] at hlen
      obtain ⟨a, b, hab⟩ : ∃ a b, p.kids = [a, b] := by
        match hm : p.kids, (show p.kids.length = 2 by omega) with
        | [a, b], _ => exact ⟨a, b, rfl⟩
      have mk : ∀ op, p.op = op → p = .mk op 0 [] 0 0 [a, b] := fun op e => Fact.ext' e h2.1.1.1 hpath h2.1.2 h2.2 hab
      rw [hab] at hk
      simp only [List.mem_cons, List.not_mem_nil, or_false] at hk
      right
      rcases hk with rfl | rfl
      · refine ⟨b, ?_⟩
        rcases h6 with e | e
        · exact .inl (mk 6 e)
        · exact .inr (.inr (.inl (mk 7 e)))
      · refine ⟨a, ?_⟩
        rcases h6 with e | e
        · exact .inr (.inl (mk 6 e))
        · exact .inr (.inr (.inr (mk 7 e)))
    · rw [if_neg h6] at hlen
      rw [List.eq_nil_of_length_eq_zero (l := p.kids) (by omega)] at hk; cases hk
theorem cand_true {x : Fact} (h : ¬ x.op = 1) : trueF ∈ candsP x := by
  rw [candsP, prefP, if_neg h]
  split <;> simp
theorem cand_no {x : Fact} (h : ¬ x.op = 1) (h2 : x ≠ noF) : noF ∈ candsP x := by
  rw [candsP, prefP, if_neg h, if_neg (by simpa using h2)]; simp
theorem cand_kid {x k : Fact} (h : k ∈ x.kids) : k ∈ candsP x := List.mem_append_right _ h
theorem short_plain {W : FW} (hW : worldP W = true) {g : Fact} (hg : wfB W g = true) (hs : stepF2 W g = none) : g = trueF ∨ g = noF ∨ ∀ x ∈ nodesL g, ¬ x.op = 1 := by
  by_cases h1 : g = trueF
  · exact .inl h1
  by_cases h2 : g = noF
  · exact .inr (.inl h2)
  refine .inr (.inr fun x hx hop => ?_)
  have ex := plain_op1 (wf_nodes g hg x hx) hop
  subst ex
  obtain ⟨p, hp, hk⟩ := parent_of g hx (fun e => h1 e.symm)
  have hwp := wf_nodes g hg p hp
  rcases shape567 hwp hk with rfl | ⟨q, rfl | rfl | rfl | rfl⟩
  · obtain ⟨p2, hp2, hk2⟩ := parent_of g hp (fun e => h2 e.symm)
    have hwp2 := wf_nodes g hg p2 hp2
    rcases shape567 hwp2 hk2 with rfl | ⟨q, rfl | rfl | rfl | rfl⟩
    · exact step_ne hW hg hp2 (cand_true (by simp [notF, Fact.op])) (fun V hV => by rw [ev_notF, ev_noF, ev_trueF]; rfl) hs
    · exact step_ne hW hg hp2 (cand_no (by simp [andF, Fact.op]) (by intro e; simp [andF, notF] at e)) (fun V hV => by rw [ev_andF, ev_noF]; rfl) hs
    · exact step_ne hW hg hp2 (cand_no (by simp [andF, Fact.op]) (by intro e; simp [andF, notF] at e)) (fun V hV => by rw [ev_andF, ev_noF, Bool.and_false]) hs
    · exact step_ne hW hg hp2 (cand_kid (k := q) (by simp [orF, Fact.kids])) (fun V hV => by rw [ev_orF, ev_noF, Bool.false_or]) hs
    · exact step_ne hW hg hp2 (cand_kid (k := q) (by simp [orF, Fact.kids])) (fun V hV => by rw [ev_orF, ev_noF, Bool.or_false]) hs
  · exact step_ne hW hg hp (cand_kid (k := q) (by simp [andF, Fact.kids])) (fun V hV => by rw [ev_andF, ev_trueF, Bool.true_and]) hs
  · exact step_ne hW hg hp (cand_kid (k := q) (by simp [andF, Fact.kids])) (fun V hV => by rw [ev_andF, ev_trueF, Bool.and_true]) hs
  · exact step_ne hW hg hp (cand_true (by simp [orF, Fact.op])) (fun V hV => by rw [ev_orF, ev_trueF]; rfl) hs
  · exact step_ne hW hg hp (cand_true (by simp [orF, Fact.op])) (fun V hV => by rw [ev_orF, ev_trueF, Bool.or_true]) hs
theorem step_inv {W : FW} (hW : worldP W = true) {f g : Fact} (hf : wfB W f = true) (h : stepF2 W f = some g) : wfB W g = true ∧ wtF g < wtF f ∧ n1F g ≤ n1F f ∧ ∀ V, VOk W V → ev V g = ev V f := by
  have h0 := step_w2 hf h
  have h' := h
  rw [stepF2, stepL2] at h
  obtain ⟨p, hp, h⟩ := List.exists_of_findSome?_eq_some h
  have hx : (nodesL f)[p.2]? = some p.1 := List.mem_zipIdx_iff_getElem?.1 hp
  have hm := List.mem_of_find?_eq_some h
  have hgd := List.find?_some h
  obtain ⟨y, hy, rfl⟩ := List.mem_map.1 hm
  have h3 := putF_n1 y f p.2 p.1 hx
  have h4 := cand_n1 hy
  rw [goodG2, Bool.and_eq_true, imp_sem hW hf h0.1, imp_sem hW h0.1 hf] at hgd
  refine ⟨h0.1, h0.2.1, by omega, fun V hV => ?_⟩
  cases h1 : ev V f with
  | true => exact hgd.1 V hV h1
  | false =>
    cases h2 : ev V (putF y f p.2) with
    | false => rfl
    | true => rw [hgd.2 V hV h2] at h1; cases h1
theorem short_inv {W : FW} (hW : worldP W = true) : ∀ (n : Nat) (f : Fact), wfB W f = true → wtF f ≤ n → wfB W (shortN2 W n f) = true ∧ stepF2 W (shortN2 W n f) = none ∧ n1F (shortN2 W n f) ≤ n1F f ∧ ∀ V, VOk W V → ev V (shortN2 W n f) = ev V f
  | 0, f, hf, h => by have := wtF_eq f; split at this <;> omega
  | n + 1, f, hf, h => by
    rw [shortN2]
    cases hs : stepF2 W f with
    | none => exact ⟨hf, hs, Nat.le_refl _, fun _ _ => rfl⟩
    | some g =>
      have hg := step_inv hW hf hs
      obtain ⟨a1, a2, a3, a4⟩ := short_inv hW n g hg.1 (by omega)
      exact ⟨a1, a2, by show n1F (shortN2 W n g) ≤ _; omega, fun V hV => by show ev V (shortN2 W n g) = _; rw [a4 V hV, hg.2.2.2 V hV]⟩
/-- what is known of a fact that is made short -/
structure ShortOk (W : FW) (f g : Fact) : Prop where
  good : goodP W [g] = true
  le : nodesN g ≤ 12
  same : (okImp W (g, f) && okImp W (f, g)) = true
  again : shortF2 W g = g
  cant : canC W f = false → g = noF
  less : canC W f = true → nodesN g ≤ nodesN f
theorem short_ok {W : FW} {f : Fact} (h : goodP W [f] = true) (hn : nodesN f ≤ 12) : ShortOk W f (shortF2 W f) := by
  have hG := good_f1 h
  have hW := hG.1
  obtain ⟨a1, a2, a3, a4⟩ := short_inv hW (wtF f) f hG.2.2.1 (Nat.le_refl _)
  change wfB W (shortF2 W f) = true at a1
  change stepF2 W (shortF2 W f) = none at a2
  change n1F (shortF2 W f) ≤ n1F f at a3
  change ∀ V, VOk W V → ev V (shortF2 W f) = ev V f at a4
  generalize shortF2 W f = g at *
  have hpl := short_plain hW a1 a2
  have hn1 := (n1_nodes f).1
  have hfn := nodesN_eq f
  have ht : nodesN trueF = 1 := rfl
  have h2 : nodesN noF = 2 := rfl
  have hle : nodesN g ≤ 12 := by
    rcases hpl with rfl | rfl | hp
    · omega
    · omega
    · rw [← (n1_nodes g).2 hp]; omega
  have hcan := can_sem hW hG.2.2.1
  refine ⟨?_, hle, ?_, short2_none a2, fun hc => ?_, fun hc => ?_⟩
  · have hd := depth_nodes g
    rw [good1, Bool.and_eq_true, ← formed_eq, a1]
    refine ⟨hW, ?_⟩
    simp; omega
  · rw [Bool.and_eq_true]
    exact ⟨ok_sem fun V hV hh => by rw [← a4 V hV]; exact hh, ok_sem fun V hV hh => by rw [a4 V hV]; exact hh⟩
  · have hno : ∀ V, VOk W V → ev V g = false := fun V hV => by
      rw [a4 V hV]
      cases hh : ev V f with
      | false => rfl
      | true => rw [hcan.2 ⟨V, hV, hh⟩] at hc; cases hc
    refine Classical.byContradiction fun hne => ?_
    have hop : ¬ g.op = 1 := fun e => by
      have h1 := hno _ (void_ok W)
      rw [ev_true e] at h1; cases h1
    exact step_ne hW a1 (by rw [nodesL_eq]; exact .head _) (cand_no hop hne) (fun V hV => by rw [ev_noF, hno V hV]) a2
  · rcases hpl with rfl | rfl | hp
    · omega
    · obtain ⟨V, hV, hh⟩ := hcan.1 hc
      rw [← a4 V hV, ev_noF] at hh; cases hh
    · rw [← (n1_nodes g).2 hp]; omega
theorem p49_step (f : Fact) (hf : nodesN f ≤ 24) (hk2 : f.kids.length ≤ 2) (ih : ∀ k ∈ f.kids, PCall Tryz.prog 49 [AV.fact k] (.i (nodesN k))) : PCall Tryz.prog 49 [AV.fact f] (.i (nodesN f)) := by
  intro H
  refine ACall.mk' (n := 26) Tryz.func49 rfl (by kernel_rfl) rfl rfl (fun B I w0 => ?_)
  have hnf := nodesN_eq f
  refine S2 ?_; refine Obx ?_; refine Oas ?_; refine S4 ?_; refine Oas ?_; refine S5 ?_; refine Ofa ?_; refine Old ?_; refine Ofa ?_; refine Old ?_; refine Oln ?_
  refine OL.popC rfl rfl rfl (POp.min2 (c := ((f.kids.take 3).length : Int)) rfl rfl rfl rfl rfl (by rw [List.length_take]; split <;> omega)) ?_
  refine OL.popC rfl rfl rfl (POp.slMin 3 rfl rfl rfl rfl rfl) ?_
  rw [List.take_of_length_le (l := f.kids) (i := 3) (by omega)]
  refine Oln ?_; refine Omv ?_; refine S3 ?_
  refine lj (fun m st => ∃ j : Nat, st = ⟨[(14, .i j), (13, .i f.kids.length), (12, AV.facts f.kids), (3, .i (1 + nodesNs (f.kids.take j) : Nat))], H⟩ ∧ m = f.kids.length - j ∧ j ≤ f.kids.length) (⟨0, rfl, rfl, by omega⟩) ?_
  rintro m _ ⟨j, rfl, rfl, hj⟩
  refine S2 ?_; refine Ocm ?_; refine S3 ?_
  refine CW.cond rfl (fun h0 => ?_) (fun h0 => ?_)
  ·
    replace h0 := nm h0
    have hjl : j < f.kids.length := by omega
    have hnt := nodesNs_take hjl
    have hle := nodesNs_le (l := f.kids) (j + 1)
    have hkm := getD_mem hjl
    refine S6 ?_; refine Oix ?_; refine Ola ?_
    refine OL.alC rfl rfl rfl rfl (fun b0 => ?_)
    refine Sto ?_; refine S4 ?_; refine Omv ?_; refine Ocm ?_; refine S2 ?_
    refine CW.cond rfl (fun h1 => ?_) (fun h1 => ?_)
    ·
      replace h1 := nm h1
      refine S1 ?_; refine Omv ?_; refine Ola ?_
      refine OL.popC rfl rfl rfl (POp.call (.mk' rfl rfl rfl rfl rfl) (ih _ hkm)) ?_
      refine Oar ?_; refine Oas ?_; refine S3 ?_
      refine CW.le 3 (y := .i (1 + nodesNs (f.kids.take (j + 1)) : Nat)) rfl (AVle.eqI (by omega)) ?_
      refine S1 ?_; refine Oar ?_; refine Omv ?_; refine S1 ?_
      exact ag (⟨j + 1, rfl, rfl, by omega⟩)
    ·
      exfalso
      simp only [decide_eq_false_iff_not] at h1
      omega
  ·
    replace h0 := nm h0
    obtain rfl : j = f.kids.length := by omega
    rw [List.take_length]
    refine S7 ?_; refine Omv ?_; refine Oas ?_; refine S3 ?_
    refine r1 2 (H) ?_
    exact ⟨retI (by omega), rfl⟩
theorem kids_two2 {W : FW} {f : Fact} (h : wfB W f = true) : f.kids.length ≤ 2 := by
  have hn := (wfB_iff.1 h).1
  simp only [nodeOkB, Bool.and_eq_true, decide_eq_true_eq, beq_iff_eq] at hn
  have := hn.1.2
  unfold kidsP at this
  split at this <;> (try split at this) <;> omega
theorem p49 {W : FW} : ∀ f : Fact, wfB W f = true → nodesN f ≤ 24 → PCall Tryz.prog 49 [AV.fact f] (.i (nodesN f)) := Fact.ind1 fun f ih hw hn =>
  p49_step f hn (kids_two2 hw) fun k hk => ih k hk ((wfB_iff.1 hw).2 k hk) (by have := kid_le hk; have := nodesN_eq f; omega)
theorem trueF_le : AVleL [.i 1, .i 0, .val (.slice none 0 0), .i 0, .i 0, .val (.slice none 0 0)] (Fcells trueF) := nilFact_le 1
theorem p9 (g : Gv) : PCall Tryz.prog 9 [AV.given g] (.b true) := by
  intro H
  refine ACall.mk' (n := 98) Tryz.func9 rfl (by kernel_rfl) rfl rfl (fun B I w0 => ?_)
  refine S2 ?_; refine Obx ?_; refine Oas ?_; refine S5 ?_; refine Ofa ?_; refine Ola ?_; refine Ofa ?_; refine Ola ?_
  refine OL.popC rfl rfl rfl (POp.call (.mk' rfl rfl rfl rfl rfl) (p47 g.W g.A)) ?_
  refine Ocm ?_; refine Omv ?_; refine Pfa ?_; refine Pla ?_
  refine OL.guardC rfl rfl rfl rfl rfl rfl (fun hg => POp.call (.mk' rfl rfl rfl rfl (by first | rfl | ((repeat (first | exact hg | rfl | refine Bool.and_eq_true_iff.2 ⟨?_, ?_⟩)); done) | simp_all [strip, constAV])) ((p49 (W := g.W) g.A (good_f1 (by rw [code0] at hg; simpa using hg)).2.2.1 (good_f1 (by rw [code0] at hg; simpa using hg)).2.2.2))) ?_
  refine Pcm ?_; refine Opk ?_; refine S2 ?_
  refine CW.cond rfl (fun h0 => ?_) (fun h0 => ?_)
  ·
    refine S2 ?_
    refine OL.popC rfl rfl rfl (POp.call (.mk' rfl rfl rfl rfl rfl) (p21)) ?_
    refine Oas ?_; refine S4 ?_
    refine r1 2 (H) ?_
    exact ⟨by first | rfl | exact retI (by simp_all) | exact retB (by simp_all) | simp_all, rfl⟩
  ·
    rw [code0] at h0
    have hA : goodP g.W [g.A] = true := by cases h1 : goodP g.W [g.A] <;> simp_all
    have hG := good_f1 hA
    have hn12 : nodesN g.A ≤ 12 := by
      have h5 : (nodesN g.A : Int) ≤ 12 := by simp only [hA] at h0; simpa using h0
      omega
    have hS := short_ok hA hn12
    have hSG := good_f1 hS.good
    refine S4 ?_; refine Ofa ?_; refine Ola ?_; refine Ofa ?_; refine Ola ?_
    refine OL.popC rfl rfl rfl (POp.call (.mk' rfl rfl rfl rfl rfl) (p27c hA)) ?_
    refine Omv ?_; refine Oex ?_; refine Oex ?_
    refine OL.alC rfl rfl rfl rfl (fun b0 => ?_)
    refine Sto ?_; refine Oas ?_; refine S5 ?_; refine Omv ?_; refine Ocm ?_; refine Omv ?_; refine Pfa ?_; refine Pla ?_; refine Pla ?_
    refine OL.guardC rfl rfl rfl rfl rfl rfl (fun hg => POp.call (.mk' rfl rfl rfl rfl (by first | rfl | ((repeat (first | exact hg | rfl | refine Bool.and_eq_true_iff.2 ⟨?_, ?_⟩)); done) | simp_all [strip, constAV])) (p47g hS.good)) ?_
    refine Pcm ?_; refine Opk ?_; refine Omv ?_; refine Pfa ?_; refine Pla ?_; refine Pla ?_; refine Pfa ?_; refine Pla ?_
    refine OL.guardC rfl rfl rfl rfl rfl rfl (fun hg => POp.build' (cs := Pcells ((shortF2 g.W g.A), g.A)) rfl rfl (by first | rfl | ((repeat (first | exact hg | rfl | refine Bool.and_eq_true_iff.2 ⟨?_, ?_⟩)); done) | simp_all [strip, constAV]) (by rfl)) ?_
    refine Pfa ?_; refine Pla ?_; refine Pla ?_
    refine OL.guardC rfl rfl rfl rfl rfl rfl (fun hg => POp.build' (cs := Pcells (g.A, (shortF2 g.W g.A))) rfl rfl (by first | rfl | ((repeat (first | exact hg | rfl | refine Bool.and_eq_true_iff.2 ⟨?_, ?_⟩)); done) | simp_all [strip, constAV]) (by rfl)) ?_
    refine OL.guardC rfl rfl rfl rfl rfl rfl (fun hg => POp.rowK [(_, AV.agg (Pcells ((shortF2 g.W g.A), g.A))), (_, AV.agg (Pcells (g.A, (shortF2 g.W g.A))))] rfl rfl (by first | rfl | ((repeat (first | exact hg | rfl | refine Bool.and_eq_true_iff.2 ⟨?_, ?_⟩)); done) | simp_all [strip, constAV]) rfl rfl rfl rfl rfl) ?_
    refine OL.guardC rfl rfl rfl rfl rfl rfl (fun hg => POp.call (.mk' rfl rfl rfl rfl (by first | rfl | ((repeat (first | exact hg | rfl | refine Bool.and_eq_true_iff.2 ⟨?_, ?_⟩)); done) | simp_all [strip, constAV])) (p48 g.W [((shortF2 g.W g.A), g.A), (g.A, (shortF2 g.W g.A))] (by simp))) ?_
    refine Pnt ?_; refine Opk ?_; refine S2 ?_
    refine CW.cond rfl (fun h1 => ?_) (fun h1 => ?_)
    ·
      exact absurd h1 (by have := hS.same; simp_all)
    ·
      refine S4 ?_; refine Ofa ?_; refine Ola ?_; refine Ola ?_
      refine OL.popC rfl rfl rfl (POp.call (.mk' rfl rfl rfl rfl rfl) (p27c hS.good)) ?_
      refine Omv ?_; refine Oex ?_; refine Oex ?_
      refine OL.alC rfl rfl rfl rfl (fun b1 => ?_)
      refine Sto ?_; refine Oas ?_; refine S4 ?_; refine Ofa ?_; refine Ola ?_; refine Ofa ?_; refine Ola ?_
      refine OL.popC rfl rfl rfl (POp.call (.mk' rfl rfl rfl rfl rfl) (p18c hA)) ?_
      refine Omv ?_; refine Oex ?_; refine Oex ?_; refine Oas ?_; refine Oas ?_; refine S5 ?_; refine Omv ?_; refine Ocm ?_; refine Omv ?_; refine Pmv ?_; refine Pcm ?_; refine Opk ?_
      refine Omv ?_; refine Pla ?_; refine Pla ?_
      refine OL.guardC rfl rfl rfl rfl rfl rfl (fun hg => POp.call (.mk' rfl rfl rfl rfl (by first | rfl | ((repeat (first | exact hg | rfl | refine Bool.and_eq_true_iff.2 ⟨?_, ?_⟩)); done) | simp_all [strip, constAV])) (p42 (shortF2 g.W (shortF2 g.W g.A)) (shortF2 g.W g.A))) ?_
      refine Pnt ?_; refine Opk ?_; refine S2 ?_
      refine CW.cond rfl (fun h2 => ?_) (fun h2 => ?_)
      ·
        exact absurd h2 (by rw [hS.again]; simp)
      ·
        refine S5 ?_; refine Omv ?_; refine Ont ?_; refine S2 ?_
        refine CW.cond rfl (fun h3 => ?_) (fun h3 => ?_)
        ·
          have hno := hS.cant (by simpa using h3)
          refine S1 ?_
          refine CW.dp mixed ?_
          refine DP.anyC 0 3 98 rfl (by decide +kernel) rfl rfl (by decide +kernel) ?_
          refine Ala ?_; refine Abd ?_
          refine AD.popC rfl rfl rfl (POp.callLe (.mk' rfl rfl rfl rfl rfl) (.cons (AVle.agg trueF_le) .nil) (p39 trueF)) ?_
          refine AD.nil ?_
          refine DP.tailC 3 (by decide +kernel) rfl ?_
          refine OL.popC rfl rfl rfl (POp.call (.mk' rfl rfl rfl rfl rfl) (p42 (shortF2 g.W g.A) noF)) ?_
          refine Omv ?_
          refine OL.guardC rfl rfl rfl rfl rfl rfl (fun hg => POp.call (.mk' rfl rfl rfl rfl rfl) (p21)) ?_
          refine Opk ?_; refine Oas ?_; refine S4 ?_
          refine r1 2 (H) ?_
          exact ⟨retB (by rw [hno]; simp), rfl⟩
        ·
          have hle := hS.less (by simpa using h3)
          refine S3 ?_
          refine CW.dp mixed ?_
          refine DP.anyC 0 4 98 rfl (by decide +kernel) rfl rfl (by decide +kernel) ?_
          refine Ala ?_
          refine AD.popC rfl rfl rfl (POp.call (.mk' rfl rfl rfl rfl rfl) (p49 (W := g.W) _ hSG.2.2.1 hSG.2.2.2)) ?_
          refine Afa ?_; refine Ala ?_
          refine AD.nil ?_
          refine DP.tailC 4 (by decide +kernel) rfl ?_
          refine OL.popC rfl rfl rfl (POp.call (.mk' rfl rfl rfl rfl rfl) (p49 (W := g.W) g.A hG.2.2.1 hG.2.2.2)) ?_
          refine Ocm ?_; refine Omv ?_
          refine OL.guardC rfl rfl rfl rfl rfl rfl (fun hg => POp.call (.mk' rfl rfl rfl rfl rfl) (p21)) ?_
          refine Opk ?_; refine Oas ?_; refine S3 ?_
          refine r1 2 (H) ?_
          exact ⟨retB (by simp; omega), rfl⟩
end Go.Proofs.YtiljpbljebfhnaaGreat
