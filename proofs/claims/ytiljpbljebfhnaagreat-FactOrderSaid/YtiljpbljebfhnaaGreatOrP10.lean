/- Part 10 of the proof: contracts of functions of the program and what they need. No condition beyond those that each theorem names. -/
import Derived.Test.YtiljpbljebfhnaaGreatOrP9
set_option linter.unusedVariables false
set_option linter.unusedSimpArgs false
set_option maxRecDepth 10000
namespace Go.Proofs.YtiljpbljebfhnaaGreat
open Go.Eng
open Go.Eng.Fc
/-! ### what can be so has a model -/
theorem slots2_congr {W : FW} {kn : K2} {a : Int} {p : List Int} {c1 c2 : List Int → Bool} : ∀ (l : List Int) (must no : Nat), (∀ s ∈ l, c1 (p ++ [s]) = c2 (p ++ [s])) → slots2 W kn c1 a p l must no = slots2 W kn c2 a p l must no
  | [], _, _, _ => rfl
  | s :: r, must, no, h => by
    have h1 := h s (.head _)
    have hr : ∀ x ∈ r, c1 (p ++ [x]) = c2 (p ++ [x]) := fun x hx => h x (.tail _ hx)
    rw [slots2, slots2, h1, slots2_congr r _ _ hr, slots2_congr r _ _ hr, slots2_congr r _ _ hr]
theorem object2_congr {W : FW} {kn : K2} {a : Int} {p : List Int} {c1 c2 : List Int → Bool} (h : ∀ s ∈ (kn a p).slots, c1 (p ++ [s]) = c2 (p ++ [s])) : object2 W kn c1 a p = object2 W kn c2 a p := by
  rw [object2, object2, slots2_congr _ _ _ h]
def canAt (W : FW) (kn : K2) (a : Int) (p : List Int) : Bool := can2 W kn (2 - p.length) a p
def objAt (W : FW) (kn : K2) (a : Int) (p : List Int) : Nat × Bool := object2 W kn (canAt W kn a) a p
def vAt (W : FW) (kn : K2) (a : Int) (p : List Int) : Val :=
  if integer2 kn a p = true then .int (freeK (kn a p).nots (kn a p).low)
  else if none2 kn a p = true then .non
  else .obj fun c => c == 0 || (objAt W kn a p).1.testBit c
def stepV (W : FW) (kn : K2) (a : Int) (p : List Int) (v : Val) (s : Int) : Option Val := match v with
  | .obj S => if (decide (0 ≤ s) && decide (s < W.owner.length) && S (ownerN W s)) = true then (if (kn a p).slots.contains s = true then some (vAt W kn a (p ++ [s])) else some .non) else none
  | _ => none
def mkP (W : FW) (kn : K2) (a : Int) (p : List Int) : Option Val := (p.foldl (fun (st : List Int × Option Val) s => (st.1 ++ [s], st.2.bind fun v => stepV W kn a st.1 v s)) ([], some (vAt W kn a []))).2
def mkV (W : FW) (kn : K2) : VM := fun a p => if 0 ≤ a ∧ a < 3 then mkP W kn a p else none
theorem mk_fst (W : FW) (kn : K2) (a : Int) : ∀ (p : List Int) (st : List Int × Option Val), (p.foldl (fun (st : List Int × Option Val) s => (st.1 ++ [s], st.2.bind fun v => stepV W kn a st.1 v s)) st).1 = st.1 ++ p
  | [], st => by simp
  | s :: r, st => by rw [List.foldl_cons, mk_fst W kn a r]; simp
theorem mk_snoc (W : FW) (kn : K2) (a : Int) (p : List Int) (s : Int) : mkP W kn a (p ++ [s]) = (mkP W kn a p).bind fun v => stepV W kn a p v s := by
  rw [mkP, List.foldl_append, List.foldl_cons, List.foldl_nil, mk_fst]; rfl
theorem slots2_facts {W : FW} {kn : K2} {can : List Int → Bool} {a : Int} {p : List Int} : ∀ (l : List Int) (must no m' n' : Nat), slots2 W kn can a p l must no = some (m', n') →
    (∀ c, must.testBit c = true → m'.testBit c = true) ∧ (∀ c, no.testBit c = true → n'.testBit c = true) ∧ (∀ c, m'.testBit c = true → must.testBit c = true ∨ ∃ s ∈ l, c = ownerN W s) ∧
    ∀ s ∈ l, ((kn a (p ++ [s])).needed = true → m'.testBit (ownerN W s) = true ∧ can (p ++ [s]) = true) ∧ (can (p ++ [s]) = false → n'.testBit (ownerN W s) = true)
  | [], must, no, m', n', h => by
    rw [slots2] at h; cases h
    exact ⟨fun _ h => h, fun _ h => h, fun _ h => .inl h, fun s hs => by cases hs⟩
  | s :: r, must, no, m', n', h => by
    rw [slots2] at h
    cases hnd : (kn a (p ++ [s])).needed with
    | true =>
      rw [hnd] at h
      cases hcn : can (p ++ [s]) with
      | false => rw [hcn] at h; cases h
      | true =>
        rw [hcn] at h
        simp only [Bool.not_true, Bool.and_false, Bool.false_eq_true, if_false, if_true] at h
        obtain ⟨i1, i2, i3, i4⟩ := slots2_facts r _ _ _ _ h
        refine ⟨fun c hc => i1 c (by rw [or_bit, hc]; rfl), i2, fun c hc => ?_, fun x hx => ?_⟩
        · rcases i3 c hc with h' | ⟨x, hx, e⟩
          · rw [or_bit, Bool.or_eq_true, beq_iff_eq] at h'
            rcases h' with h' | h'
            · exact .inl h'
            · exact .inr ⟨s, .head _, h'⟩
          · exact .inr ⟨x, .tail _ hx, e⟩
        · rcases List.mem_cons.1 hx with rfl | hx
          · exact ⟨fun _ => ⟨i1 _ (by rw [or_bit]; simp [ownerN]), hcn⟩, fun hf => by rw [hcn] at hf; cases hf⟩
          · exact i4 x hx
    | false =>
      rw [hnd] at h
      cases hcn : can (p ++ [s]) with
      | false =>
        rw [hcn] at h
        simp only [Bool.not_false, Bool.and_true, Bool.false_and, Bool.false_eq_true, if_false, if_true] at h
        obtain ⟨i1, i2, i3, i4⟩ := slots2_facts r _ _ _ _ h
        refine ⟨i1, fun c hc => i2 c (by rw [or_bit, hc]; rfl), fun c hc => ?_, fun x hx => ?_⟩
        · rcases i3 c hc with h' | ⟨x, hx, e⟩
          · exact .inl h'
          · exact .inr ⟨x, .tail _ hx, e⟩
        · rcases List.mem_cons.1 hx with rfl | hx
          · exact ⟨fun hf => (by rw [hnd] at hf; cases hf), fun _ => i2 _ (by rw [or_bit]; simp [ownerN])⟩
          · exact i4 x hx
      | true =>
        rw [hcn] at h
        simp only [Bool.not_true, Bool.false_and, Bool.false_eq_true, if_false] at h
        obtain ⟨i1, i2, i3, i4⟩ := slots2_facts r _ _ _ _ h
        refine ⟨i1, i2, fun c hc => ?_, fun x hx => ?_⟩
        · rcases i3 c hc with h' | ⟨x, hx, e⟩
          · exact .inl h'
          · exact .inr ⟨x, .tail _ hx, e⟩
        · rcases List.mem_cons.1 hx with rfl | hx
          · exact ⟨fun hf => (by rw [hnd] at hf; cases hf), fun hf => by rw [hcn] at hf; cases hf⟩
          · exact i4 x hx
/-- what is known of an object that may stand at a spot -/
structure ObjF (W : FW) (kn : K2) (a : Int) (p : List Int) (R : Nat) : Prop where
  whole : (kn a p).whole = false
  m1 : (kn a p).must.testBit 1 = false
  m2 : (kn a p).must.testBit 2 = false
  n0 : (kn a p).no.testBit 0 = false
  must : ∀ c, (kn a p).must.testBit c = true → c ≠ 0 → R.testBit c = true
  no : ∀ c, (kn a p).no.testBit c = true → R.testBit c = false
  low : ∀ c, c < 3 → R.testBit c = false
  lt : ∀ c, R.testBit c = true → c < 3 + W.parents.length
  up : ∀ c b, R.testBit c = true → upB W c b = true → b ≠ 0 → R.testBit b = true
  slots : ∀ s ∈ (kn a p).slots, ((kn a (p ++ [s])).needed = true → R.testBit (ownerN W s) = true) ∧ (R.testBit (ownerN W s) = true → canAt W kn a (p ++ [s]) = true)
section
variable {W : FW} {ls : List FLit} (h : LsOk W ls)
include h
theorem can_at {a : Int} {p : List Int} (hp : p.length ≤ 2) : canAt W (stage2 ls) a p = (integer2 (stage2 ls) a p || none2 (stage2 ls) a p || (objAt W (stage2 ls) a p).2) := by
  rw [canAt, objAt]
  by_cases h2 : p.length = 2
  · rw [h2, show 2 - 2 = 0 from rfl, can2, object2_congr (c2 := canAt W (stage2 ls) a) (fun s hs => absurd (slot_len h hs) (by omega))]
  · obtain ⟨d, hd⟩ : ∃ d, 2 - p.length = d + 1 := ⟨1 - p.length, by omega⟩
    rw [hd, can2, object2_congr (c2 := canAt W (stage2 ls) a) (fun s hs => by rw [canAt]; congr 1; simp; omega)]
theorem obj_f {a : Int} {p : List Int} (ho : (objAt W (stage2 ls) a p).2 = true) : ObjF W (stage2 ls) a p (objAt W (stage2 ls) a p).1 := by
  have hW := world_len h.w
  rw [objAt] at ho ⊢
  generalize hob : object2 W (stage2 ls) (canAt W (stage2 ls) a) a p = ob at ho ⊢
  rw [object2] at hob
  by_cases hb : ((stage2 ls a p).whole || (stage2 ls a p).must.testBit 1 || (stage2 ls a p).must.testBit 2 || (stage2 ls a p).no.testBit 0) = true
  · rw [if_pos hb] at hob; rw [← hob] at ho; cases ho
  · rw [if_neg hb] at hob
    have hb := Bool.eq_false_iff.2 hb
    simp only [Bool.or_eq_false_iff] at hb
    cases hs : slots2 W (stage2 ls) (canAt W (stage2 ls) a) a p (stage2 ls a p).slots (stage2 ls a p).must (stage2 ls a p).no with
    | none => rw [hs] at hob; rw [← hob] at ho; cases ho
    | some mn =>
      obtain ⟨m', n'⟩ := mn
      rw [hs] at hob
      simp only [] at hob
      obtain ⟨f1, f2, f3, f4⟩ := slots2_facts _ _ _ _ _ hs
      rw [← hob] at ho ⊢
      simp only [] at ho ⊢
      have hz := zero_bits.1 ho
      have hown : ∀ s ∈ (stage2 ls a p).slots, 3 ≤ ownerN W s ∧ ownerN W s < 3 + W.parents.length := fun s hs => by
        have := owner_rng h.w (slot_in h hs)
        rw [ownerN]; omega
      have hm12 : ∀ c, c = 1 ∨ c = 2 → m'.testBit c = false := fun c hc => by
        rw [Bool.eq_false_iff]; intro hm
        rcases f3 c hm with h' | ⟨s, hs', e⟩
        · rcases hc with rfl | rfl
          · rw [hb.1.1.2] at h'; cases h'
          · rw [hb.1.2] at h'; cases h'
        · have := hown s hs'; omega
      have hmlt : ∀ c, m'.testBit c = true → c < 3 + W.parents.length := fun c hm => by
        rcases f3 c hm with h' | ⟨s, hs', e⟩
        · exact h.must_lt h'
        · rw [e]; exact (hown s hs').2
      have hX := closeK_get h.w W.parents.length 3 m' rfl
      have hlt : ∀ c, (closeK W W.parents.length 3 m').testBit c = true → c < 3 + W.parents.length := fun c hc => by
        rcases (hX c).1 hc with h1 | ⟨i, h1, h2, _, h4⟩
        · exact hmlt c h1
        · have := upB_le h.w i i (Nat.le_refl _) (by omega) c h4; omega
      have hR : ∀ c, (andNotP (closeK W W.parents.length 3 m') 1).testBit c = ((closeK W W.parents.length 3 m').testBit c && !(c == 0)) := fun c => by
        rw [andNot_bit, show (1 : Nat).testBit c = (c == 0) from by
          rcases c with _ | c
          · rfl
          · rw [Nat.testBit_succ]; simp]
        cases hc : (closeK W W.parents.length 3 m').testBit c with
        | false => simp
        | true => have := hlt c hc; rw [decide_eq_true (by omega)]; rfl
      have hRm : ∀ c, m'.testBit c = true → c ≠ 0 → (andNotP (closeK W W.parents.length 3 m') 1).testBit c = true := fun c hm hc => by
        rw [hR, (hX c).2 (.inl hm), show (c == 0) = false from by simpa using hc]; rfl
      have hRn : ∀ c, n'.testBit c = true → (andNotP (closeK W W.parents.length 3 m') 1).testBit c = false := fun c hn => by
        have := hz c
        rw [Nat.testBit_and, hn, Bool.and_true] at this; exact this
      refine ⟨hb.1.1.1, hb.1.1.2, hb.1.2, hb.2, fun c hc h0 => hRm c (f1 c hc) h0, fun c hc => hRn c (f2 c hc), fun c hc => ?_, fun c hc => ?_, fun c b hc hub hb0 => ?_, fun s hs' => ?_⟩
      · rw [hR, Bool.eq_false_iff]; intro hh
        rw [Bool.and_eq_true, Bool.not_eq_true', beq_eq_false_iff_ne] at hh
        rcases (hX c).1 hh.1 with h1 | ⟨i, h1, h2, _, h4⟩
        · rw [hm12 c (by omega)] at h1; cases h1
        · have := upB_le h.w i i (Nat.le_refl _) (by omega) c h4; omega
      · rw [hR, Bool.and_eq_true] at hc; exact hlt c hc.1
      · rw [hR, Bool.and_eq_true] at hc ⊢
        refine ⟨?_, by simpa using hb0⟩
        rw [hX b]
        rcases (hX c).1 hc.1 with h1 | ⟨i, h1, h2, h3, h4⟩
        · have hc0 : c ≠ 0 := by simpa using hc.2
          have hcl := hmlt c h1
          have hc12 : c ≠ 1 ∧ c ≠ 2 := ⟨fun e => (by rw [hm12 c (.inl e)] at h1; cases h1), fun e => by rw [hm12 c (.inr e)] at h1; cases h1⟩
          exact .inr ⟨c, by omega, by omega, h1, hub⟩
        · exact .inr ⟨i, h1, h2, h3, upB_trans h.w i i (Nat.le_refl _) (by omega) c b h4 hub⟩
      · refine ⟨fun hn => hRm _ ((f4 s hs').1 hn).1 (by have := hown s hs'; omega), fun hr => ?_⟩
        cases hcn : canAt W (stage2 ls) a (p ++ [s]) with
        | true => rfl
        | false => rw [hRn _ ((f4 s hs').2 hcn)] at hr; cases hr
/-- what stands at a spot where something may -/
theorem vat_cases {a : Int} {p : List Int} (hp : p.length ≤ 2) (hc : canAt W (stage2 ls) a p = true) :
    (integer2 (stage2 ls) a p = true ∧ vAt W (stage2 ls) a p = .int (freeK (stage2 ls a p).nots (stage2 ls a p).low)) ∨ (none2 (stage2 ls) a p = true ∧ vAt W (stage2 ls) a p = .non) ∨
    ((objAt W (stage2 ls) a p).2 = true ∧ vAt W (stage2 ls) a p = .obj fun c => c == 0 || (objAt W (stage2 ls) a p).1.testBit c) := by
  rw [can_at h hp] at hc
  unfold vAt
  by_cases hi : integer2 (stage2 ls) a p = true
  · rw [if_pos hi]; exact .inl ⟨hi, rfl⟩
  · rw [if_neg hi]
    by_cases hn : none2 (stage2 ls) a p = true
    · rw [if_pos hn]; exact .inr (.inl ⟨hn, rfl⟩)
    · rw [if_neg hn]
      rw [Bool.eq_false_iff.2 hi, Bool.eq_false_iff.2 hn] at hc
      exact .inr (.inr ⟨by simpa using hc, rfl⟩)
theorem own_ne {s : Int} (hs : 0 ≤ s ∧ s < W.owner.length) : ownerN W s ≠ 0 := by
  have := owner_rng h.w hs; rw [ownerN]; omega
theorem mk_inv (ht : together2 W ls = true) {a : Int} (ha : 0 ≤ a ∧ a < 3) : ∀ (n : Nat) (p : List Int), p.length = n → ∀ v, mkP W (stage2 ls) a p = some v → v = .non ∨ (v = vAt W (stage2 ls) a p ∧ p.length ≤ 2 ∧ canAt W (stage2 ls) a p = true)
  | 0, p, hp, v, hv => by
    rw [List.eq_nil_of_length_eq_zero hp] at hv ⊢
    have e : v = vAt W (stage2 ls) a [] := (Option.some.inj hv).symm
    refine .inr ⟨e, by simp, ?_⟩
    rw [together2, Bool.and_eq_true, Bool.and_eq_true] at ht
    have : a = 0 ∨ a = 1 ∨ a = 2 := by omega
    rcases this with rfl | rfl | rfl
    · exact ht.1.1
    · exact ht.1.2
    · exact ht.2
  | n + 1, p, hp, v, hv => by
    rcases List.eq_nil_or_concat p with rfl | ⟨q, s, rfl⟩
    · simp at hp
    · rw [List.concat_eq_append] at hp hv ⊢
      rw [mk_snoc] at hv
      obtain ⟨u, hu, hst⟩ := Option.bind_eq_some_iff.1 hv
      rcases mk_inv ht ha n q (by simpa using hp) u hu with rfl | ⟨rfl, hq, hc⟩
      · cases hst
      · rcases vat_cases h hq hc with ⟨_, e⟩ | ⟨_, e⟩ | ⟨ho, e⟩
        · rw [e] at hst; cases hst
        · rw [e] at hst; cases hst
        · rw [e] at hst
          simp only [stepV] at hst
          split at hst
          · rename_i hcond
            simp only [Bool.and_eq_true, decide_eq_true_eq, Bool.or_eq_true, beq_iff_eq] at hcond
            split at hst
            · rename_i hcs
              have hcs := List.contains_iff_mem.1 hcs
              have hl := slot_len h hcs
              refine .inr ⟨(Option.some.inj hst).symm, by simp; omega, ((obj_f h ho).slots s hcs).2 ?_⟩
              rcases hcond.2 with e0 | e0
              · exact absurd e0 (own_ne h hcond.1)
              · exact e0
            · exact .inl (Option.some.inj hst).symm
          · cases hst
theorem mk_ok (ht : together2 W ls = true) : VOk W (mkV W (stage2 ls)) := by
  refine ⟨fun a h0 h3 => ?_, fun a p n hv => ?_, fun a p S hv => ?_, fun a p s h0 h1 => ?_⟩
  · rw [mkV, if_pos ⟨h0, h3⟩]; rfl
  · rw [mkV] at hv
    split at hv
    · rename_i ha
      rcases mk_inv h ht ha p.length p rfl _ hv with e | ⟨e, hp, hc⟩
      · cases e
      · rcases vat_cases h hp hc with ⟨hi, e'⟩ | ⟨_, e'⟩ | ⟨_, e'⟩
        · rw [e'] at e; cases e
          rw [integer2, Bool.and_eq_true, decide_eq_true_eq] at hi
          have hk := freeK_spec (stage2 ls a p).nots (stage2 ls a p).low
          have ht' := h.tri a p
          have hf := (num_fold (freeK (stage2 ls a p).nots (stage2 ls a p).low) (ls.filter (hitL a p)) rs0 (fun l hm => (h.ok l (List.mem_filter.1 hm).1).op)).1 (by rw [← ht']; exact ⟨hk.2.1, hi.1, hk.1⟩)
          exact ⟨hf.1.1, hf.1.2.1⟩
        · rw [e'] at e; cases e
        · rw [e'] at e; cases e
    · cases hv
  · rw [mkV] at hv
    split at hv
    · rename_i ha
      rcases mk_inv h ht ha p.length p rfl _ hv with e | ⟨e, hp, hc⟩
      · cases e
      · rcases vat_cases h hp hc with ⟨hi, e'⟩ | ⟨_, e'⟩ | ⟨ho, e'⟩
        · rw [e'] at e; cases e
        · rw [e'] at e; cases e
        · rw [e'] at e; cases e
          have hF := obj_f h ho
          refine ⟨rfl, by simp [hF.low], by simp [hF.low], fun c hc' hS b hub => ?_⟩
          simp only [Bool.or_eq_true, beq_iff_eq] at hS ⊢
          by_cases hb0 : b = 0
          · exact .inl hb0
          · rcases hS with rfl | hS
            · rw [upB_low (by omega)] at hub; simp at hub; exact absurd hub hb0
            · exact .inr (hF.up c b hS hub hb0)
    · cases hv
  · rw [mkV]
    by_cases ha : 0 ≤ a ∧ a < 3
    · simp only [mkV, if_pos ha]
      rw [mk_snoc]
      constructor
      · intro hs
        obtain ⟨v, hv⟩ := Option.isSome_iff_exists.1 hs
        obtain ⟨u, hu, hst⟩ := Option.bind_eq_some_iff.1 hv
        cases u with
        | int n => cases hst
        | non => cases hst
        | obj S =>
          simp only [stepV] at hst
          split at hst
          · rename_i hcond
            rw [Bool.and_eq_true] at hcond
            exact ⟨S, hu, hcond.2⟩
          · cases hst
      · rintro ⟨S, hS, hSo⟩
        rw [hS]
        simp only [Option.bind_some, stepV]
        rw [if_pos (by simp [h0, h1, hSo])]
        split <;> rfl
    · simp only [mkV, if_neg ha]
      simp
theorem ends_no {a : Int} {p : List Int} {s : Int} (hs : s ∈ (stage2 ls a p).slots) (hn : (stage2 ls a (p ++ [s])).needed = true) : ends2 (stage2 ls) a p = false := by
  have _ := h
  rw [ends2, List.all_eq_false]; exact ⟨s, hs, by rw [hn]; simp⟩
theorem lit_way {l : FLit} (hl : l ∈ ls) (ht : together2 W ls = true) : ∀ (n : Nat) (p : List Int), p.length = n → p <+: l.f.path →
    (mkP W (stage2 ls) l.f.arg p = none ∧ l.neg = true) ∨ (mkP W (stage2 ls) l.f.arg p = some (vAt W (stage2 ls) l.f.arg p) ∧ canAt W (stage2 ls) l.f.arg p = true)
  | 0, p, hp, _ => by
    have hok := h.ok l hl
    rw [List.eq_nil_of_length_eq_zero hp]
    refine .inr ⟨rfl, ?_⟩
    rcases mk_inv h ht hok.arg 0 [] rfl _ (show mkP W (stage2 ls) l.f.arg [] = some (vAt W (stage2 ls) l.f.arg []) from rfl) with e | e
    · rw [together2, Bool.and_eq_true, Bool.and_eq_true] at ht
      have ha := hok.arg
      have : l.f.arg = 0 ∨ l.f.arg = 1 ∨ l.f.arg = 2 := by omega
      rcases this with e | e | e <;> rw [e]
      · exact ht.1.1
      · exact ht.1.2
      · exact ht.2
    · exact e.2.2
  | n + 1, p, hp, hpre => by
    rcases List.eq_nil_or_concat p with rfl | ⟨q, s, rfl⟩
    · simp at hp
    · rw [List.concat_eq_append] at hp hpre ⊢
      have hok := h.ok l hl
      have hway : wayL l.f.arg (q ++ [s]) l = true := by rw [wayL, Bool.and_eq_true, beg_iff]; exact ⟨by simp, hpre⟩
      have hs : s ∈ (stage2 ls l.f.arg q).slots := by rw [h.slots]; exact List.any_eq_true.2 ⟨l, hl, hway⟩
      have hnd : l.neg = false → (stage2 ls l.f.arg (q ++ [s])).needed = true := fun hn => by
        rw [h.need]; exact List.any_eq_true.2 ⟨l, hl, by rw [needL, hn, hway]; rfl⟩
      have hq : q.length ≤ 2 := by have := slot_len h hs; omega
      rw [mk_snoc]
      rcases lit_way hl ht n q (by simpa using hp) ((List.prefix_append _ _).trans hpre) with ⟨e, hn⟩ | ⟨e, hc⟩
      · rw [e]; exact .inl ⟨rfl, hn⟩
      · rw [e]
        simp only [Option.bind_some]
        rcases vat_cases h hq hc with ⟨hi, e'⟩ | ⟨hi, e'⟩ | ⟨ho, e'⟩
        · rw [e']
          refine .inl ⟨rfl, ?_⟩
          cases hn : l.neg with
          | true => rfl
          | false =>
            rw [integer2, plain2, ends_no h hs (hnd hn)] at hi
            simp at hi
        · rw [e']
          refine .inl ⟨rfl, ?_⟩
          cases hn : l.neg with
          | true => rfl
          | false =>
            rw [none2, plain2, ends_no h hs (hnd hn)] at hi
            simp at hi
        · have hF := (obj_f h ho).slots s hs
          have hr := slot_in h hs
          rw [e']
          simp only [stepV]
          by_cases hcond : (decide (0 ≤ s) && decide (s < W.owner.length) && (ownerN W s == 0 || (objAt W (stage2 ls) l.f.arg q).1.testBit (ownerN W s))) = true
          · rw [if_pos hcond, if_pos (List.contains_iff_mem.2 hs)]
            simp only [Bool.and_eq_true, decide_eq_true_eq, Bool.or_eq_true, beq_iff_eq] at hcond
            refine .inr ⟨rfl, hF.2 ?_⟩
            rcases hcond.2 with e0 | e0
            · exact absurd e0 (own_ne h hr)
            · exact e0
          · rw [if_neg hcond]
            refine .inl ⟨rfl, ?_⟩
            cases hn : l.neg with
            | true => rfl
            | false =>
              exfalso; apply hcond
              rw [decide_eq_true hr.1, decide_eq_true hr.2, hF.1 (hnd hn)]; simp
theorem mk_lits (ht : together2 W ls = true) : ∀ l ∈ ls, litV (mkV W (stage2 ls)) l = true := by
  intro l hl
  have hok := h.ok l hl
  have hhit : hitL l.f.arg l.f.path l = true := by simp [hitL]
  rw [litV, evL, mkV, if_pos hok.arg]
  rcases lit_way h hl ht _ l.f.path rfl (List.prefix_refl _) with ⟨e, hn⟩ | ⟨e, hc⟩
  · rw [e, hn]; rfl
  · rw [e]
    simp only []
    have hcl := hok.cls
    have hmu : l.f.op = 2 → l.neg = false → (stage2 ls l.f.arg l.f.path).must.testBit l.f.cls.toNat = true := fun h2 hn => by
      rw [h.must]; exact List.any_eq_true.2 ⟨l, hl, by rw [isL, hhit, h2, hn]; simp⟩
    have hno : l.f.op = 2 → l.neg = true → (stage2 ls l.f.arg l.f.path).no.testBit l.f.cls.toNat = true := fun h2 hn => by
      rw [h.no]; exact List.any_eq_true.2 ⟨l, hl, by rw [isL, hhit, h2, hn]; simp⟩
    have hwh : l.f.op ≠ 2 → l.neg = false → (stage2 ls l.f.arg l.f.path).whole = true := fun h2 hn => by
      rw [h.whole]; exact List.any_eq_true.2 ⟨l, hl, by rw [wholeL, hhit, hn]; simpa using h2⟩
    rcases vat_cases h hok.path hc with ⟨hi, e'⟩ | ⟨hi, e'⟩ | ⟨ho, e'⟩
    · rw [e']; unfold valL
      rw [integer2, Bool.and_eq_true, decide_eq_true_eq, plain_iff h] at hi
      by_cases h2 : l.f.op = 2
      · rw [if_pos h2, isC]
        cases hn : l.neg with
        | false =>
          have := hi.2.1 _ (hmu h2 hn)
          rcases this with e0 | e0
          · rw [e0]; rfl
          · rw [e0]; rfl
        | true =>
          have h1 := hno h2 hn
          have : ¬ (l.f.cls.toNat = 0 ∨ l.f.cls.toNat = (1 : Int).toNat) := fun hh => by rw [hi.2.2.1 _ hh] at h1; cases h1
          have e0 : (l.f.cls.toNat == 0 || l.f.cls.toNat == 1) = false := by
            rw [Bool.or_eq_false_iff, beq_eq_false_iff_ne, beq_eq_false_iff_ne]; exact not_or.1 this
          rw [e0]; rfl
      · rw [if_neg h2]
        simp only []
        have hk := freeK_spec (stage2 ls l.f.arg l.f.path).nots (stage2 ls l.f.arg l.f.path).low
        have ht' := h.tri l.f.arg l.f.path
        have hf := (num_fold (freeK (stage2 ls l.f.arg l.f.path).nots (stage2 ls l.f.arg l.f.path).low) (ls.filter (hitL l.f.arg l.f.path)) rs0 (fun l hm => (h.ok l (List.mem_filter.1 hm).1).op)).1 (by rw [← ht']; exact ⟨hk.2.1, hi.1, hk.1⟩)
        have := hf.2 l (List.mem_filter.2 ⟨hl, hhit⟩)
        rw [numOk, show (l.f.op == 2) = false from by simpa using h2, Bool.false_or] at this
        exact this
    · rw [e']; unfold valL
      rw [none2, Bool.and_eq_true, Bool.not_eq_true', plain_iff h] at hi
      by_cases h2 : l.f.op = 2
      · rw [if_pos h2, isC]
        cases hn : l.neg with
        | false =>
          have := hi.2.1 _ (hmu h2 hn)
          rcases this with e0 | e0
          · rw [e0]; rfl
          · rw [e0]; rfl
        | true =>
          have h1 := hno h2 hn
          have : ¬ (l.f.cls.toNat = 0 ∨ l.f.cls.toNat = (2 : Int).toNat) := fun hh => by rw [hi.2.2.1 _ hh] at h1; cases h1
          have e0 : (l.f.cls.toNat == 0 || l.f.cls.toNat == 2) = false := by
            rw [Bool.or_eq_false_iff, beq_eq_false_iff_ne, beq_eq_false_iff_ne]; exact not_or.1 this
          rw [e0]; rfl
      · rw [if_neg h2]
        cases hn : l.neg with
        | false => rw [hwh h2 hn] at hi; cases hi.1
        | true => rfl
    · rw [e']; unfold valL
      have hF := obj_f h ho
      by_cases h2 : l.f.op = 2
      · rw [if_pos h2, isC]
        cases hn : l.neg with
        | false =>
          by_cases h0 : l.f.cls.toNat = 0
          · rw [h0]; rfl
          · rw [hF.must _ (hmu h2 hn) h0]; simp
        | true =>
          have h1 := hno h2 hn
          have h0 : l.f.cls.toNat ≠ 0 := fun e0 => by rw [e0, hF.n0] at h1; cases h1
          rw [hF.no _ h1, show (l.f.cls.toNat == 0) = false from by simpa using h0]; rfl
      · rw [if_neg h2]
        cases hn : l.neg with
        | false => have := hwh h2 hn; rw [hF.whole] at this; cases this
        | true => rfl
theorem together_sem : together2 W ls = true ↔ ∃ V, VOk W V ∧ ∀ l ∈ ls, litV V l = true :=
  ⟨fun ht => ⟨_, mk_ok h ht, mk_lits h ht⟩, fun ⟨_, hV, hl⟩ => sem_together h hV hl⟩
end
/-- a fact can be so just if it is so in some model -/
theorem can_sem {W : FW} (hW : worldP W = true) {f : Fact} (hf : wfB W f = true) : canC W f = true ↔ ∃ V, VOk W V ∧ ev V f = true := by
  rw [canC, List.any_eq_true]
  constructor
  · rintro ⟨c, hc, ht⟩
    obtain ⟨V, hV, hl⟩ := (together_sem (case_ls hW hf hc)).1 ht
    refine ⟨V, hV, ?_⟩
    have := cases_ev V f (wf_ok f hf) false
    rw [Bool.bne_false] at this
    rw [← this]
    exact List.any_eq_true.2 ⟨c, hc, List.all_eq_true.2 hl⟩
  · rintro ⟨V, hV, he⟩
    have := cases_ev V f (wf_ok f hf) false
    rw [Bool.bne_false, he] at this
    obtain ⟨c, hc, hl⟩ := List.any_eq_true.1 this
    exact ⟨c, hc, sem_together (case_ls hW hf hc) hV (List.all_eq_true.1 hl)⟩
theorem imp_sem {W : FW} (hW : worldP W = true) {a b : Fact} (ha : wfB W a = true) (hb : wfB W b = true) : impC W a b = true ↔ ∀ V, VOk W V → ev V a = true → ev V b = true := by
  rw [impC, Bool.not_eq_true', Bool.eq_false_iff, ne_eq, can_sem hW (wf_and ha (wf_not hb))]
  constructor
  · intro hn V hV h1
    cases h2 : ev V b with
    | true => rfl
    | false => exact absurd ⟨V, hV, by rw [ev_andF, ev_notF, h1, h2]; rfl⟩ hn
  · rintro hh ⟨V, hV, h1⟩
    rw [ev_andF, ev_notF, Bool.and_eq_true] at h1
    rw [hh V hV h1.1] at h1
    cases h1.2
end Go.Proofs.YtiljpbljebfhnaaGreat

set_option linter.unusedVariables false
set_option linter.unusedSimpArgs false
set_option maxRecDepth 10000
namespace Go.Proofs.YtiljpbljebfhnaaGreat
open Go.Eng
open Go.Eng.Fc
def factZero : Array Value := #[.int .i64 0, .int .i64 0, .slice none 0 0, .int .i64 0, .int .i64 0, .slice none 0 0]
def Pcells (p : Fact × Fact) : List AV := Fcells p.1 ++ Fcells p.2
abbrev AV.pairs (l : List (Fact × Fact)) : AV := .sl 12 (l.map Pcells)
def okImp (W : FW) (p : Fact × Fact) : Bool := !goodP W [p.1] || !goodP W [p.2] || impC W p.1 p.2
theorem good12 {W : FW} {a b : Fact} (h1 : goodP W [a] = true) (h2 : goodP W [b] = true) : goodP W [a, b] = true := by
  simp only [goodP, List.all_cons, List.all_nil, Bool.and_true, Bool.and_eq_true] at *
  exact ⟨h1.1, h1.2, h2.2⟩
theorem all_take {α : Type} [Inhabited α] {l : List α} {i : Nat} {p : α → Bool} (h : i < l.length) : (l.take (i + 1)).all p = ((l.take i).all p && p (l.getD i default)) := by
  rw [List.take_add_one, List.all_append, getD_lt h, List.getElem?_eq_getElem h]; simp
theorem ok_no {W : FW} {p : Fact × Fact} (hg : goodP W [p.1, p.2] = true) (hb : impC W p.1 p.2 = false) : okImp W p = false := by
  unfold okImp
  simp only [goodP, List.all_cons, List.all_nil, Bool.and_true, Bool.and_eq_true] at hg ⊢
  rw [hb, hg.1, hg.2.1, hg.2.2]; rfl
theorem code0 {b : Bool} : ((if b = true then (0 : Int) else 2) != 0) = !b := by cases b <;> rfl
theorem p48 (W : FW) (l : List (Fact × Fact)) (hl : l.length ≤ 1000) : PCall Tryz.prog 48 [AV.world W, AV.pairs l] (.b (l.all (okImp W))) := by
  intro H
  refine ACall.mk' (n := 43) Tryz.func48 rfl (by kernel_rfl) rfl rfl (fun B I w0 => ?_)
  refine S2 ?_; refine Obx ?_; refine Oas ?_; refine S5 ?_; refine Omv ?_; refine Oln ?_; refine Omv ?_; refine S3 ?_
  refine lj (fun m st => ∃ i : Nat, st = ⟨[(11, .i i), (10, .i l.length), (9, AV.pairs l), (4, .b false), (2, .ptr (Wcells W))], H⟩ ∧ m = l.length - i ∧ i ≤ l.length ∧ (l.take i).all (okImp W) = true) (⟨0, rfl, rfl, by omega, rfl⟩) ?_
  rintro m _ ⟨i, rfl, rfl, hi, hall⟩
  refine S2 ?_; refine Ocm ?_; refine S3 ?_
  refine CW.cond rfl (fun h0 => ?_) (fun h0 => ?_)
  ·
    replace h0 := nm h0
    refine S6 ?_; refine Oix ?_; refine Ola ?_
    refine OL.alC rfl rfl rfl rfl (fun b0 => ?_)
    refine Sto ?_; refine S5 ?_; refine Ola ?_; refine Oia ?_; refine Ola ?_
    refine OL.popC rfl rfl rfl (POp.call (.mk' rfl rfl rfl rfl rfl) (p47 W (l.getD i default).1)) ?_
    refine Ocm ?_; refine Omv ?_; refine Pla ?_; refine Pia ?_; refine Pla ?_
    refine OL.guardC rfl rfl rfl rfl rfl rfl (fun hg => POp.call (.mk' rfl rfl rfl rfl (by first | rfl | ((repeat (first | exact hg | rfl | refine Bool.and_eq_true_iff.2 ⟨?_, ?_⟩)); done) | simp_all [strip, constAV])) (p47 W (l.getD i default).2)) ?_
    refine Pcm ?_; refine Opk ?_; refine S2 ?_
    refine CW.cond rfl (fun h1 => ?_) (fun h1 => ?_)
    ·
      rw [code0, code0] at h1
      have ok : okImp W (l.getD i default) = true := by unfold okImp; cases hg1 : goodP W [(l.getD i default).1] <;> cases hg2 : goodP W [(l.getD i default).2] <;> simp_all
      refine S5 ?_; refine Oar ?_; refine Omv ?_; refine S1 ?_
      exact ag (⟨i + 1, rfl, rfl, by omega, by rw [all_take (by omega), hall, ok]; rfl⟩)
    ·
      rw [code0, code0] at h1
      have hg : goodP W [(l.getD i default).1, (l.getD i default).2] = true := by cases hg1 : goodP W [(l.getD i default).1] <;> cases hg2 : goodP W [(l.getD i default).2] <;> simp_all [good12]
      refine S4 ?_; refine Ola ?_; refine Oia ?_; refine Ola ?_; refine Oia ?_; refine Ola ?_
      refine OL.popC rfl rfl rfl (POp.call (.mk' rfl rfl rfl rfl rfl) (p24c hg)) ?_
      refine Omv ?_; refine Oex ?_; refine Oex ?_; refine Oas ?_; refine Oas ?_; refine S4 ?_; refine Omv ?_; refine Ocm ?_; refine Omv ?_; refine Pmv ?_; refine Pnt ?_; refine Opk ?_
      refine S2 ?_
      refine CW.cond rfl (fun h2 => ?_) (fun h2 => ?_)
      ·
        have hb : impC W (l.getD i default).1 (l.getD i default).2 = false := by simpa using h2
        have hf : okImp W (l.getD i default) = false := ok_no hg hb
        refine S2 ?_; refine Oas ?_; refine S8 ?_
        refine r1 4 (H) ?_
        exact ⟨retB (by symm; rw [List.all_eq_false]; exact ⟨_, getD_mem (k := i) (by omega), by rw [hf]; simp⟩), rfl⟩
      ·
        have ok : okImp W (l.getD i default) = true := by unfold okImp; simp_all
        refine S4 ?_; refine Oar ?_; refine Omv ?_; refine S1 ?_
        exact ag (⟨i + 1, rfl, rfl, by omega, by rw [all_take (by omega), hall, ok]; rfl⟩)
  ·
    replace h0 := nm h0
    obtain rfl : i = l.length := by omega
    rw [List.take_length] at hall
    refine S7 ?_; refine Oas ?_; refine S3 ?_
    refine r1 4 (H) ?_
    exact ⟨retB hall.symm, rfl⟩
theorem ok_sem {W : FW} {x y : Fact} (h : ∀ V, VOk W V → ev V x = true → ev V y = true) : okImp W (x, y) = true := by
  unfold okImp
  cases h1 : goodP W [x] with
  | false => rfl
  | true =>
    cases h2 : goodP W [y] with
    | false => rfl
    | true =>
      have g1 := good_f1 h1
      have g2 := good_f1 h2
      rw [(imp_sem g1.1 g1.2.2.1 g2.2.2.1).2 h]; rfl
def basics (a b : Fact) : List (Fact × Fact) := [(a, a), (andF a b, a), (andF a b, b), (a, orF a b), (b, orF a b), (a, notF (notF a)), (notF (andF a b), orF (notF a) (notF b))]
theorem basics_ok (W : FW) (a b : Fact) : (basics a b).all (okImp W) = true := by
  rw [List.all_eq_true]
  intro p hp
  simp only [basics, List.mem_cons, List.not_mem_nil, or_false] at hp
  rcases hp with rfl | rfl | rfl | rfl | rfl | rfl | rfl <;> refine ok_sem fun V hV h => ?_ <;> (try simp only [ev_andF, ev_orF, ev_notF] at h) <;> (try simp only [ev_andF, ev_orF, ev_notF]) <;> cases h1 : ev V a <;> cases h2 : ev V b <;> simp_all
section
variable {W : FW} {a b c : Fact} (ha : goodP W [a] = true) (hb : goodP W [b] = true) (hc : goodP W [c] = true)
include ha hb
theorem imp_s : impC W a b = true ↔ ∀ V, VOk W V → ev V a = true → ev V b = true := imp_sem (good_f1 ha).1 (good_f1 ha).2.2.1 (good_f1 hb).2.2.1
theorem turn_ok (h : impC W a b = true) : okImp W (notF b, notF a) = true := by
  rw [imp_s ha hb] at h
  refine ok_sem fun V hV h1 => ?_
  have := h V hV
  rw [ev_notF] at h1 ⊢
  cases h2 : ev V a <;> simp_all
include hc
theorem trans_imp (h1 : impC W a b = true) (h2 : impC W b c = true) : impC W a c = true := by
  rw [imp_s ha hb] at h1
  rw [imp_s hb hc] at h2
  exact (imp_s ha hc).2 fun V hV h => h2 V hV (h1 V hV h)
theorem least_ok (h1 : impC W a c = true) (h2 : impC W b c = true) : okImp W (orF a b, c) = true := by
  rw [imp_s ha hc] at h1
  rw [imp_s hb hc] at h2
  refine ok_sem fun V hV h => ?_
  rw [ev_orF, Bool.or_eq_true] at h
  exact h.elim (h1 V hV) (h2 V hV)
theorem most_ok (h1 : impC W a b = true) (h2 : impC W a c = true) : okImp W (a, andF b c) = true := by
  rw [imp_s ha hb] at h1
  rw [imp_s ha hc] at h2
  refine ok_sem fun V hV h => ?_
  rw [ev_andF, h1 V hV h, h2 V hV h]; rfl
theorem never_ok (h : canC W a = false) : impC W a b = true ∧ impC W a c = true := by
  have key : ∀ V, VOk W V → ev V a = true → False := fun V hV hh => by
    rw [(can_sem (good_f1 ha).1 (good_f1 ha).2.2.1).2 ⟨V, hV, hh⟩] at h; cases h
  exact ⟨(imp_s ha hb).2 fun V hV hh => (key V hV hh).elim, (imp_s ha hc).2 fun V hV hh => (key V hV hh).elim⟩
end
theorem p8 (g : Gv) (c : Fact) : PCall Tryz.prog 8 [AV.given g, AV.fact c] (.b true) := by
  intro H
  refine ACall.mk' (n := 187) Tryz.func8 rfl (by kernel_rfl) rfl rfl (fun B I w0 => ?_)
  refine S2 ?_; refine Obx ?_; refine Obx ?_; refine Oas ?_; refine S3 ?_
  refine CW.dp mixed ?_
  refine DP.anyV [⟨6, 5, 25, [.slice none 0 0, .slice none 0 0], 9, Wcells g.W⟩, ⟨7, 6, 29, [.int .i64 0, .int .i64 0, .slice none 0 0, .int .i64 0, .int .i64 0, .slice none 0 0], 10, Fcells g.A⟩, ⟨8, 7, 29, [.int .i64 0, .int .i64 0, .slice none 0 0, .int .i64 0, .int .i64 0, .slice none 0 0], 11, Fcells g.B⟩] 0 12 187 rfl (by decide +kernel) (by kernel_rfl) rfl rfl (by decide +kernel) ?_
  refine UD.popV rfl rfl rfl rfl ((by first | exact POp.fa rfl rfl rfl rfl | exact POp.faP rfl rfl rfl rfl)) ?_
  refine UD.popV rfl rfl rfl rfl ((by first | exact POp.ldA rfl rfl rfl rfl | (apply POp.ldAH rfl rfl rfl; (case hm => repeat (first | exact .head _ | refine .tail _ ?_)); (case hy => rfl); (case hn => rfl)))) ?_
  refine UD.popV rfl rfl rfl rfl ((by first | exact POp.fa rfl rfl rfl rfl | exact POp.faP rfl rfl rfl rfl)) ?_
  refine UD.popV rfl rfl rfl rfl ((by first | exact POp.ldA rfl rfl rfl rfl | (apply POp.ldAH rfl rfl rfl; (case hm => repeat (first | exact .head _ | refine .tail _ ?_)); (case hy => rfl); (case hn => rfl)))) ?_
  refine UD.popV rfl rfl rfl rfl ((by first | exact POp.fa rfl rfl rfl rfl | exact POp.faP rfl rfl rfl rfl)) ?_
  refine UD.popV rfl rfl rfl rfl ((by first | exact POp.ldA rfl rfl rfl rfl | (apply POp.ldAH rfl rfl rfl; (case hm => repeat (first | exact .head _ | refine .tail _ ?_)); (case hy => rfl); (case hn => rfl)))) ?_
  refine UD.effV [] [⟨7, 6, 29, [.int .i64 0, .int .i64 0, .slice none 0 0, .int .i64 0, .int .i64 0, .slice none 0 0], 10, Fcells g.A⟩, ⟨8, 7, 29, [.int .i64 0, .int .i64 0, .slice none 0 0, .int .i64 0, .int .i64 0, .slice none 0 0], 11, Fcells g.B⟩] ⟨6, 5, 25, [.slice none 0 0, .slice none 0 0], 9, Wcells g.W⟩ rfl ⟨0, 12, by kernel_rfl⟩ rfl rfl rfl rfl rfl rfl rfl ?_
  refine UD.effV [⟨6, 5, 25, [.slice none 0 0, .slice none 0 0], 9, Wcells g.W⟩] [⟨8, 7, 29, [.int .i64 0, .int .i64 0, .slice none 0 0, .int .i64 0, .int .i64 0, .slice none 0 0], 11, Fcells g.B⟩] ⟨7, 6, 29, [.int .i64 0, .int .i64 0, .slice none 0 0, .int .i64 0, .int .i64 0, .slice none 0 0], 10, Fcells g.A⟩ rfl ⟨0, 12, by kernel_rfl⟩ rfl rfl rfl rfl rfl rfl rfl ?_
  refine UD.effV [⟨6, 5, 25, [.slice none 0 0, .slice none 0 0], 9, Wcells g.W⟩, ⟨7, 6, 29, [.int .i64 0, .int .i64 0, .slice none 0 0, .int .i64 0, .int .i64 0, .slice none 0 0], 10, Fcells g.A⟩] [] ⟨8, 7, 29, [.int .i64 0, .int .i64 0, .slice none 0 0, .int .i64 0, .int .i64 0, .slice none 0 0], 11, Fcells g.B⟩ rfl ⟨0, 12, by kernel_rfl⟩ rfl rfl rfl rfl rfl rfl rfl ?_
  refine UD.stoV [] [⟨7, 6, 29, [.int .i64 0, .int .i64 0, .slice none 0 0, .int .i64 0, .int .i64 0, .slice none 0 0], 10, Fcells g.A⟩, ⟨8, 7, 29, [.int .i64 0, .int .i64 0, .slice none 0 0, .int .i64 0, .int .i64 0, .slice none 0 0], 11, Fcells g.B⟩] ⟨6, 5, 25, [.slice none 0 0, .slice none 0 0], 9, Wcells g.W⟩ rfl ⟨0, 12, by kernel_rfl⟩ rfl rfl rfl (fun b H1 H2 hu => .store rfl rfl rfl rfl rfl rfl rfl rfl hu (by exact rfl) (by exact rfl)) ?_
  refine UD.stoV [⟨6, 5, 25, [.slice none 0 0, .slice none 0 0], 9, Wcells g.W⟩] [⟨8, 7, 29, [.int .i64 0, .int .i64 0, .slice none 0 0, .int .i64 0, .int .i64 0, .slice none 0 0], 11, Fcells g.B⟩] ⟨7, 6, 29, [.int .i64 0, .int .i64 0, .slice none 0 0, .int .i64 0, .int .i64 0, .slice none 0 0], 10, Fcells g.A⟩ rfl ⟨0, 12, by kernel_rfl⟩ rfl rfl rfl (fun b H1 H2 hu => .store rfl rfl rfl rfl rfl rfl rfl rfl hu (by exact rfl) (by exact rfl)) ?_
  refine UD.stoV [⟨6, 5, 25, [.slice none 0 0, .slice none 0 0], 9, Wcells g.W⟩, ⟨7, 6, 29, [.int .i64 0, .int .i64 0, .slice none 0 0, .int .i64 0, .int .i64 0, .slice none 0 0], 10, Fcells g.A⟩] [] ⟨8, 7, 29, [.int .i64 0, .int .i64 0, .slice none 0 0, .int .i64 0, .int .i64 0, .slice none 0 0], 11, Fcells g.B⟩ rfl ⟨0, 12, by kernel_rfl⟩ rfl rfl rfl (fun b H1 H2 hu => .store rfl rfl rfl rfl rfl rfl rfl rfl hu (by exact rfl) (by exact rfl)) ?_
  refine UD.nil (fun bs => ?_)
  simp only [List.map_cons, List.map_nil, List.cons_append, List.nil_append]
  refine DP.done rfl ?_
  refine S3 ?_
  refine CW.freezeP (d := 5) rfl (by repeat (first | exact Del.head _ _ | apply Del.tail)) ?_
  refine CW.freezeP (d := 6) rfl (by repeat (first | exact Del.head _ _ | apply Del.tail)) ?_
  refine CW.freezeP (d := 7) rfl (by repeat (first | exact Del.head _ _ | apply Del.tail)) ?_
  refine S1 ?_; refine Ola ?_; refine Ola ?_
  refine OL.popC rfl rfl rfl (POp.call (.mk' rfl rfl rfl rfl rfl) (p47 g.W g.A)) ?_
  refine Ocm ?_; refine Omv ?_; refine Pla ?_; refine Pla ?_
  refine OL.guardC rfl rfl rfl rfl rfl rfl (fun hg => POp.call (.mk' rfl rfl rfl rfl (by first | rfl | ((repeat (first | exact hg | rfl | refine Bool.and_eq_true_iff.2 ⟨?_, ?_⟩)); done) | simp_all [strip, constAV])) (p47 g.W g.B)) ?_
  refine Pcm ?_; refine Opk ?_; refine Omv ?_; refine Pla ?_; refine Pla ?_
  refine OL.guardC rfl rfl rfl rfl rfl rfl (fun hg => POp.call (.mk' rfl rfl rfl rfl (by first | rfl | ((repeat (first | exact hg | rfl | refine Bool.and_eq_true_iff.2 ⟨?_, ?_⟩)); done) | simp_all [strip, constAV])) (p47 g.W c)) ?_
  refine Pcm ?_; refine Opk ?_; refine S2 ?_
  refine CW.cond rfl (fun h0 => ?_) (fun h0 => ?_)
  ·
    refine S2 ?_
    refine OL.popC rfl rfl rfl (POp.call (.mk' rfl rfl rfl rfl rfl) (p21)) ?_
    refine Oas ?_; refine S4 ?_
    refine r1 4 (H) ?_
    exact ⟨by rfl, rfl⟩
  ·
    rw [code0, code0, code0] at h0
    have hA : goodP g.W [g.A] = true := by cases h1 : goodP g.W [g.A] <;> simp_all
    have hB : goodP g.W [g.B] = true := by cases h1 : goodP g.W [g.B] <;> simp_all
    have hC : goodP g.W [c] = true := by cases h1 : goodP g.W [c] <;> simp_all
    clear h0
    refine S4 ?_
    refine CW.dp mixed ?_
    refine DP.anyC 0 40 187 rfl (by decide +kernel) rfl rfl (by decide +kernel) ?_
    refine Ala ?_; refine Ala ?_; refine Ala ?_
    refine AD.popC rfl rfl rfl (POp.build' (cs := Pcells (g.A, g.A)) rfl rfl (by first | rfl | simp_all [strip]) (by rfl)) ?_
    refine Ala ?_; refine Ala ?_
    refine AD.popC rfl rfl rfl (POp.call (.mk' rfl rfl rfl rfl rfl) ((p36 _ _))) ?_
    refine Ala ?_
    refine AD.popC rfl rfl rfl (POp.build' (cs := Pcells (andF g.A g.B, g.A)) rfl rfl (by first | rfl | simp_all [strip]) (by rfl)) ?_
    refine Ala ?_; refine Ala ?_
    refine AD.popC rfl rfl rfl (POp.call (.mk' rfl rfl rfl rfl rfl) ((p36 _ _))) ?_
    refine Ala ?_
    refine AD.popC rfl rfl rfl (POp.build' (cs := Pcells (andF g.A g.B, g.B)) rfl rfl (by first | rfl | simp_all [strip]) (by rfl)) ?_
    refine Ala ?_; refine Ala ?_; refine Ala ?_
    refine AD.popC rfl rfl rfl (POp.call (.mk' rfl rfl rfl rfl rfl) ((p38 _ _))) ?_
    refine AD.popC rfl rfl rfl (POp.build' (cs := Pcells (g.A, orF g.A g.B)) rfl rfl (by first | rfl | simp_all [strip]) (by rfl)) ?_
    refine Ala ?_; refine Ala ?_; refine Ala ?_
    refine AD.popC rfl rfl rfl (POp.call (.mk' rfl rfl rfl rfl rfl) ((p38 _ _))) ?_
    refine AD.popC rfl rfl rfl (POp.build' (cs := Pcells (g.B, orF g.A g.B)) rfl rfl (by first | rfl | simp_all [strip]) (by rfl)) ?_
    refine Ala ?_; refine Ala ?_
    refine AD.popC rfl rfl rfl (POp.call (.mk' rfl rfl rfl rfl rfl) ((p39 _))) ?_
    refine AD.popC rfl rfl rfl (POp.call (.mk' rfl rfl rfl rfl rfl) ((p39 _))) ?_
    refine AD.popC rfl rfl rfl (POp.build' (cs := Pcells (g.A, notF (notF g.A))) rfl rfl (by first | rfl | simp_all [strip]) (by rfl)) ?_
    refine Ala ?_; refine Ala ?_
    refine AD.popC rfl rfl rfl (POp.call (.mk' rfl rfl rfl rfl rfl) ((p36 _ _))) ?_
    refine AD.popC rfl rfl rfl (POp.call (.mk' rfl rfl rfl rfl rfl) ((p39 _))) ?_
    refine Ala ?_
    refine AD.popC rfl rfl rfl (POp.call (.mk' rfl rfl rfl rfl rfl) ((p39 _))) ?_
    refine Ala ?_
    refine AD.popC rfl rfl rfl (POp.call (.mk' rfl rfl rfl rfl rfl) ((p39 _))) ?_
    refine AD.popC rfl rfl rfl (POp.call (.mk' rfl rfl rfl rfl rfl) ((p38 _ _))) ?_
    refine AD.popC rfl rfl rfl (POp.build' (cs := Pcells (notF (andF g.A g.B), orF (notF g.A) (notF g.B))) rfl rfl (by first | rfl | simp_all [strip]) (by rfl)) ?_
    refine AD.popC rfl rfl rfl (POp.rowK [(_, AV.agg (Pcells (g.A, g.A))), (_, AV.agg (Pcells (andF g.A g.B, g.A))), (_, AV.agg (Pcells (andF g.A g.B, g.B))), (_, AV.agg (Pcells (g.A, orF g.A g.B))), (_, AV.agg (Pcells (g.B, orF g.A g.B))), (_, AV.agg (Pcells (g.A, notF (notF g.A)))), (_, AV.agg (Pcells (notF (andF g.A g.B), orF (notF g.A) (notF g.B))))] rfl rfl (by first | rfl | simp_all) rfl rfl rfl rfl rfl) ?_
    refine AD.nil ?_
    refine DP.tailC 40 (by decide +kernel) rfl ?_
    refine OL.popC rfl rfl rfl (POp.call (.mk' rfl rfl rfl rfl rfl) (p48 g.W (basics g.A g.B) (by simp [basics]))) ?_
    refine Ont ?_; refine S2 ?_
    refine CW.cond rfl (fun h1 => ?_) (fun h1 => ?_)
    ·
      exact absurd h1 (by rw [basics_ok]; simp)
    ·
      refine S4 ?_; refine Ola ?_; refine Ola ?_; refine Ola ?_
      refine OL.popC rfl rfl rfl (POp.call (.mk' rfl rfl rfl rfl rfl) (p24c (good12 hA hB))) ?_
      refine Omv ?_; refine Oex ?_; refine Oex ?_; refine Oas ?_; refine Oas ?_; refine S4 ?_; refine Ola ?_; refine Ola ?_; refine Ola ?_
      refine OL.popC rfl rfl rfl (POp.call (.mk' rfl rfl rfl rfl rfl) (p24c (good12 hB hC))) ?_
      refine Omv ?_; refine Oex ?_; refine Oex ?_; refine Oas ?_; refine Oas ?_; refine S4 ?_; refine Ola ?_; refine Ola ?_; refine Ola ?_
      refine OL.popC rfl rfl rfl (POp.call (.mk' rfl rfl rfl rfl rfl) (p24c (good12 hA hC))) ?_
      refine Omv ?_; refine Oex ?_; refine Oex ?_; refine Oas ?_; refine Oas ?_; refine S5 ?_; refine Omv ?_; refine Ocm ?_; refine Omv ?_; refine Pmv ?_; refine Pcm ?_; refine Opk ?_
      refine Omv ?_; refine Pmv ?_; refine Pcm ?_; refine Opk ?_; refine Omv ?_; refine Pmv ?_; refine Pmv ?_; refine Pmv ?_; refine Ppk ?_; refine Pmv ?_; refine Pmv ?_; refine Pnt ?_
      refine Ppk ?_; refine Opk ?_; refine S2 ?_
      refine CW.cond rfl (fun h2 => ?_) (fun h2 => ?_)
      ·
        exact absurd h2 (by cases x1 : impC g.W g.A g.B <;> cases x2 : impC g.W g.B c <;> first | (rw [trans_imp hA hB hC x1 x2]; simp) | simp)
      ·
        refine S4 ?_
        refine CW.dp mixed ?_
        refine DP.one (k := 0) (by decide +kernel) rfl ?_
        refine Omv ?_
        refine OL.nil (Done.dp ?_)
        refine DP.one (k := 1) (by decide +kernel) rfl ?_
        refine Omv ?_
        refine OL.nil (Done.dp ?_)
        refine DP.anyC 2 9 187 rfl (by decide +kernel) rfl rfl (by decide +kernel) ?_
        refine AD.guardC rfl rfl rfl rfl rfl (fun hg => (by first | exact POp.ldA rfl rfl rfl rfl | (apply POp.ldAH rfl rfl rfl; (case hm => repeat (first | exact .head _ | refine .tail _ ?_)); (case hy => rfl); (case hn => rfl)))) ?_
        refine AD.guardC rfl rfl rfl rfl rfl (fun hg => (by first | exact POp.ldA rfl rfl rfl rfl | (apply POp.ldAH rfl rfl rfl; (case hm => repeat (first | exact .head _ | refine .tail _ ?_)); (case hy => rfl); (case hn => rfl)))) ?_
        refine AD.guardC rfl rfl rfl rfl rfl (fun hg => POp.call (.mk' rfl rfl rfl rfl (by first | rfl | ((repeat (first | exact hg | rfl | refine Bool.and_eq_true_iff.2 ⟨?_, ?_⟩)); done) | simp_all [strip, constAV])) ((p39 _))) ?_
        refine AD.guardC rfl rfl rfl rfl rfl (fun hg => (by first | exact POp.ldA rfl rfl rfl rfl | (apply POp.ldAH rfl rfl rfl; (case hm => repeat (first | exact .head _ | refine .tail _ ?_)); (case hy => rfl); (case hn => rfl)))) ?_
        refine AD.guardC rfl rfl rfl rfl rfl (fun hg => POp.call (.mk' rfl rfl rfl rfl (by first | rfl | ((repeat (first | exact hg | rfl | refine Bool.and_eq_true_iff.2 ⟨?_, ?_⟩)); done) | simp_all [strip, constAV])) ((p39 _))) ?_
        refine AD.guardC rfl rfl rfl rfl rfl (fun hg => POp.build' (cs := Pcells (notF g.B, notF g.A)) rfl rfl (by first | rfl | ((repeat (first | exact hg | rfl | refine Bool.and_eq_true_iff.2 ⟨?_, ?_⟩)); done) | simp_all [strip, constAV]) (by rfl)) ?_
        refine AD.guardC rfl rfl rfl rfl rfl (fun hg => POp.rowK [(_, AV.agg (Pcells (notF g.B, notF g.A)))] rfl rfl (by first | rfl | ((repeat (first | exact hg | rfl | refine Bool.and_eq_true_iff.2 ⟨?_, ?_⟩)); done) | simp_all [strip, constAV]) rfl rfl rfl rfl rfl) ?_
        refine AD.nil ?_
        refine DP.one (k := 9) (by decide +kernel) rfl ?_
        refine OL.guardC rfl rfl rfl rfl rfl rfl (fun hg => POp.call (.mk' rfl rfl rfl rfl (by first | rfl | ((repeat (first | exact hg | rfl | refine Bool.and_eq_true_iff.2 ⟨?_, ?_⟩)); done) | simp_all [strip, constAV])) (p48 g.W [(notF g.B, notF g.A)] (by simp))) ?_
        refine OL.nil (Done.dp ?_)
        refine DP.one (k := 10) (by decide +kernel) rfl ?_
        refine Pnt ?_
        refine OL.nil (Done.dp ?_)
        refine DP.one (k := 11) (by decide +kernel) rfl ?_
        refine Opk ?_
        refine OL.nil (Done.dp ?_)
        refine DP.one (k := 12) (by decide +kernel) rfl ?_
        refine Omv ?_
        refine OL.nil (Done.dp ?_)
        refine DP.one (k := 13) (by decide +kernel) rfl ?_
        refine Pmv ?_
        refine OL.nil (Done.dp ?_)
        refine DP.one (k := 14) (by decide +kernel) rfl ?_
        refine Pmv ?_
        refine OL.nil (Done.dp ?_)
        refine DP.one (k := 15) (by decide +kernel) rfl ?_
        refine Pmv ?_
        refine OL.nil (Done.dp ?_)
        refine DP.one (k := 16) (by decide +kernel) rfl ?_
        refine Ppk ?_
        refine OL.nil (Done.dp ?_)
        refine DP.one (k := 17) (by decide +kernel) rfl ?_
        refine Pmv ?_
        refine OL.nil (Done.dp ?_)
        refine DP.anyC 18 25 187 rfl (by decide +kernel) rfl rfl (by decide +kernel) ?_
        refine AD.guardC rfl rfl rfl rfl rfl (fun hg => (by first | exact POp.ldA rfl rfl rfl rfl | (apply POp.ldAH rfl rfl rfl; (case hm => repeat (first | exact .head _ | refine .tail _ ?_)); (case hy => rfl); (case hn => rfl)))) ?_
        refine AD.guardC rfl rfl rfl rfl rfl (fun hg => (by first | exact POp.ldA rfl rfl rfl rfl | (apply POp.ldAH rfl rfl rfl; (case hm => repeat (first | exact .head _ | refine .tail _ ?_)); (case hy => rfl); (case hn => rfl)))) ?_
        refine AD.guardC rfl rfl rfl rfl rfl (fun hg => (by first | exact POp.ldA rfl rfl rfl rfl | (apply POp.ldAH rfl rfl rfl; (case hm => repeat (first | exact .head _ | refine .tail _ ?_)); (case hy => rfl); (case hn => rfl)))) ?_
        refine AD.guardC rfl rfl rfl rfl rfl (fun hg => POp.call (.mk' rfl rfl rfl rfl (by first | rfl | ((repeat (first | exact hg | rfl | refine Bool.and_eq_true_iff.2 ⟨?_, ?_⟩)); done) | simp_all [strip, constAV])) ((p38 _ _))) ?_
        refine AD.guardC rfl rfl rfl rfl rfl (fun hg => (by first | exact POp.ldA rfl rfl rfl rfl | (apply POp.ldAH rfl rfl rfl; (case hm => repeat (first | exact .head _ | refine .tail _ ?_)); (case hy => rfl); (case hn => rfl)))) ?_
        refine AD.guardC rfl rfl rfl rfl rfl (fun hg => POp.build' (cs := Pcells (orF g.A g.B, c)) rfl rfl (by first | rfl | ((repeat (first | exact hg | rfl | refine Bool.and_eq_true_iff.2 ⟨?_, ?_⟩)); done) | simp_all [strip, constAV]) (by rfl)) ?_
        refine AD.guardC rfl rfl rfl rfl rfl (fun hg => POp.rowK [(_, AV.agg (Pcells (orF g.A g.B, c)))] rfl rfl (by first | rfl | ((repeat (first | exact hg | rfl | refine Bool.and_eq_true_iff.2 ⟨?_, ?_⟩)); done) | simp_all [strip, constAV]) rfl rfl rfl rfl rfl) ?_
        refine AD.nil ?_
        refine DP.one (k := 25) (by decide +kernel) rfl ?_
        refine OL.guardC rfl rfl rfl rfl rfl rfl (fun hg => POp.call (.mk' rfl rfl rfl rfl (by first | rfl | ((repeat (first | exact hg | rfl | refine Bool.and_eq_true_iff.2 ⟨?_, ?_⟩)); done) | simp_all [strip, constAV])) (p48 g.W [(orF g.A g.B, c)] (by simp))) ?_
        refine OL.nil (Done.dp ?_)
        refine DP.one (k := 26) (by decide +kernel) rfl ?_
        refine Pnt ?_
        refine OL.nil (Done.dp ?_)
        refine DP.one (k := 27) (by decide +kernel) rfl ?_
        refine Ppk ?_
        refine OL.nil (Done.dp ?_)
        refine DP.one (k := 28) (by decide +kernel) rfl ?_
        refine Opk ?_
        refine OL.nil (Done.dp ?_)
        refine DP.one (k := 29) (by decide +kernel) rfl ?_
        refine Omv ?_
        refine OL.nil (Done.dp ?_)
        refine DP.one (k := 30) (by decide +kernel) rfl ?_
        refine Pmv ?_
        refine OL.nil (Done.dp ?_)
        refine DP.one (k := 31) (by decide +kernel) rfl ?_
        refine Pmv ?_
        refine OL.nil (Done.dp ?_)
        refine DP.one (k := 32) (by decide +kernel) rfl ?_
        refine Pmv ?_
        refine OL.nil (Done.dp ?_)
        refine DP.one (k := 33) (by decide +kernel) rfl ?_
        refine Ppk ?_
        refine OL.nil (Done.dp ?_)
        refine DP.one (k := 34) (by decide +kernel) rfl ?_
        refine Pmv ?_
        refine OL.nil (Done.dp ?_)
        refine DP.anyC 35 42 187 rfl (by decide +kernel) rfl rfl (by decide +kernel) ?_
        refine AD.guardC rfl rfl rfl rfl rfl (fun hg => (by first | exact POp.ldA rfl rfl rfl rfl | (apply POp.ldAH rfl rfl rfl; (case hm => repeat (first | exact .head _ | refine .tail _ ?_)); (case hy => rfl); (case hn => rfl)))) ?_
        refine AD.guardC rfl rfl rfl rfl rfl (fun hg => (by first | exact POp.ldA rfl rfl rfl rfl | (apply POp.ldAH rfl rfl rfl; (case hm => repeat (first | exact .head _ | refine .tail _ ?_)); (case hy => rfl); (case hn => rfl)))) ?_
        refine AD.guardC rfl rfl rfl rfl rfl (fun hg => (by first | exact POp.ldA rfl rfl rfl rfl | (apply POp.ldAH rfl rfl rfl; (case hm => repeat (first | exact .head _ | refine .tail _ ?_)); (case hy => rfl); (case hn => rfl)))) ?_
        refine AD.guardC rfl rfl rfl rfl rfl (fun hg => (by first | exact POp.ldA rfl rfl rfl rfl | (apply POp.ldAH rfl rfl rfl; (case hm => repeat (first | exact .head _ | refine .tail _ ?_)); (case hy => rfl); (case hn => rfl)))) ?_
        refine AD.guardC rfl rfl rfl rfl rfl (fun hg => POp.call (.mk' rfl rfl rfl rfl (by first | rfl | ((repeat (first | exact hg | rfl | refine Bool.and_eq_true_iff.2 ⟨?_, ?_⟩)); done) | simp_all [strip, constAV])) ((p36 _ _))) ?_
        refine AD.guardC rfl rfl rfl rfl rfl (fun hg => POp.build' (cs := Pcells (g.A, andF g.B c)) rfl rfl (by first | rfl | ((repeat (first | exact hg | rfl | refine Bool.and_eq_true_iff.2 ⟨?_, ?_⟩)); done) | simp_all [strip, constAV]) (by rfl)) ?_
        refine AD.guardC rfl rfl rfl rfl rfl (fun hg => POp.rowK [(_, AV.agg (Pcells (g.A, andF g.B c)))] rfl rfl (by first | rfl | ((repeat (first | exact hg | rfl | refine Bool.and_eq_true_iff.2 ⟨?_, ?_⟩)); done) | simp_all [strip, constAV]) rfl rfl rfl rfl rfl) ?_
        refine AD.nil ?_
        refine DP.tailC 42 (by decide +kernel) rfl ?_
        refine OL.guardC rfl rfl rfl rfl rfl rfl (fun hg => POp.call (.mk' rfl rfl rfl rfl (by first | rfl | ((repeat (first | exact hg | rfl | refine Bool.and_eq_true_iff.2 ⟨?_, ?_⟩)); done) | simp_all [strip, constAV])) (p48 g.W [(g.A, andF g.B c)] (by simp))) ?_
        refine Pnt ?_; refine Ppk ?_; refine Opk ?_; refine S2 ?_
        refine CW.cond rfl (fun h3 => ?_) (fun h3 => ?_)
        ·
          have t1 := turn_ok hA hB
          have t2 := least_ok hA hB hC
          have t3 := most_ok hA hB hC
          simp only [List.all_cons, List.all_nil, Bool.and_true] at h3
          cases x1 : impC g.W g.A g.B <;> cases x2 : impC g.W g.B c <;> cases x3 : impC g.W g.A c <;> simp_all
        ·
          refine S4 ?_; refine Ola ?_; refine Ola ?_
          refine OL.popC rfl rfl rfl (POp.call (.mk' rfl rfl rfl rfl rfl) (p18c hA)) ?_
          refine Omv ?_; refine Oex ?_; refine Oex ?_; refine Oas ?_; refine Oas ?_; refine S4 ?_; refine Omv ?_; refine Ocm ?_; refine Omv ?_; refine Pmv ?_; refine Pmv ?_; refine Pmv ?_
          refine Pmv ?_; refine Pmv ?_; refine Ppk ?_; refine Ppk ?_; refine Opk ?_; refine Omv ?_
          refine OL.guardC rfl rfl rfl rfl rfl rfl (fun hg => POp.call (.mk' rfl rfl rfl rfl rfl) (p21)) ?_
          refine Opk ?_; refine Oas ?_; refine S3 ?_
          refine r1 4 (H) ?_
          exact ⟨retB (by have t := never_ok hA hB hC; cases x0 : canC g.W g.A <;> cases x1 : impC g.W g.A g.B <;> cases x3 : impC g.W g.A c <;> simp_all), rfl⟩
end Go.Proofs.YtiljpbljebfhnaaGreat
