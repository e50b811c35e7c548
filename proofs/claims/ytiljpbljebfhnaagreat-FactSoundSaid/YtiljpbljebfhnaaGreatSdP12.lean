/- Part 12 of the proof: contracts of functions of the program and what they need. No condition beyond those that each theorem names. -/
import Derived.Test.YtiljpbljebfhnaaGreatSdP11
set_option linter.unusedVariables false
set_option linter.unusedSimpArgs false
set_option maxRecDepth 10000
namespace Go.Proofs.YtiljpbljebfhnaaGreat
open Go.Eng
open Go.Eng.Fc
theorem at_snoc (W : FW) (objs : List Th) (s : Int) : ∀ (p : List Int) (v : Int × Int), atP W objs v (p ++ [s]) = if (atP W objs v p).2 = true ∧ okO W objs (atP W objs v p).1 s = true then (stepO W objs (atP W objs v p).1 s, true) else ((0, 0), false)
 | [], v => by
  rw [List.nil_append, atP, atP, atP]
  by_cases h : okO W objs v s = true
  ·rw [if_pos h, if_pos ⟨rfl, h⟩]
  ·rw [if_neg h, if_neg fun hh => h hh.2]
 | x :: r, v => by
  rw [List.cons_append, atP, atP]
  by_cases h : okO W objs v x = true
  ·rw [if_pos h, if_pos h]; exact at_snoc W objs s r _
  ·rw [if_neg h, if_neg h, if_neg fun hh => by cases hh.1]
theorem toVal_int {W : FW} {objs : List Th} {v : Int × Int} {n : Int} (h : toVal W objs v = .int n) : v.1 = 1 ∧ v.2 = n := by
 unfold toVal at h
 by_cases h1 : v.1 = 1
 ·rw [if_pos h1] at h; cases h; exact ⟨h1, rfl⟩
 ·rw [if_neg h1] at h; split at h <;> cases h
theorem toVal_obj {W : FW} {objs : List Th} {v : Int × Int} {S : Nat → Bool} (h : toVal W objs v = .obj S) : ¬ v.1 = 1 ∧ ¬ v.1 = 2 ∧ S = fun c => upB W (clsAt objs v).toNat c := by
 unfold toVal at h
 by_cases h1 : v.1 = 1
 ·rw [if_pos h1] at h; cases h
 ·rw [if_neg h1] at h
  by_cases h2 : v.1 = 2
  ·rw [if_pos h2] at h; cases h
  ·rw [if_neg h2] at h; cases h; exact ⟨h1, h2, rfl⟩
theorem old_rng {W : FW} {p : List Int} (h : oldB W p = true) : ∀ s ∈ p, 0 ≤ s ∧ s < W.owner.length := fun s hs => by
 have := List.all_eq_true.1 h s hs; simpa using this
theorem vo_in {W : FW} {objs : List Th} {args : List (Int × Int)} {a : Int} {p : List Int} {u : Val} (h : HOk W objs args) (hv : VO W objs args a p = some u) :
  u = .non ∨ ∃ v, valP v objs.length = true ∧ u = toVal W objs v := by
 unfold VO at hv
 split at hv
 ·rename_i ha
  split at hv
  ·rename_i ho
   split at hv
   ·rename_i hb
    exact .inr ⟨_, at_val h.o p _ (h.a _ (getD_mem (by omega))) (old_rng ho) hb, (Option.some.inj hv).symm⟩
   ·cases hv
  ·cases hv
 ·split at hv
  ·exact .inl (Option.some.inj hv).symm
  ·cases hv
theorem vo_ok {W : FW} {objs : List Th} {args : List (Int × Int)} (h : HOk W objs args) : VOk W (VO W objs args) := by
 have hW := h.o.w
 refine ⟨fun a h0 h3 => ?_, fun a p n hv => ?_, fun a p S hv => ?_, fun a p s h0 h1 => ?_⟩
 ·unfold VO
  by_cases ha : 0 ≤ a ∧ a < args.length
  ·rw [if_pos ha, show oldB W [] = true from rfl, if_pos rfl, atP, if_pos rfl]; rfl
  ·rw [if_neg ha, if_pos ⟨h0, h3, rfl⟩]; rfl
 ·rcases vo_in h hv with e | ⟨v, hvv, e⟩
  ·cases e
  ·obtain ⟨e1, rfl⟩ := toVal_int e.symm
   rw [valP, if_pos e1] at hvv
   simp only [Bool.and_eq_true, decide_eq_true_eq] at hvv
   exact ⟨hvv.1, hvv.2⟩
 ·rcases vo_in h hv with e | ⟨v, hvv, e⟩
  ·cases e
  ·obtain ⟨e1, e2, rfl⟩ := toVal_obj e.symm
   have hc := cls_rng h.o hvv (by have := val_kind hvv; omega)
   refine ⟨upB_zero hW (by omega), ?_, ?_, fun c hcl hS b hub => upB_trans hW _ _ (Nat.le_refl _) (by omega) c b hS hub⟩
   ·cases hx : upB W (clsAt objs v).toNat 1 with
    | false => exact hx
    | true => have := upB_le hW _ _ (Nat.le_refl _) (by omega) 1 hx; omega
   ·cases hx : upB W (clsAt objs v).toNat 2 with
    | false => exact hx
    | true => have := upB_le hW _ _ (Nat.le_refl _) (by omega) 2 hx; omega
 ·unfold VO
  by_cases ha : 0 ≤ a ∧ a < args.length
  ·rw [if_pos ha, if_pos ha]
   have hold : oldB W (p ++ [s]) = oldB W p := by rw [oldB, List.all_append, ← oldB]; simp [h0, h1]
   rw [hold]
   cases ho : oldB W p with
   | false => simp
   | true =>
    rw [if_pos rfl, if_pos rfl, at_snoc]
    have hval := at_val h.o p (args.getD a.toNat default) (h.a _ (getD_mem (by omega))) (old_rng ho)
    generalize atP W objs (args.getD a.toNat default) p = r at hval ⊢
    obtain ⟨v, b⟩ := r
    cases b with
    | false => simp
    | true =>
     have hval := hval rfl
     simp only [true_and, if_true]
     have hcls : v.1 = 3 → hasP W (clsAt objs v) s = upB W (clsAt objs v).toNat (ownerN W s) := fun _ => rfl
     constructor
     ·intro hh
      by_cases hk : okO W objs v s = true
      ·rw [okO, Bool.and_eq_true, beq_iff_eq] at hk
       have h3 := hk.1
       exact ⟨fun c => upB W (clsAt objs v).toNat c, by unfold toVal; rw [if_neg (by omega), if_neg (by omega)], hk.2⟩
      ·rw [if_neg hk] at hh; cases hh
     ·rintro ⟨S, hS, hSo⟩
      obtain ⟨e1, e2, rfl⟩ := toVal_obj (Option.some.inj hS)
      have e3 : v.1 = 3 := by
       rcases val_kind hval with e | e | e
       ·exact absurd e e1
       ·exact absurd e e2
       ·exact e
      rw [if_pos (show okO W objs v s = true by rw [okO, Bool.and_eq_true, beq_iff_eq]; exact ⟨e3, hSo⟩)]; rfl
  ·rw [if_neg ha, if_neg ha, if_neg (by simp)]
   constructor
   ·intro hh; cases hh
   ·rintro ⟨S, hS, _⟩
    split at hS <;> cases hS
theorem getD_set_ne {α : Type} [Inhabited α] {l : List α} {w i : Nat} {x : α} (h : i ≠ w) : (l.set w x).getD i default = l.getD i default := by
 rw [List.getD_eq_getElem?_getD, List.getElem?_set_ne (Ne.symm h), List.getD_eq_getElem?_getD]
structure Prf (W : FW) (a b : Fact) (p : List (List Int)) : Prop where
 len : p.length ≤ 400
 ok : PCall Tryz.prog 53 [AV.world W, AV.fact a, AV.fact b, AV.intss p] (.tup [.b true, .i 0])
 ne : ∀ w, w < p.length → p.getD w default ≠ []
 lens : ∀ w, w < p.length → (p.getD w default).length ≤ 300
 less : ∀ w, w < p.length → ∀ k, k < (p.getD w default).length → PCall Tryz.prog 53 [AV.world W, AV.fact a, AV.fact b, AV.intss (p.set w ((p.getD w default).eraseIdx k))] (.tup [.b false, .i 0])
 more : ∀ w, w < p.length → ∀ x : Int, 0 ≤ x → (p.getD w default).contains x = false → ∃ r e, ((r = true ∧ e = (0 : Int)) ∨ (r = false ∧ e = 2)) ∧ PCall Tryz.prog 53 [AV.world W, AV.fact a, AV.fact b, AV.intss (p.set w (sortI (p.getD w default ++ [x])))] (.tup [.b r, .i e])
theorem Done.freezeRowCell {c : Ctx} {ex : Exit} {Q : Exit → Act → World → Prop} {env : List (Nat × AV)} {fb t tb k : Nat} {v : Value} {els : List (List AV)} {xs ys : List AV} {R : List Ent} (hk : ∀ e ∈ els, e.length = k)
  (h : Done c ⟨env, .blk fb tb (xs ++ .sl k els :: ys) :: R⟩ ex Q) : Done c ⟨env, .row t k v els.length els.flatten :: .blk fb tb (xs ++ .val v :: ys) :: R⟩ ex Q := fun a w s => by
 refine h a w ?_
 obtain ⟨I, hw, he, hh, hv⟩ := s.mem
 obtain ⟨J, j1, j2, j3, j4⟩ := HeapOk.freezeRow hw hh hk
 refine ⟨s.ds, s.size, J, j1, he.trans j2, HeapOk.head j3 (fun ⟨q1, us, q2, q3, q4⟩ => ⟨q1, us, q2, RelL.replace (fun u hu => ?_) q3, q4⟩) rfl, hv.keep j2.keeps⟩
 rw [rel_val hu]
 exact j4
theorem Sat.freezeRowCell {c : Ctx} {a : Act} {w : World} {env : List (Nat × AV)} {fb t tb k : Nat} {v : Value} {els : List (List AV)} {xs ys : List AV} {R : List Ent} (hk : ∀ e ∈ els, e.length = k)
  (s : Sat c ⟨env, .row t k v els.length els.flatten :: .blk fb tb (xs ++ .val v :: ys) :: R⟩ a w) : Sat c ⟨env, .blk fb tb (xs ++ .sl k els :: ys) :: R⟩ a w := by
 obtain ⟨I, hw, he, hh, hv⟩ := s.mem
 obtain ⟨J, j1, j2, j3, j4⟩ := HeapOk.freezeRow hw hh hk
 refine ⟨s.ds, s.size, J, j1, he.trans j2, HeapOk.head j3 (fun ⟨q1, us, q2, q3, q4⟩ => ⟨q1, us, q2, RelL.replace (fun u hu => ?_) q3, q4⟩) rfl, hv.keep j2.keeps⟩
 rw [rel_val hu]
 exact j4
theorem CW.freezeRowCell {c : Ctx} {r : Option Nat} {P : Program} {p : Code} {Q : Exit → Act → World → Prop} {env : List (Nat × AV)} {fb t tb k : Nat} {v : Value} {els : List (List AV)} {xs ys : List AV} {R : List Ent} (hk : ∀ e ∈ els, e.length = k)
  (h : CW c r P p ⟨env, .blk fb tb (xs ++ .sl k els :: ys) :: R⟩ Q) : CW c r P p ⟨env, .row t k v els.length els.flatten :: .blk fb tb (xs ++ .val v :: ys) :: R⟩ Q := fun a w s => h a w (Sat.freezeRowCell hk s)
abbrev AV.sets (l : List Nat) : AV := .sl 1 (l.map fun s => [AV.set s])
def idxN (l : List Nat) (v : Nat) : Int := match l.findIdx? (fun x => x == v) with | some i => (i : Int) | none => -1
theorem idxN_at {l : List Nat} {v : Nat} {k : Nat} (hk : k < l.length) (hp : ∀ x ∈ l.take k, x ≠ v) (h : v = l.getD k default) : (k : Int) = idxN l v := by
 have e : l.findIdx? (fun x => x == v) = some k := by
  rw [List.findIdx?_eq_some_iff_getElem]
  refine ⟨hk, by rw [h, getD_lt hk]; simp, fun j hj => ?_⟩
  have := hp l[j] (List.mem_take_iff_getElem.2 ⟨j, by omega, rfl⟩)
  simpa using this
 rw [idxN, e]
theorem idxN_none {l : List Nat} {v : Nat} (hp : ∀ x ∈ l, x ≠ v) : (-1 : Int) = idxN l v := by
 have e : l.findIdx? (fun x => x == v) = none := by
  rw [List.findIdx?_eq_none_iff]
  intro x hx
  simpa using hp x hx
 rw [idxN, e]
theorem ne_stepN {l : List Nat} {v : Nat} {k : Nat} (hk : k < l.length) (h : ∀ x ∈ l.take k, x ≠ v) (h1 : ¬ v = l.getD k default) : ∀ x ∈ l.take (k + 1), x ≠ v := by
 intro x hx
 rw [← take_getD hk] at hx
 rcases List.mem_append.1 hx with hx | hx
 ·exact h x hx
 ·rw [List.mem_singleton] at hx; rw [hx]; exact fun e => h1 e.symm
theorem p203 (l : List Nat) (v : Nat) : PCall Tryz.prog 203 [AV.sets l, AV.set v] (.i (idxN l v)) := by
 intro H
 refine ACall.mk' (n := 19) Tryz.func203 rfl (by kernel_rfl) rfl rfl (fun B I w0 => ?_)
 refine CW.boundM (t := 0) rfl (fun hb0 => ?_)
 refine S2 ?_; refine Oas ?_; refine S5 ?_; refine Omv ?_; refine Oln ?_; refine Omv ?_; refine S3 ?_
 refine lj (fun m st => ∃ k : Nat, st = ⟨[(8, .i k), (7, .i l.length), (0, AV.sets l), (1, AV.set v)], H⟩ ∧ m = l.length - k ∧ k ≤ l.length ∧ ∀ x ∈ l.take k, x ≠ v) (⟨0, rfl, rfl, by simp, by simp⟩) ?_
 rintro m _ ⟨k, rfl, rfl, hk, hp⟩
 refine S2 ?_; refine Ocm ?_; refine S3 ?_
 refine CW.cond rfl (fun h0 => ?_) (fun h0 => ?_)
 ·
  replace h0 := nm h0
  refine S6 ?_; refine Omv ?_; refine Oas ?_; refine S4 ?_; refine Omv ?_; refine Omv ?_; refine Omv ?_; refine Oix ?_; refine Old ?_; refine Ocm ?_; refine S2 ?_
  refine CW.cond rfl (fun h1 => ?_) (fun h1 => ?_)
  ·
   have h1 : v = l.getD k default := by simpa [Int.ofNat_inj] using h1
   refine S2 ?_; refine Omv ?_; refine Oas ?_; refine S8 ?_
   refine r1 4 (H) ?_
   exact ⟨retI (idxN_at (by omega) hp h1), rfl⟩
  ·
   have h1 : ¬ v = l.getD k default := fun e => by rw [← e] at h1; simp at h1
   refine S4 ?_; refine Oar ?_; refine Omv ?_; refine S1 ?_
   exact ag (⟨k + 1, rfl, rfl, by omega, ne_stepN (by omega) hp h1⟩)
 ·
  replace h0 := nm h0
  refine S7 ?_; refine Oas ?_; refine S3 ?_
  refine r1 4 (H) ?_
  exact ⟨retI (idxN_none (by have e : k = l.length := (by omega); rw [e, List.take_length] at hp; exact hp)), rfl⟩
def isUp (W : FW) (s : Nat) (c : Nat) : Bool := andNotP ((upsP W).getD c 0) 1 == s
def oldC (W : FW) (s : Nat) : Option Nat := (List.range (3 + W.parents.length)).find? fun c => decide (3 ≤ c) && isUp W s c
def classP (W : FW) (bits : List Nat) (s : Nat) : Int × List Nat := match oldC W s with
 | some c => ((c : Int), bits)
 | none => if bits.contains s then (3 + (W.parents.length : Int) + idxN bits s, bits) else (3 + (W.parents.length : Int) + bits.length, bits ++ [s])
theorem old_at {W : FW} {s c : Nat} (hc : c < 3 + W.parents.length) (h3 : 3 ≤ c) (hp : ∀ k, 3 ≤ k → k < c → isUp W s k = false) (h : isUp W s c = true) : oldC W s = some c := by
 rw [oldC, List.find?_range_eq_some]
 refine ⟨by rw [h, Bool.and_true, decide_eq_true h3], List.mem_range.2 hc, fun j hj => ?_⟩
 by_cases h3j : 3 ≤ j
 ·rw [hp j h3j hj]; simp
 ·rw [decide_eq_false h3j]; rfl
theorem old_none {W : FW} {s : Nat} (hp : ∀ k, 3 ≤ k → k < 3 + W.parents.length → isUp W s k = false) : oldC W s = none := by
 rw [oldC, List.find?_eq_none]
 intro c hc
 have := List.mem_range.1 hc
 by_cases h3 : 3 ≤ c
 ·rw [hp c h3 this]; simp
 ·rw [decide_eq_false h3]; simp
theorem idxN_lt {l : List Nat} {v : Nat} : idxN l v < 0 ↔ l.contains v = false := by
 unfold idxN
 cases h : l.findIdx? (fun x => x == v) with
 | none =>
  have := List.findIdx?_eq_none_iff.1 h
  simp only [Int.reduceNeg, Int.reduceLT, true_iff, List.contains_eq_any_beq, List.any_eq_false]
  intro x hx
  have := this x hx
  simp at this
  simpa using fun e => this e.symm
 | some i =>
  obtain ⟨hi, h1, _⟩ := List.findIdx?_eq_some_iff_getElem.1 h
  have : l.contains v = true := List.contains_iff_mem.2 (by rw [← (by simpa using h1 : l[i] = v)]; exact List.getElem_mem hi)
  rw [this]
  simp
abbrev mdlH (W : FW) (mb xb : Nat) (bv ov : Value) (bits : List Nat) (objs : List (Int × List (Int × Int))) (Hx : List Ent) : List Ent :=
 .blk xb 154 [sceneP W mb, .val bv, .val ov] :: .row 135 1 bv (bits.map fun s => [AV.set s]).length (bits.map fun s => [AV.set s]).flatten :: .row 160 2 ov (objs.map fun o => [AV.i o.1, AV.vals o.2]).length (objs.map fun o => [AV.i o.1, AV.vals o.2]).flatten :: Hx
theorem class_old {W : FW} {bits : List Nat} {s c : Nat} (hc : c < 3 + W.parents.length) (h3 : 3 ≤ c) (hp : ∀ k, 3 ≤ k → k < c → isUp W s k = false) (h : isUp W s c = true) : classP W bits s = ((c : Int), bits) := by rw [classP, old_at hc h3 hp h]
theorem class_in {W : FW} {bits : List Nat} {s : Nat} (ho : oldC W s = none) (h : ¬ idxN bits s < 0) : classP W bits s = (3 + (W.parents.length : Int) + idxN bits s, bits) := by
 have hb : bits.contains s = true := by
  cases hb : bits.contains s with
  | true => rfl
  | false => exact absurd (idxN_lt.2 hb) h
 rw [classP, ho]; simp only [hb, if_true]
theorem class_new {W : FW} {bits : List Nat} {s : Nat} (ho : oldC W s = none) (h : idxN bits s < 0) : classP W bits s = (3 + (W.parents.length : Int) + bits.length, bits ++ [s]) := by
 have hb := idxN_lt.1 h
 rw [classP, ho]
 show (if bits.contains s = true then _ else _) = _
 rw [hb]; rfl
theorem idxN_le (l : List Nat) (v : Nat) : -1 ≤ idxN l v ∧ idxN l v < l.length ∨ l.length = 0 ∧ idxN l v = -1 := by
 unfold idxN
 cases h : l.findIdx? (fun x => x == v) with
 | none => rcases Nat.eq_zero_or_pos l.length with h0 | h0; exact .inr ⟨h0, rfl⟩; exact .inl ⟨by simp, by simp only; omega⟩
 | some i =>
  obtain ⟨hi, _, _⟩ := List.findIdx?_eq_some_iff_getElem.1 h
  exact .inl ⟨by simp only; omega, by simp only; omega⟩
theorem b169 {W : FW} (hw : worldP W = true) (mb xb : Nat) (bv ov : Value) (bits : List Nat) (objs : List (Int × List (Int × Int))) (s : Nat) (hbl : bits.length ≤ 100000) (Hx : List Ent) (B : Nat) :
  BCall B Tryz.prog 169 [.p xb 0, AV.set s] (mdlH W mb xb bv ov bits objs Hx) (fun y H' => ∃ bv', y = .i (classP W bits s).1 ∧ H' = mdlH W mb xb bv' ov (classP W bits s).2 objs Hx) (fun _ => False) := by
 refine BCall.of (n := 68) Tryz.func169 rfl (by kernel_rfl) rfl rfl (fun I w0 => ?_)
 have hW := world_own hw
 have hP := world_len hw
 have hix := idxN_le bits s
 have hbm : (bits.map fun s => [AV.set s]).length = bits.length := List.length_map _
 refine S2 ?_; refine Oas ?_; refine S4 ?_; refine Omv ?_; refine Onc ?_; refine Ofa ?_; refine Old ?_; refine Onc ?_; refine Ofa ?_; refine Old ?_; refine Onc ?_; refine Ofa ?_
 refine Ofa ?_; refine Old ?_; refine Oln ?_; refine Oar ?_; refine Oas ?_; refine S5 ?_; refine Oas ?_; refine S3 ?_
 refine lj (fun m st => ∃ c : Nat, st = ⟨[(6, .i c), (5, .i (3 + (W.parents.length : Int))), (0, .p xb 0), (1, AV.set s)], mdlH W mb xb bv ov bits objs Hx⟩ ∧ m = 3 + W.parents.length - c ∧ 3 ≤ c ∧ c ≤ 3 + W.parents.length ∧ ∀ k, 3 ≤ k → k < c → isUp W s k = false) (⟨3, rfl, rfl, by omega, by omega, fun k h1 h2 => by omega⟩) ?_
 rintro m _ ⟨c, rfl, rfl, hc3, hc, hp⟩
 refine S3 ?_; refine Omv ?_; refine Omv ?_; refine Ocm ?_; refine S2 ?_
 refine CW.cond rfl (fun h0 => ?_) (fun h0 => ?_)
 ·
  replace h0 := nm h0
  have hcl : c < 3 + W.parents.length := by omega
  refine S6 ?_; refine Omv ?_; refine Onc ?_; refine Ofa ?_; refine Old ?_; refine Onc ?_; refine Ofa ?_; refine Old ?_; refine Omv ?_; refine Onc ?_; refine Ofa ?_; refine Oia ?_
  refine OL.popC rfl rfl rfl (POp.ld1 rfl rfl rfl (up_drop (c := c) (by simp) (by rw [ups_len]; omega))) ?_
  refine OL.popC rfl rfl rfl (POp.bits rfl rfl rfl rfl rfl (bit_andNot _ 1)) ?_
  refine Omv ?_; refine Ocm ?_; refine S2 ?_
  refine CW.cond rfl (fun h1 => ?_) (fun h1 => ?_)
  ·
   have hu : isUp W s c = true := by simpa [isUp, Int.ofNat_inj] using h1
   have hcp := class_old (bits := bits) hcl hc3 hp hu
   refine S2 ?_; refine Omv ?_; refine Oas ?_; refine S8 ?_
   refine Done.retR (rs := [.tmp 4]) rfl (.tmp rfl (.nil)) (AVleL.refl _) (by exact List.Sublist.refl _) ?_
   exact ⟨bv, by rw [hcp]; rfl, by rw [hcp]⟩
  ·
   have hu : isUp W s c = false := by simpa [isUp, Int.ofNat_inj] using h1
   refine S4 ?_; refine Omv ?_; refine Oar ?_; refine Oas ?_; refine S1 ?_
   exact ag (⟨c + 1, rfl, rfl, by omega, by omega, fun k h1 h2 => by by_cases e : k = c; rw [e]; exact hu; exact hp k h1 (by omega)⟩)
 ·
  replace h0 := nm h0
  obtain rfl : c = 3 + W.parents.length := by omega
  have ho := old_none hp
  refine S7 ?_; refine Omv ?_; refine Onc ?_; refine Ofa ?_; refine Old ?_; refine Omv ?_
  refine OL.popC rfl rfl rfl (POp.callB (.mk' rfl rfl rfl rfl rfl) (Borrow.row (t := 135) (k := 1) (pre := []) (post := [AV.set s]) (.tail _ (.head _)) (by simp)) (p203 bits s)) ?_
  refine Oas ?_; refine S5 ?_; refine Omv ?_; refine Ocm ?_; refine S2 ?_
  refine CW.cond rfl (fun h2 => ?_) (fun h2 => ?_)
  ·
   replace h2 := nm h2
   have hcp := class_new ho h2
   refine S2 ?_; refine Omv ?_; refine Onc ?_; refine Ofa ?_; refine Old ?_
   refine OL.popC rfl rfl rfl (POp.lenR rfl rfl rfl (.tail _ (.head _))) ?_
   refine Oas ?_; refine S3 ?_; refine Omv ?_; refine Omv ?_; refine Onc ?_; refine Ofa ?_; refine Old ?_; refine Omv ?_
   refine OL.popC rfl rfl rfl (POp.row rfl rfl (by first | rfl | simp_all [strip]) rfl rfl rfl rfl rfl rfl) ?_
   refine OL.appendRow (news := [[AV.set s]]) rfl rfl rfl rfl rfl rfl rfl rfl (AVle.refl _) (by simp) rfl (fun v => by repeat (first | exact Upd.head _ _ _ | apply Upd.tail)) (by simp only [List.length_map, List.length_cons, List.length_nil]; omega) (by simp only [List.length_map, List.length_cons, List.length_nil]; omega) (fun v62 => ?_)
   refine Onc ?_; refine Ofa ?_
   refine OL.rowOne (v := v62) (.tail _ (.head _)) (fun hv62 => ?_)
   apply OL.stoC rfl rfl rfl rfl rfl rfl rfl (one_bOk hv62) (one_all hv62) rfl
   (case hu => repeat (first | exact Upd.head _ _ _ | apply Upd.tail)); (case hfit => rfl); (case hds => rfl)
   refine S4 ?_; refine Omv ?_; refine Omv ?_; refine Oar ?_; refine Oas ?_; refine S3 ?_
   refine Done.retR (rs := [.tmp 4]) rfl (.tmp rfl (.nil)) (AVleL.refl _) (by exact List.Sublist.refl _) ?_
   exact ⟨v62, by rw [hcp]; simp [tupOf], by rw [hcp]; simp [bcells]⟩
  ·
   have hcp := class_in (bits := bits) (s := s) ho (by simpa using h2)
   have hi0 : ¬ idxN bits s < 0 := by simpa using h2
   refine S4 ?_; refine Omv ?_; refine Omv ?_; refine Oar ?_; refine Oas ?_; refine S3 ?_
   refine Done.retR (rs := [.tmp 4]) rfl (.tmp rfl (.nil)) (AVleL.refl _) (by exact List.Sublist.refl _) ?_
   exact ⟨bv, by rw [hcp]; rfl, by rw [hcp]⟩
abbrev Obs := List (Int × List (Int × Int))
abbrev MSt := List Nat × Obs
def childCan (W : FW) (kn : Value → Kn) (arg : Int) : Nat → List Int → Bool
 | 0 => fun _ => false
 | d + 1 => canK W kn d arg
theorem p168d {W : FW} {mb : Nat} {kn : Value → Kn} (K : KnOk W kn) (hw : worldP W = true) {arg : Int} : ∀ (d : Nat) (path : List Int), goodSpot arg path → path.length + d = 2 →
  PCallIn Tryz.prog [sceneH mb kn] 168 [sceneP W mb, AV.spot arg path] (.tup [AV.set (objectK W kn (childCan W kn arg d) arg path).1, .b (objectK W kn (childCan W kn arg d) arg path).2])
 | 0, path, h, hd => p168_step K hw h (fun _ => false) (fun s hs => by rw [K.deep arg path h (by omega)] at hs; cases hs)
 | d + 1, path, h, hd => p168_step K hw h (canK W kn d arg) (fun s hs => p186 K hw d (path ++ [s]) (kn_next K (world_own hw) h hs).2 (by simp; omega))
def slotV (W : FW) (kn : Value → Kn) (arg : Int) (rec : MSt → List Int → (Int × Int) × MSt) (set : Nat) (path : List Int) (acc : List (Int × Int) × MSt) (k : Nat) : List (Int × Int) × MSt :=
 if set.testBit (W.owner.getD k default).toNat then
  if (kn (keyS arg path)).slots.contains (k : Int) then (acc.1 ++ [(rec acc.2 (path ++ [(k : Int)])).1], (rec acc.2 (path ++ [(k : Int)])).2) else (acc.1 ++ [(2, 0)], acc.2)
 else acc
def slotsV (W : FW) (kn : Value → Kn) (arg : Int) (rec : MSt → List Int → (Int × Int) × MSt) (set : Nat) (path : List Int) (st : MSt) (k : Nat) : List (Int × Int) × MSt := (List.range k).foldl (slotV W kn arg rec set path) ([], st)
theorem slotsV_succ (W : FW) (kn : Value → Kn) (arg : Int) (rec : MSt → List Int → (Int × Int) × MSt) (set : Nat) (path : List Int) (st : MSt) (k : Nat) : slotsV W kn arg rec set path st (k + 1) = slotV W kn arg rec set path (slotsV W kn arg rec set path st k) k := by
 rw [slotsV, List.range_succ, List.foldl_append]; rfl
def valueS (W : FW) (kn : Value → Kn) (arg : Int) (d : Nat) (rec : MSt → List Int → (Int × Int) × MSt) (st : MSt) (path : List Int) : (Int × Int) × MSt :=
 if integerOk kn arg path then ((1, freeK (kn (keyS arg path)).nots (kn (keyS arg path)).low), st)
 else if noneOk kn arg path then ((2, 0), st)
 else
  let set := (objectK W kn (childCan W kn arg d) arg path).1
  let c := classP W st.1 set
  let r := slotsV W kn arg rec set path (c.2, st.2 ++ [(c.1, [])]) W.owner.length
  ((3, (st.2.length : Int)), (r.2.1, r.2.2.set st.2.length ((r.2.2.getD st.2.length default).1, r.1)))
def valueP (W : FW) (kn : Value → Kn) (arg : Int) : Nat → MSt → List Int → (Int × Int) × MSt
 | 0 => valueS W kn arg 0 fun st _ => ((2, 0), st)
 | d + 1 => valueS W kn arg (d + 1) (valueP W kn arg d)
def mostV : Nat → Nat
 | 0 => 1
 | d + 1 => 1 + 40 * mostV d
theorem class_len (W : FW) (bits : List Nat) (s : Nat) : bits.length ≤ (classP W bits s).2.length ∧ (classP W bits s).2.length ≤ bits.length + 1 := by
 unfold classP
 split
 ·exact ⟨Nat.le_refl _, Nat.le_succ _⟩
 ·split
  ·exact ⟨Nat.le_refl _, Nat.le_succ _⟩
  ·simp
def Grows (n : Nat) (st st' : MSt) : Prop := st'.1.length ≤ st.1.length + n ∧ st.2.length ≤ st'.2.length ∧ st'.2.length ≤ st.2.length + n
theorem slots_grow {W : FW} {kn : Value → Kn} {arg : Int} {rec : MSt → List Int → (Int × Int) × MSt} {set n : Nat} {path : List Int} {st : MSt} (hr : ∀ s ∈ (kn (keyS arg path)).slots, ∀ st, Grows n st (rec st (path ++ [s])).2) : ∀ k, Grows (k * n) st (slotsV W kn arg rec set path st k).2 ∧ (slotsV W kn arg rec set path st k).1.length ≤ k
 | 0 => ⟨⟨by simp [slotsV], Nat.le_refl _, by simp [slotsV]⟩, Nat.le_refl _⟩
 | k + 1 => by
  obtain ⟨⟨h1, h2, h3⟩, h4⟩ := slots_grow hr k
  rw [slotsV_succ]
  generalize slotsV W kn arg rec set path st k = acc at *
  rw [Nat.succ_mul]
  unfold slotV
  split
  ·split
   ·rename_i hc
    obtain ⟨g1, g2, g3⟩ := hr (k : Int) (List.contains_iff_mem.1 hc) acc.2
    exact ⟨⟨by show (rec acc.2 _).2.1.length ≤ _; omega, by show _ ≤ (rec acc.2 _).2.2.length; omega, by show (rec acc.2 _).2.2.length ≤ _; omega⟩, by simp; omega⟩
   ·exact ⟨⟨by show acc.2.1.length ≤ _; omega, h2, by show acc.2.2.length ≤ _; omega⟩, by simp; omega⟩
  ·exact ⟨⟨by omega, h2, by omega⟩, by omega⟩
theorem value_grow_step {W : FW} {kn : Value → Kn} {arg : Int} (hW : W.owner.length ≤ 40) {d n : Nat} {rec : MSt → List Int → (Int × Int) × MSt} {path : List Int} (hr : ∀ s ∈ (kn (keyS arg path)).slots, ∀ st, Grows n st (rec st (path ++ [s])).2) (st : MSt) : Grows (1 + 40 * n) st (valueS W kn arg d rec st path).2 := by
 unfold valueS
 split
 ·exact ⟨by show st.1.length ≤ _; omega, Nat.le_refl _, by show st.2.length ≤ _; omega⟩
 ·split
  ·exact ⟨by show st.1.length ≤ _; omega, Nat.le_refl _, by show st.2.length ≤ _; omega⟩
  ·generalize (objectK W kn (childCan W kn arg d) arg path).1 = set
   obtain ⟨⟨h1, h2, h3⟩, _⟩ := slots_grow (W := W) (set := set) (st := ((classP W st.1 set).2, st.2 ++ [((classP W st.1 set).1, [])])) hr W.owner.length
   have hc := class_len W st.1 set
   have hm : W.owner.length * n ≤ 40 * n := Nat.mul_le_mul_right n hW
   simp only [List.length_append, List.length_singleton] at h1 h2 h3
   refine ⟨?_, ?_, ?_⟩
   ·show (slotsV W kn arg rec set path _ _).2.1.length ≤ _; omega
   ·show _ ≤ (List.set _ _ _).length; rw [List.length_set]; omega
   ·show (List.set _ _ _).length ≤ _; rw [List.length_set]; omega
theorem value_grow {W : FW} {kn : Value → Kn} (K : KnOk W kn) (hW : W.owner.length ≤ 40) {arg : Int} : ∀ (d : Nat) (path : List Int), goodSpot arg path → path.length + d = 2 → ∀ st, Grows (mostV d) st (valueP W kn arg d st path).2
 | 0, path, h, hd, st => by
  have := value_grow_step (W := W) (d := 0) (n := 0) hW (rec := fun st _ => ((2, 0), st)) (path := path) (arg := arg) (kn := kn) (fun s hs => by rw [K.deep arg path h (by omega)] at hs; cases hs) st
  exact this
 | d + 1, path, h, hd, st => value_grow_step (W := W) (d := d + 1) (n := mostV d) hW (rec := valueP W kn arg d) (fun s hs => value_grow K hW d (path ++ [s]) (kn_next K hW h hs).2 (by simp; omega)) st
theorem obj_len (l : Obs) : (l.map fun o => [AV.i o.1, AV.vals o.2]).flatten.length = l.length * 2 := flatten_len (k := 2) (fun e he => by obtain ⟨o, _, rfl⟩ := List.mem_map.1 he; rfl) |>.trans (by rw [List.length_map])
theorem obj_set {l : Obs} {w : Nat} {more : List AV} (hw : w < l.length) (x : List (Int × Int)) :
  ((l.map fun o => [AV.i o.1, AV.vals o.2]).flatten ++ more).take (0 + (w : Int).toNat * 2 + 1) ++ [AV.vals x] ++ ((l.map fun o => [AV.i o.1, AV.vals o.2]).flatten ++ more).drop (0 + (w : Int).toNat * 2 + 1 + 1) = ((l.set w ((l.getD w default).1, x)).map fun o => [AV.i o.1, AV.vals o.2]).flatten ++ more := by
 have e0 : l = l.take w ++ l.getD w default :: l.drop (w + 1) := by
  rw [getD_lt hw, ← List.drop_eq_getElem_cons hw, List.take_append_drop]
 have hl : (l.take w).length = w := by simp; omega
 have e2 : l.set w ((l.getD w default).1, x) = l.take w ++ ((l.getD w default).1, x) :: l.drop (w + 1) := by rw [List.set_eq_take_append_cons_drop, if_pos hw]
 rw [e2]
 generalize l.getD w default = o at *
 generalize l.take w = A at *
 generalize l.drop (w + 1) = C at *
 subst e0
 have hA := obj_len A
 rw [hl] at hA
 have e3 : 0 + (w : Int).toNat * 2 + 1 = (A.map fun o => [AV.i o.1, AV.vals o.2]).flatten.length + 1 := by rw [hA]; simp
 rw [e3, List.map_append, List.flatten_append, List.map_cons, List.flatten_cons, List.map_append, List.flatten_append, List.map_cons, List.flatten_cons]
 simp only [List.append_assoc]
 generalize (A.map fun o => [AV.i o.1, AV.vals o.2]).flatten = F
 generalize (C.map fun o => [AV.i o.1, AV.vals o.2]).flatten = R
 rw [List.take_append, List.drop_append, List.take_of_length_le (by omega), List.drop_eq_nil_of_le (by omega), show F.length + 1 - F.length = 1 by omega, show F.length + 1 + 1 - F.length = 2 by omega]
 simp
theorem objK_lt {W : FW} {kn : Value → Kn} {can : List Int → Bool} {arg : Int} {path : List Int} : (objectK W kn can arg path).1 < 18446744073709551616 := by
 unfold objectK
 dsimp only
 split
 ·decide
 ·split
  ·decide
  ·exact andNot_lt _ _
theorem value_int {W : FW} {kn : Value → Kn} {arg : Int} {d : Nat} {rec : MSt → List Int → (Int × Int) × MSt} {st : MSt} {path : List Int} (hi : integerOk kn arg path = true) : valueS W kn arg d rec st path = ((1, freeK (kn (keyS arg path)).nots (kn (keyS arg path)).low), st) := if_pos hi
theorem value_none {W : FW} {kn : Value → Kn} {arg : Int} {d : Nat} {rec : MSt → List Int → (Int × Int) × MSt} {st : MSt} {path : List Int} (hi : integerOk kn arg path = false) (hn : noneOk kn arg path = true) : valueS W kn arg d rec st path = ((2, 0), st) := by
 rw [valueS, if_neg (by rw [hi]; simp), if_pos hn]
theorem value_obj {W : FW} {kn : Value → Kn} {arg : Int} {d : Nat} {rec : MSt → List Int → (Int × Int) × MSt} {st : MSt} {path : List Int} {set : Nat} {r : List (Int × Int) × MSt} (hi : integerOk kn arg path = false) (hn : noneOk kn arg path = false) (hs : (objectK W kn (childCan W kn arg d) arg path).1 = set)
  (hr : r = slotsV W kn arg rec set path ((classP W st.1 set).2, st.2 ++ [((classP W st.1 set).1, [])]) W.owner.length) : valueS W kn arg d rec st path = ((3, (st.2.length : Int)), (r.2.1, r.2.2.set st.2.length ((r.2.2.getD st.2.length default).1, r.1))) := by
 subst hs; subst hr
 rw [valueS, if_neg (by rw [hi]; simp), if_neg (by rw [hn]; simp)]
theorem b116_step {W : FW} {mb xb : Nat} {kn : Value → Kn} (K : KnOk W kn) (hw : worldP W = true) {arg : Int} {path : List Int} (h : goodSpot arg path) (d : Nat) (hd : path.length + d = 2) (n : Nat) (rec : MSt → List Int → (Int × Int) × MSt)
  (hrec : ∀ s ∈ (kn (keyS arg path)).slots, ∀ st, Grows n st (rec st (path ++ [s])).2)
  (ih : ∀ s ∈ (kn (keyS arg path)).slots, ∀ (bv ov : Value) (st : MSt) (Hx : List Ent) (B : Nat), st.1.length + n ≤ 10000 → st.2.length + n ≤ 10000 → BCall B Tryz.prog 116 [.p xb 0, AV.spot arg (path ++ [s])] (mdlH W mb xb bv ov st.1 st.2 (sceneH mb kn :: Hx))
   (fun y H' => ∃ bv' ov', y = AV.vl (rec st (path ++ [s])).1 ∧ H' = mdlH W mb xb bv' ov' (rec st (path ++ [s])).2.1 (rec st (path ++ [s])).2.2 (sceneH mb kn :: Hx)) (fun _ => False))
  (bv ov : Value) (st : MSt) (Hx : List Ent) (B : Nat) (hb1 : st.1.length + (1 + 40 * n) ≤ 10000) (hb2 : st.2.length + (1 + 40 * n) ≤ 10000) :
  BCall B Tryz.prog 116 [.p xb 0, AV.spot arg path] (mdlH W mb xb bv ov st.1 st.2 (sceneH mb kn :: Hx)) (fun y H' => ∃ bv' ov', y = AV.vl (valueS W kn arg d rec st path).1 ∧ H' = mdlH W mb xb bv' ov' (valueS W kn arg d rec st path).2.1 (valueS W kn arg d rec st path).2.2 (sceneH mb kn :: Hx)) (fun _ => False) := by
 refine BCall.of (n := 113) Tryz.func116 rfl (by kernel_rfl) rfl rfl (fun I w0 => ?_)
 have hW := world_own hw
 have hP := world_len hw
 have hm : ∀ {R : List Ent} (e : Ent), e ∈ [sceneH mb kn] → e ∈ sceneH mb kn :: R := fun e he => by rw [List.mem_singleton] at he; subst he; exact .head _
 have hob : (st.2.map fun o => [AV.i o.1, AV.vals o.2]).length = st.2.length := List.length_map _
 refine S2 ?_; refine Obx ?_
 refine OL.alC rfl rfl rfl rfl (fun cb => ?_)
 refine S4 ?_
 refine CW.perm (H' := mdlH W mb xb bv ov st.1 st.2 (sceneH mb kn :: .blk cb 97 [.i 0, .i 0] :: Hx)) ((List.perm_middle (l₁ := [_, _, _, _])).symm) ?_
 refine CW.dp mixed ?_
 refine DP.anyC 0 5 113 rfl (by decide +kernel) rfl rfl (by decide +kernel) ?_
 refine Amv ?_; refine Anc ?_; refine Afa ?_; refine Ald ?_; refine Ala ?_
 refine AD.nil ?_
 refine DP.one (k := 5) (by decide +kernel) rfl ?_
 refine OL.popC rfl rfl rfl (POp.callIn (.mk' rfl rfl rfl rfl rfl) (AVleL.refl _) (p166 K hW h) (fun e he => by repeat (first | exact hm e he | apply List.mem_cons_of_mem))) ?_
 refine OL.nil (Done.dp ?_)
 refine DP.one (k := 6) (by decide +kernel) rfl ?_
 refine Omv ?_
 refine OL.nil (Done.dp ?_)
 refine DP.anyC 7 10 113 rfl (by decide +kernel) rfl rfl (by decide +kernel) ?_
 refine Aex ?_; refine Aex ?_; refine Aas ?_
 refine AD.nil ?_
 refine DP.tailC 10 (by decide +kernel) rfl ?_
 refine Oas ?_; refine S4 ?_; refine Omv ?_; refine S2 ?_
 refine CW.cond rfl (fun h0 => ?_) (fun h0 => ?_)
 ·
  have hi : integerOk kn arg path = true := h0
  refine S2 ?_; refine Omv ?_; refine Obd ?_; refine Sto ?_; refine S4 ?_
  refine Done.retR (rs := [.cell 4 97]) (H' := mdlH W mb xb bv ov st.1 st.2 (sceneH mb kn :: Hx)) rfl ((by first | exact .cellA inferInstance rfl (by repeat (first | exact .head _ | refine .tail _ ?_)) rfl rfl (.nil) | exact .ptrA inferInstance rfl rfl (.nil))) (AVleL.refl _) (by first | exact .cons_cons _ (.cons_cons _ (.cons_cons _ (.cons_cons _ (.cons _ (.refl _))))) | exact .cons_cons _ (.cons_cons _ (.cons_cons _ (.cons_cons _ (.cons _ (.cons _ (.refl _))))))) ?_
  exact ⟨bv, ov, by rw [value_int hi]; rfl, by rw [value_int hi]⟩
 ·
  have hi : integerOk kn arg path = false := h0
  refine S4 ?_
  refine CW.dp mixed ?_
  refine DP.anyC 0 5 113 rfl (by decide +kernel) rfl rfl (by decide +kernel) ?_
  refine Amv ?_; refine Anc ?_; refine Afa ?_; refine Ald ?_; refine Ala ?_
  refine AD.nil ?_
  refine DP.tailC 5 (by decide +kernel) rfl ?_
  refine OL.popC rfl rfl rfl (POp.callIn (.mk' rfl rfl rfl rfl rfl) (AVleL.refl _) (p167 K hW h) (fun e he => by repeat (first | exact hm e he | apply List.mem_cons_of_mem))) ?_
  refine S2 ?_
  refine CW.cond rfl (fun h1 => ?_) (fun h1 => ?_)
  ·
   have hno : noneOk kn arg path = true := h1
   refine S2 ?_; refine Obd ?_; refine Sto ?_; refine S4 ?_
   refine Done.retR (rs := [.cell 4 97]) (H' := mdlH W mb xb bv ov st.1 st.2 (sceneH mb kn :: Hx)) rfl ((by first | exact .cellA inferInstance rfl (by repeat (first | exact .head _ | refine .tail _ ?_)) rfl rfl (.nil) | exact .ptrA inferInstance rfl rfl (.nil))) (AVleL.refl _) (by first | exact .cons_cons _ (.cons_cons _ (.cons_cons _ (.cons_cons _ (.cons _ (.refl _))))) | exact .cons_cons _ (.cons_cons _ (.cons_cons _ (.cons_cons _ (.cons _ (.cons _ (.refl _))))))) ?_
   exact ⟨bv, ov, by rw [value_none hi hno]; rfl, by rw [value_none hi hno]⟩
  ·
   have hno : noneOk kn arg path = false := h1
   refine S3 ?_
   refine CW.dp mixed ?_
   refine DP.anyC 0 5 113 rfl (by decide +kernel) rfl rfl (by decide +kernel) ?_
   refine Amv ?_; refine Anc ?_; refine Afa ?_; refine Ald ?_; refine Ala ?_
   refine AD.nil ?_
   refine DP.one (k := 5) (by decide +kernel) rfl ?_
   refine OL.popC rfl rfl rfl (POp.callIn (.mk' rfl rfl rfl rfl rfl) (AVleL.refl _) (p168d K hw d path h hd) (fun e he => by repeat (first | exact hm e he | apply List.mem_cons_of_mem))) ?_
   refine OL.nil (Done.dp ?_)
   refine DP.one (k := 6) (by decide +kernel) rfl ?_
   refine Omv ?_
   refine OL.nil (Done.dp ?_)
   refine DP.anyC 7 10 113 rfl (by decide +kernel) rfl rfl (by decide +kernel) ?_
   refine Aex ?_; refine Aex ?_; refine Aas ?_
   refine AD.nil ?_
   refine DP.tailC 10 (by decide +kernel) rfl ?_
   refine Oas ?_; refine S3 ?_
   have hs64 := objK_lt (W := W) (kn := kn) (can := childCan W kn arg d) (arg := arg) (path := path)
   generalize hset : (objectK W kn (childCan W kn arg d) arg path).1 = set at hs64 ⊢
   refine S1 ?_; refine Omv ?_; refine Onc ?_; refine Ofa ?_; refine Old ?_
   refine OL.popC rfl rfl rfl (POp.lenR rfl rfl rfl (.tail _ (.tail _ (.head _)))) ?_
   refine Oas ?_; refine S3 ?_
   refine CW.le 9 (y := .i (st.2.length : Int)) rfl (AVle.eqI (by rw [List.length_map])) ?_
   refine CW.dp mixed ?_
   refine DP.anyH [⟨7, 54, false⟩, ⟨10, 57, true⟩] (bv) (fun (g : Value) (vs : List (Option Value)) => match vs with | [none, none] => mdlH W mb xb bv ov st.1 st.2 (sceneH mb kn :: .blk cb 97 [.i 0, .i 0] :: Hx) | [some _, none] => mdlH W mb xb g ov (classP W st.1 set).2 st.2 (sceneH mb kn :: .blk cb 97 [.i 0, .i 0] :: Hx) | [some _, some v] => .blk xb 154 [sceneP W mb, .val g, .val ov] :: .row 135 1 g ((classP W st.1 set).2.map fun s => [AV.set s]).length ((classP W st.1 set).2.map fun s => [AV.set s]).flatten :: .row 160 2 v ((st.2.map fun o => [AV.i o.1, AV.vals o.2]).length + 1) ((st.2.map fun o => [AV.i o.1, AV.vals o.2]).flatten ++ [AV.i (classP W st.1 set).1, AV.vals []]) :: (sceneH mb kn :: .blk cb 97 [.i 0, .i 0] :: Hx) | _ => []) 0 11 113 rfl (by decide +kernel) (by decide +kernel) rfl rfl (by decide +kernel) rfl ?_
   refine UD.popG [[true, true], [true, false], [false, false]] rfl (by decide +kernel) rfl rfl rfl ⟨fun g f => POp.move rfl rfl rfl, fun g f => POp.move rfl rfl rfl, fun g f => POp.move rfl rfl rfl, trivial⟩ ?_
   refine UD.popG [[true, false], [false, false]] rfl (by decide +kernel) rfl rfl rfl ⟨fun g f => POp.move rfl rfl rfl, fun g f => POp.move rfl rfl rfl, trivial⟩ ?_
   refine UD.popG [[true, false], [false, false]] rfl (by decide +kernel) rfl rfl rfl ⟨fun g f => (by first | exact POp.nilCheck rfl rfl rfl | exact POp.nilCheckP rfl rfl rfl | exact POp.nilCheckF rfl rfl rfl), fun g f => (by first | exact POp.nilCheck rfl rfl rfl | exact POp.nilCheckP rfl rfl rfl | exact POp.nilCheckF rfl rfl rfl), trivial⟩ ?_
   refine UD.popG [[true, false], [false, false]] rfl (by decide +kernel) rfl rfl rfl ⟨fun g f => (by first | exact POp.fa rfl rfl rfl rfl | exact POp.faP rfl rfl rfl rfl), fun g f => (by first | exact POp.fa rfl rfl rfl rfl | exact POp.faP rfl rfl rfl rfl), trivial⟩ ?_
   refine UD.popG [[true, false], [false, false]] rfl (by decide +kernel) rfl rfl rfl ⟨fun g f => (by first | exact POp.ld1 rfl rfl rfl rfl | (apply POp.ld1H rfl rfl rfl; (case hm => repeat (first | exact .head _ | refine .tail _ ?_)); (case hy => rfl))), fun g f => (by first | exact POp.ld1 rfl rfl rfl rfl | (apply POp.ld1H rfl rfl rfl; (case hm => repeat (first | exact .head _ | refine .tail _ ?_)); (case hy => rfl))), trivial⟩ ?_
   refine UD.popG [[false, false]] rfl (by decide +kernel) rfl rfl rfl ⟨fun g f => POp.move rfl rfl rfl, trivial⟩ ?_
   refine UD.popG [[false, false]] rfl (by decide +kernel) rfl rfl rfl ⟨fun g f => POp.move rfl rfl rfl, trivial⟩ ?_
   refine UD.effG 0 [[false, false]] rfl rfl rfl (by decide +kernel) rfl rfl rfl ⟨fun g f => FOk.bcall (.mk' rfl rfl rfl rfl rfl) (fun B => b169 hw mb xb bv ov st.1 st.2 set (by omega) (sceneH mb kn :: .blk cb 97 [.i 0, .i 0] :: Hx) B) (fun y H1 ⟨bv2, e1, e2⟩ => ⟨bv2, e1, fun v => e2.symm⟩), trivial⟩ ?_
   refine UD.popG [[true, false]] rfl (by decide +kernel) rfl rfl rfl ⟨fun g f => POp.build' rfl rfl (by first | rfl | simp_all [strip]) rfl, trivial⟩ ?_
   refine UD.popG [[true, false]] rfl (by decide +kernel) rfl rfl rfl ⟨fun g f => POp.row rfl rfl (by first | rfl | simp_all [strip]) rfl rfl rfl rfl rfl rfl, trivial⟩ ?_
   refine UD.effG 1 [[true, false]] rfl rfl rfl (by decide +kernel) rfl rfl rfl ⟨fun g f => FOk.app (news := [[AV.i (classP W st.1 set).1, AV.vals []]]) g rfl rfl rfl rfl rfl (AVle.sl (.cons (.cons (.refl _) (.cons (AVle.nil 2) .nil)) .nil)) (by simp) rfl (fun v => .tail _ _ _ _ _ (.tail _ _ _ _ _ (.head _ _ _))) (by simp only [List.length_cons, List.length_nil]; omega) (by simp only [List.length_cons, List.length_nil]; omega), trivial⟩ ?_
   refine UD.nil (fun g f => ?_)
   simp only [CE.vals, List.map_cons, List.map_nil, List.cons_append, List.nil_append]
   generalize f 57 = v57
   refine DP.tailC 11 (by decide +kernel) rfl ?_
   refine Onc ?_; refine Ofa ?_
   refine OL.rowOne (v := v57) (.tail _ (.tail _ (.head _))) (fun hv57 => ?_)
   apply OL.stoC rfl rfl rfl rfl rfl rfl rfl (one_bOk hv57) (one_all hv57) rfl
   (case hu => repeat (first | exact Upd.head _ _ _ | apply Upd.tail)); (case hfit => rfl); (case hds => rfl)
   refine S3 ?_
   refine CW.eqH (H' := mdlH W mb xb g v57 (classP W st.1 set).2 (st.2 ++ [((classP W st.1 set).1, [])]) (sceneH mb kn :: .blk cb 97 [.i 0, .i 0] :: Hx)) (by simp [bcells]) ?_
   refine S1 ?_; refine Oas ?_; refine S4 ?_
   refine CW.ownNil 10 97 2 rfl ?_
   refine CW.perm (H' := mdlH W mb xb g v57 (classP W st.1 set).2 (st.2 ++ [((classP W st.1 set).1, [])]) (sceneH mb kn :: .own 97 2 (.slice none 0 0) :: .blk cb 97 [.i 0, .i 0] :: Hx)) ((List.perm_middle (l₁ := [_, _, _, _])).symm) ?_
   refine S1 ?_; refine Omv ?_; refine Onc ?_; refine Ofa ?_; refine Old ?_; refine Onc ?_; refine Ofa ?_; refine Old ?_; refine Onc ?_; refine Ofa ?_; refine Ofa ?_; refine Old ?_
   refine Oln ?_; refine Omv ?_; refine S3 ?_
   refine lj (fun m st' => ∃ (k : Nat) (v bv ov : Value) (acc : List (Int × Int) × MSt), acc = slotsV W kn arg rec set path ((classP W st.1 set).2, st.2 ++ [((classP W st.1 set).1, [])]) k ∧ st' = ⟨[(72, .i k), (71, .i W.owner.length), (70, AV.ints W.owner), (10, .as (AV.vals acc.1) v), (9, .i st.2.length), (7, AV.set set), (0, .p xb 0), (3, .ptr (spotCells arg path)), (4, .p cb 0)], mdlH W mb xb bv ov acc.2.1 acc.2.2 (sceneH mb kn :: .own 97 2 v :: .blk cb 97 [.i 0, .i 0] :: Hx)⟩ ∧ m = W.owner.length - k ∧ k ≤ W.owner.length) (⟨0, _, _, _, _, rfl, rfl, rfl, Nat.zero_le _⟩) ?_
   rintro m _ ⟨k, v, bv1, ov1, acc, hacc, rfl, rfl, hk⟩
   have hgr := slots_grow (W := W) (set := set) (st := ((classP W st.1 set).2, st.2 ++ [((classP W st.1 set).1, [])])) hrec k
   rw [← hacc] at hgr
   obtain ⟨⟨hg1, hg2, hg3⟩, hg4⟩ := hgr
   simp only [List.length_append, List.length_singleton] at hg2 hg3
   replace hg1 : acc.2.1.length ≤ (classP W st.1 set).2.length + k * n := hg1
   have hcl := class_len W st.1 set
   have hkn : k * n + n ≤ W.owner.length * n ∨ k = W.owner.length := by rcases Nat.lt_or_ge k W.owner.length with h1 | h1; exact .inl (by rw [← Nat.succ_mul]; exact Nat.mul_le_mul_right n h1); exact .inr (by omega)
   have hWn : W.owner.length * n ≤ 40 * n := Nat.mul_le_mul_right n hW
   have hkn2 : k * n ≤ W.owner.length * n := Nat.mul_le_mul_right n hk
   refine S2 ?_; refine Ocm ?_; refine S3 ?_
   refine CW.cond rfl (fun h2 => ?_) (fun h2 => ?_)
   ·
    replace h2 := nm h2
    have hkl : k < W.owner.length := by omega
    have how := owner_ok hw hkl
    refine S6 ?_; refine Omv ?_; refine Oix ?_; refine Old ?_; refine Oas ?_; refine Oas ?_; refine S5 ?_; refine Omv ?_; refine Omv ?_
    refine OL.popC rfl rfl rfl (POp.call (.mk' rfl rfl rfl rfl rfl) (p107 _ _ (by omega) hs64)) ?_
    refine Ont ?_; refine S2 ?_
    refine CW.cond rfl (fun h3 => ?_) (fun h3 => ?_)
    ·
     have hb : set.testBit (W.owner.getD k default).toNat = false := by simpa using h3
     refine S4 ?_
     refine S1 ?_; refine Oar ?_; refine Omv ?_; refine S1 ?_
     exact ag (⟨k + 1, v, bv1, ov1, acc, by rw [slotsV_succ, ← hacc, slotV, if_neg (by rw [hb]; simp)], rfl, rfl, by omega⟩)
    ·
     have hb : set.testBit (W.owner.getD k default).toNat = true := by simpa using h3
     refine S4 ?_; refine Obd ?_
     refine OL.alC rfl rfl rfl rfl (fun vb => ?_)
     refine Sto ?_; refine S4 ?_
     refine CW.perm (H' := mdlH W mb xb bv1 ov1 acc.2.1 acc.2.2 (sceneH mb kn :: .blk vb 97 [.i 2, .i 0] :: .own 97 2 v :: .blk cb 97 [.i 0, .i 0] :: Hx)) ((List.perm_middle (l₁ := [_, _, _, _])).symm) ?_
     refine CW.dp mixed ?_
     refine DP.anyC 0 10 113 rfl (by decide +kernel) rfl rfl (by decide +kernel) ?_
     refine Amv ?_; refine Anc ?_; refine Afa ?_; refine Ald ?_; refine Ala ?_
     refine AD.popC rfl rfl rfl (POp.callIn (.mk' rfl rfl rfl rfl rfl) (AVleL.refl _) (p170 W mb kn arg path (goodKey_of h)) (fun e he => by repeat (first | exact hm e he | apply List.mem_cons_of_mem))) ?_
     refine Anc ?_; refine Afa ?_; refine Ald ?_; refine Amv ?_
     refine AD.nil ?_
     refine DP.tailC 10 (by decide +kernel) rfl ?_
     refine OL.popC rfl rfl rfl (POp.call (.mk' rfl rfl rfl rfl rfl) (p33 _ _)) ?_
     refine S2 ?_
     refine CW.cond rfl (fun h4 => ?_) (fun h4 => ?_)
     ·
      have hc : (kn (keyS arg path)).slots.contains (k : Int) = true := h4
      have hmem := List.contains_iff_mem.1 hc
      have hnx := kn_next K hW h hmem
      refine S1 ?_; refine Omv ?_; refine Ola ?_; refine Omv ?_
      refine OL.popC rfl rfl rfl (POp.call (.mk' rfl rfl rfl rfl rfl) (p171 arg path (k : Int) hnx.1)) ?_
      refine OL.bcallC rfl rfl rfl (.mk' rfl rfl rfl rfl rfl) (ih (k : Int) hmem bv1 ov1 acc.2 (.blk vb 97 [.i 2, .i 0] :: .own 97 2 v :: .blk cb 97 [.i 0, .i 0] :: Hx) _ (by omega) (by omega)) ?_
      rintro y H1 ⟨bv2, ov2, rfl, rfl⟩
      refine Sto ?_; refine S3 ?_; refine Omv ?_; refine Ola ?_
      refine OL.popC rfl rfl rfl (POp.row rfl rfl (by first | rfl | simp_all [strip]) rfl rfl rfl rfl rfl rfl) ?_
      refine OL.appendC rfl rfl rfl rfl rfl rfl rfl rfl (AVle.refl _) (rfl) (fun v => by repeat (first | exact Upd.head _ _ _ | apply Upd.tail)) (by show (List.length (List.map _ _) + 1) * 16 ≤ _; rw [List.length_map]; omega) (by show List.length (List.map _ _) + 1 ≤ _; rw [List.length_map]; omega) (fun v101 => ?_)
      refine Oas ?_; refine S3 ?_
      refine CW.perm (List.perm_middle (l₁ := [_, _, _, _])) ?_
      refine CW.le 10 (y := .as (AV.vals (acc.1 ++ [(rec acc.2 (path ++ [(k : Int)])).1])) v101) rfl (by rw [AV.vals, List.map_append]; exact AVle.refl _) ?_
      refine S1 ?_; refine Oar ?_; refine Omv ?_; refine S1 ?_
      exact ag (⟨k + 1, v101, bv2, ov2, (acc.1 ++ [(rec acc.2 (path ++ [(k : Int)])).1], (rec acc.2 (path ++ [(k : Int)])).2), by rw [slotsV_succ, ← hacc, slotV, if_pos hb, if_pos hc], rfl, rfl, by omega⟩)
     ·
      have hc : (kn (keyS arg path)).slots.contains (k : Int) = false := h4
      refine S3 ?_; refine Omv ?_; refine Ola ?_
      refine OL.popC rfl rfl rfl (POp.row rfl rfl (by first | rfl | simp_all [strip]) rfl rfl rfl rfl rfl rfl) ?_
      refine OL.appendC rfl rfl rfl rfl rfl rfl rfl rfl (AVle.refl _) (rfl) (fun v => by repeat (first | exact Upd.head _ _ _ | apply Upd.tail)) (by show (List.length (List.map _ _) + 1) * 16 ≤ _; rw [List.length_map]; omega) (by show List.length (List.map _ _) + 1 ≤ _; rw [List.length_map]; omega) (fun v101 => ?_)
      refine Oas ?_; refine S3 ?_
      refine CW.perm (List.perm_middle (l₁ := [_, _, _, _])) ?_
      refine CW.le 10 (y := .as (AV.vals (acc.1 ++ [(2, 0)])) v101) rfl (by rw [AV.vals, List.map_append]; exact AVle.refl _) ?_
      refine S1 ?_; refine Oar ?_; refine Omv ?_; refine S1 ?_
      exact ag (⟨k + 1, v101, bv1, ov1, (acc.1 ++ [(2, 0)], acc.2), by rw [slotsV_succ, ← hacc, slotV, if_pos hb, if_neg (by rw [hc]; simp)], rfl, rfl, by omega⟩)
   ·
    replace h2 := nm h2
    obtain rfl : k = W.owner.length := by omega
    have hval := value_obj (st := st) hi hno hset hacc
    have hol : st.2.length < acc.2.2.length := by omega
    have hob2 : (acc.2.2.map fun o => [AV.i o.1, AV.vals o.2]).length = acc.2.2.length := List.length_map _
    refine S6 ?_
    refine CW.le 10 rfl (AVle.asL _ _) ?_
    refine CW.rowBlk (t := 160) (by omega) (fun b cap more => .tail _ _ _ _ _ (.tail _ _ _ _ _ (.head _ _ _))) (fun ob ocap omore e1 e2 e3 e4 e5 => ?_)
    subst e1
    refine S1 ?_; refine Omv ?_; refine Onc ?_; refine Ofa ?_; refine Old ?_; refine Omv ?_; refine Omv ?_
    refine OL.popC rfl rfl rfl (POp.ixC rfl rfl rfl rfl rfl (by omega)) ?_
    refine Ofa ?_
    apply OL.stoC rfl rfl rfl rfl rfl rfl rfl rfl rfl rfl
    (case hu => repeat (first | exact Upd.head _ _ _ | apply Upd.tail)); (case hfit => exact Nat.ble_eq_true_of_le (by rw [List.length_append, obj_len]; simp [bcells]; omega)); (case hds => exact obj_set hol _)
    refine S3 ?_
    refine CW.blkRow e2 e3 (by rw [← e4, List.length_append, List.length_append, obj_len, obj_len, List.length_set]) (by rw [obj_len, List.length_set, hob2]) (.tail _ _ _ _ _ (.tail _ _ _ _ _ (.head _ _ _))) ?_
    refine CW.eqH (H' := mdlH W mb xb bv1 (.slice (some ⟨ob, 0, none⟩) (acc.2.2.map fun o => [AV.i o.1, AV.vals o.2]).length ocap) acc.2.1 (acc.2.2.set st.2.length ((acc.2.2.getD st.2.length default).1, acc.1)) (sceneH mb kn :: .own 97 2 v :: .blk cb 97 [.i 0, .i 0] :: Hx)) (by simp only [mdlH, List.length_map, List.length_set]) ?_
    refine S1 ?_; refine Omv ?_; refine Obd ?_; refine Sto ?_; refine S3 ?_
    refine Done.retR (rs := [.cell 4 97]) (H' := mdlH W mb xb bv1 (.slice (some ⟨ob, 0, none⟩) (acc.2.2.map fun o => [AV.i o.1, AV.vals o.2]).length ocap) acc.2.1 (acc.2.2.set st.2.length ((acc.2.2.getD st.2.length default).1, acc.1)) (sceneH mb kn :: Hx)) rfl ((by first | exact .cellA inferInstance rfl (by repeat (first | exact .head _ | refine .tail _ ?_)) rfl rfl (.nil) | exact .ptrA inferInstance rfl rfl (.nil))) (AVleL.refl _) (by first | exact .cons_cons _ (.cons_cons _ (.cons_cons _ (.cons_cons _ (.cons _ (.refl _))))) | exact .cons_cons _ (.cons_cons _ (.cons_cons _ (.cons_cons _ (.cons _ (.cons _ (.refl _))))))) ?_
    exact ⟨_, _, by rw [hval]; rfl, by rw [hval]⟩
theorem b116 {W : FW} {mb xb : Nat} {kn : Value → Kn} (K : KnOk W kn) (hw : worldP W = true) {arg : Int} : ∀ (d : Nat) (path : List Int), goodSpot arg path → path.length + d = 2 → ∀ (bv ov : Value) (st : MSt) (Hx : List Ent) (B : Nat), st.1.length + mostV d ≤ 10000 → st.2.length + mostV d ≤ 10000 →
  BCall B Tryz.prog 116 [.p xb 0, AV.spot arg path] (mdlH W mb xb bv ov st.1 st.2 (sceneH mb kn :: Hx)) (fun y H' => ∃ bv' ov', y = AV.vl (valueP W kn arg d st path).1 ∧ H' = mdlH W mb xb bv' ov' (valueP W kn arg d st path).2.1 (valueP W kn arg d st path).2.2 (sceneH mb kn :: Hx)) (fun _ => False)
 | 0, path, h, hd, bv, ov, st, Hx, B, h1, h2 => b116_step K hw h 0 hd 0 (fun st _ => ((2, 0), st)) (fun s hs => by rw [K.deep arg path h (by omega)] at hs; cases hs) (fun s hs => by rw [K.deep arg path h (by omega)] at hs; cases hs) bv ov st Hx B h1 h2
 | d + 1, path, h, hd, bv, ov, st, Hx, B, h1, h2 => b116_step K hw h (d + 1) hd (mostV d) (valueP W kn arg d) (fun s hs => value_grow K (world_own hw) d (path ++ [s]) (kn_next K (world_own hw) h hs).2 (by simp; omega))
   (fun s hs bv ov st Hx B g1 g2 => b116 K hw d (path ++ [s]) (kn_next K (world_own hw) h hs).2 (by simp; omega) bv ov st Hx B g1 g2) bv ov st Hx B h1 h2
theorem pigeon : ∀ (n : Nat) (a : Int) (l : List Int), l.Nodup → (∀ x ∈ l, a ≤ x ∧ x < a + n) → l.length ≤ n
 | 0, a, l, _, h => by
  cases l with
  | nil => exact Nat.le_refl _
  | cons x r => have := h x (.head _); omega
 | n + 1, a, l, hn, h => by
  by_cases hm : (a + n) ∈ l
  ·have h1 := pigeon n a (l.erase (a + n)) (hn.erase _) (fun x hx => by
    obtain ⟨h2, h3⟩ := (hn.mem_erase_iff).1 hx
    have := h x h3; omega)
   rw [List.length_erase_of_mem hm] at h1
   omega
  ·have h1 := pigeon n a l hn (fun x hx => by
    have := h x hx
    have hne : x ≠ a + n := fun e => hm (e ▸ hx)
    omega)
   omega
theorem par_nodup {i : Nat} : ∀ (l seen : List Int), parentsP i seen l = true → seen.Nodup → (∀ x ∈ seen, 3 ≤ x ∧ x < 3 + i) → (seen ++ l).Nodup ∧ ∀ x ∈ seen ++ l, 3 ≤ x ∧ x < 3 + i
 | [], seen, _, h1, h2 => by rw [List.append_nil]; exact ⟨h1, h2⟩
 | p :: r, seen, h, h1, h2 => by
  rw [parentsP, Bool.and_eq_true, Bool.not_eq_true', Bool.or_eq_false_iff, Bool.or_eq_false_iff, decide_eq_false_iff_not, decide_eq_false_iff_not] at h
  have hp : p ∉ seen := fun e => by rw [List.contains_iff_mem.2 e] at h; cases h.1.2
  have := par_nodup r (seen ++ [p]) h.2 (List.nodup_append.2 ⟨h1, by simp, fun a ha b hb e => by rw [List.mem_singleton] at hb; subst hb; subst e; exact hp ha⟩) (fun x hx => by
   rcases List.mem_append.1 hx with hx | hx
   ·exact h2 x hx
   ·rw [List.mem_singleton] at hx; subst hx; omega)
  rwa [List.append_assoc] at this
theorem pars_at : ∀ (l : List (List Int)) (i k : Nat), parentssP i l = true → k < l.length → parentsP (i + k) [] (l.getD k default) = true
 | x :: r, i, 0, h, _ => by rw [parentssP, Bool.and_eq_true] at h; exact h.1
 | x :: r, i, k + 1, h, hk => by
  rw [parentssP, Bool.and_eq_true] at h
  have := pars_at r (i + 1) k h.2 (by simpa using hk)
  rwa [show i + 1 + k = i + (k + 1) by omega] at this
theorem par_len {W : FW} (hw : worldP W = true) {k : Nat} (hk : k < W.parents.length) : (W.parents.getD k default).length ≤ 1000 := by
 have hP := world_len hw
 simp only [worldP, Bool.and_eq_true] at hw
 have h1 := pars_at _ 0 k hw.1.2 hk
 obtain ⟨h2, h3⟩ := par_nodup _ [] h1 .nil (fun x hx => by cases hx)
 have := pigeon (0 + k) 3 _ h2 (fun x hx => by have := h3 x hx; omega)
 rw [List.nil_append] at this
 omega
def uptoP (s c : Nat) : List Int := ((List.range c).filter fun b => decide (3 ≤ b) && s.testBit b).map fun (b : Nat) => (b : Int)
def newP (n s : Nat) : List Int := uptoP s (3 + n)
def moreW (W : FW) (bits : List Nat) : FW := ⟨W.parents ++ bits.map (newP W.parents.length), W.owner⟩
theorem upto_succ {s c : Nat} (h : 3 ≤ c) : uptoP s (c + 1) = if s.testBit c then uptoP s c ++ [(c : Int)] else uptoP s c := by
 rw [uptoP, List.range_succ, List.filter_append, List.map_append]
 show uptoP s c ++ _ = _
 cases hb : s.testBit c with
 | true => simp [hb, h]
 | false => simp [hb]
theorem upto_len (s c : Nat) : (uptoP s c).length ≤ c := by
 rw [uptoP, List.length_map]
 exact Nat.le_trans (List.length_filter_le _ _) (by rw [List.length_range]; exact Nat.le_refl _)
theorem p117 {W : FW} (hw : worldP W = true) (mb : Nat) (bits : List Nat) (objs : Obs) (hB : ∀ s ∈ bits, s < 18446744073709551616) (hl : bits.length ≤ 10000) : PCall Tryz.prog 117 [.ptr [sceneP W mb, AV.sets bits, AV.things objs]] (AV.world (moreW W bits)) := by
 intro H
 refine ACall.mk' (n := 88) Tryz.func117 rfl (by kernel_rfl) rfl rfl (fun B I w0 => ?_)
 have hW := world_own hw
 have hP := world_len hw
 refine S2 ?_
 refine OL.alC rfl rfl rfl rfl (fun cb => ?_)
 refine S4 ?_; refine Omv ?_; refine Onc ?_; refine Ofa ?_; refine Old ?_; refine Onc ?_; refine Ofa ?_; refine Old ?_; refine Onc ?_; refine Ofa ?_; refine Ofa ?_; refine Old ?_
 refine OL.popC rfl rfl rfl (POp.call (.mk' rfl rfl rfl rfl rfl) (p32 W.owner (by omega))) ?_
 refine Obd ?_
 refine OL.alC rfl rfl rfl rfl (fun wb => ?_)
 refine Sto ?_; refine S4 ?_
 refine CW.rowNil 23 1 ?_
 refine CW.perm (.swap _ _ _) ?_
 refine S1 ?_; refine Omv ?_; refine Onc ?_; refine Ofa ?_; refine Old ?_; refine Onc ?_; refine Ofa ?_; refine Old ?_; refine Onc ?_; refine Ofa ?_; refine Ofa ?_; refine Old ?_
 refine Oln ?_; refine Omv ?_; refine S3 ?_
 refine lj (fun m st => ∃ (k : Nat) (pv : Value), st = ⟨[(35, .i k), (34, .i W.parents.length), (33, AV.intss W.parents), (2, .p cb 0), (3, .p wb 0), (0, .ptr [sceneP W mb, AV.sets bits, AV.things objs])], .blk wb 25 [.val pv, AV.ints W.owner] :: .row 23 1 pv ((W.parents.take k).map fun l => [AV.ints l]).length ((W.parents.take k).map fun l => [AV.ints l]).flatten :: .blk cb 25 [.val (.slice none 0 0), .val (.slice none 0 0)] :: H⟩ ∧ m = W.parents.length - k ∧ k ≤ W.parents.length) (⟨0, _, rfl, rfl, Nat.zero_le _⟩) ?_
 rintro m _ ⟨k, pv, rfl, rfl, hk⟩
 refine S2 ?_; refine Ocm ?_; refine S3 ?_
 refine CW.cond rfl (fun h0 => ?_) (fun h0 => ?_)
 ·
  replace h0 := nm h0
  have hkl : k < W.parents.length := by omega
  have hpm := getD_mem hkl
  have hpl : (W.parents.getD k default).length ≤ 1000 := par_len hw hkl
  have htk : (W.parents.take k).length ≤ 60 := by rw [List.length_take]; omega
  refine S6 ?_; refine Oix ?_; refine Old ?_; refine Oas ?_; refine S2 ?_
  refine CW.dp mixed ?_
  refine DP.anyC 0 5 88 rfl (by decide +kernel) rfl rfl (by decide +kernel) ?_
  refine Afa ?_; refine Ald ?_; refine Amv ?_
  refine AD.popC rfl rfl rfl (POp.call (.mk' rfl rfl rfl rfl rfl) (p32 _ (by omega))) ?_
  refine AD.popC rfl rfl rfl (POp.row rfl rfl (by first | rfl | simp_all [strip]) rfl rfl rfl rfl rfl rfl) ?_
  refine AD.nil ?_
  refine DP.tailC 5 (by decide +kernel) rfl ?_
  refine OL.appendRow (news := [[AV.ints (W.parents.getD k default)]]) rfl rfl rfl rfl rfl rfl rfl rfl (AVle.refl _) (by simp) rfl (fun v => by repeat (first | exact Upd.head _ _ _ | apply Upd.tail)) (by simp only [List.length_map, List.length_cons, List.length_nil]; omega) (by simp only [List.length_map, List.length_cons, List.length_nil]; omega) (fun v44 => ?_)
  refine Ofa ?_
  refine OL.rowOne (v := v44) (.tail _ (.head _)) (fun hv44 => ?_)
  apply OL.stoC rfl rfl rfl rfl rfl rfl rfl (one_bOk hv44) (one_all hv44) rfl
  (case hu => repeat (first | exact Upd.head _ _ _ | apply Upd.tail)); (case hfit => rfl); (case hds => rfl)
  refine S3 ?_
  refine CW.eqH (H' := .blk wb 25 [.val v44, AV.ints W.owner] :: .row 23 1 v44 ((W.parents.take (k + 1)).map fun l => [AV.ints l]).length ((W.parents.take (k + 1)).map fun l => [AV.ints l]).flatten :: .blk cb 25 [.val (.slice none 0 0), .val (.slice none 0 0)] :: H) (by rw [← take_getD hkl]; simp [bcells]) ?_
  refine S1 ?_; refine Oar ?_; refine Omv ?_; refine S1 ?_
  exact ag (⟨k + 1, v44, rfl, rfl, by omega⟩)
 ·
  replace h0 := nm h0
  obtain rfl : k = W.parents.length := by omega
  rw [List.take_length]
  refine S8 ?_; refine Omv ?_; refine Onc ?_; refine Ofa ?_; refine Old ?_; refine Oln ?_; refine Omv ?_; refine S3 ?_
  refine lj (fun m st => ∃ (k : Nat) (pv : Value), st = ⟨[(52, .i k), (51, .i bits.length), (50, AV.sets bits), (2, .p cb 0), (3, .p wb 0), (0, .ptr [sceneP W mb, AV.sets bits, AV.things objs])], .blk wb 25 [.val pv, AV.ints W.owner] :: .row 23 1 pv ((W.parents ++ (bits.take k).map (newP W.parents.length)).map fun l => [AV.ints l]).length ((W.parents ++ (bits.take k).map (newP W.parents.length)).map fun l => [AV.ints l]).flatten :: .blk cb 25 [.val (.slice none 0 0), .val (.slice none 0 0)] :: H⟩ ∧ m = bits.length - k ∧ k ≤ bits.length) (⟨0, pv, by rw [List.take_zero, List.map_nil, List.append_nil], rfl, Nat.zero_le _⟩) ?_
  rintro m _ ⟨k, pv, rfl, rfl, hk⟩
  refine S2 ?_; refine Ocm ?_; refine S3 ?_
  refine CW.cond rfl (fun h1 => ?_) (fun h1 => ?_)
  ·
   replace h1 := nm h1
   have hkl : k < bits.length := by omega
   have hs64 := hB _ (getD_mem hkl)
   have hbk : (W.parents ++ (bits.take k).map (newP W.parents.length)).length ≤ 20000 := by rw [List.length_append, List.length_map, List.length_take]; omega
   refine S6 ?_; refine Oix ?_; refine Old ?_; refine Oas ?_; refine S4 ?_; refine Oas ?_; refine S4 ?_
   refine CW.ownNil 8 3 1 rfl ?_
   refine S1 ?_; refine Oas ?_; refine S3 ?_
   refine lj (fun m st => ∃ (c : Nat) (v : Value), st = ⟨[(9, .i c), (8, .as (AV.ints (uptoP (bits.getD k default) c)) v), (7, AV.set (bits.getD k default)), (52, .i k), (51, .i bits.length), (50, AV.sets bits), (2, .p cb 0), (3, .p wb 0), (0, .ptr [sceneP W mb, AV.sets bits, AV.things objs])], .own 3 1 v :: .blk wb 25 [.val pv, AV.ints W.owner] :: .row 23 1 pv ((W.parents ++ (bits.take k).map (newP W.parents.length)).map fun l => [AV.ints l]).length ((W.parents ++ (bits.take k).map (newP W.parents.length)).map fun l => [AV.ints l]).flatten :: .blk cb 25 [.val (.slice none 0 0), .val (.slice none 0 0)] :: H⟩ ∧ m = 3 + W.parents.length - c ∧ 3 ≤ c ∧ c ≤ 3 + W.parents.length) (⟨3, _, rfl, rfl, by omega, by omega⟩) ?_
   rintro m _ ⟨c, v, rfl, rfl, hc3, hc⟩
   have hul := upto_len (bits.getD k default) c
   have hus := upto_succ (s := (bits.getD k default)) hc3
   refine S3 ?_; refine Omv ?_; refine Omv ?_; refine Onc ?_; refine Ofa ?_; refine Old ?_; refine Onc ?_; refine Ofa ?_; refine Old ?_; refine Onc ?_; refine Ofa ?_; refine Ofa ?_
   refine Old ?_; refine Oln ?_; refine Oar ?_; refine Ocm ?_; refine S2 ?_
   refine CW.cond rfl (fun h2 => ?_) (fun h2 => ?_)
   ·
    replace h2 := nm h2
    have hcl : c < 3 + W.parents.length := by omega
    refine S6 ?_; refine Omv ?_; refine Omv ?_
    refine OL.popC rfl rfl rfl (POp.call (.mk' rfl rfl rfl rfl rfl) (p107 _ _ (by omega) hs64)) ?_
    refine S2 ?_
    refine CW.cond rfl (fun h3 => ?_) (fun h3 => ?_)
    ·
     have hus2 : uptoP (bits.getD k default) (c + 1) = uptoP (bits.getD k default) c ++ [(c : Int)] := by rw [hus, if_pos (by simpa using h3)]
     refine S1 ?_; refine Omv ?_; refine Omv ?_
     refine OL.popC rfl rfl rfl (POp.row rfl rfl (by first | rfl | simp_all [strip]) rfl rfl rfl rfl rfl rfl) ?_
     refine OL.appendC rfl rfl rfl rfl rfl rfl rfl rfl (AVle.refl _) (rfl) (fun v => by repeat (first | exact Upd.head _ _ _ | apply Upd.tail)) (by show (List.length (List.map _ _) + 1) * 8 ≤ _; rw [List.length_map]; omega) (by show List.length (List.map _ _) + 1 ≤ _; rw [List.length_map]; omega) (fun v79 => ?_)
     refine Oas ?_; refine S3 ?_
     refine CW.le 8 (y := .as (AV.ints (uptoP (bits.getD k default) (c + 1))) v79) rfl (by rw [hus2, AV.ints, ints_snoc]; exact AVle.refl _) ?_
     refine S1 ?_; refine Omv ?_; refine Oar ?_; refine Oas ?_; refine S1 ?_
     exact ag (⟨c + 1, v79, rfl, rfl, by omega, by omega⟩)
    ·
     have hus2 : uptoP (bits.getD k default) (c + 1) = uptoP (bits.getD k default) c := by rw [hus, if_neg (by simpa using h3)]
     refine S3 ?_
     rw [← hus2]
     refine S1 ?_; refine Omv ?_; refine Oar ?_; refine Oas ?_; refine S1 ?_
     exact ag (⟨c + 1, v, rfl, rfl, by omega, by omega⟩)
   ·
    replace h2 := nm h2
    obtain rfl : c = 3 + W.parents.length := by omega
    refine S5 ?_
    refine CW.le 8 rfl (AVle.asL _ _) ?_
    refine S1 ?_; refine Ofa ?_; refine Old ?_; refine Omv ?_
    refine OL.popC rfl rfl rfl (POp.row rfl rfl (by first | rfl | simp_all [strip]) rfl rfl rfl rfl rfl rfl) ?_
    refine OL.appendRow (news := [[AV.ints (uptoP (bits.getD k default) (3 + W.parents.length))]]) rfl rfl rfl rfl rfl rfl rfl rfl (AVle.refl _) (by simp) rfl (fun v => by repeat (first | exact Upd.head _ _ _ | apply Upd.tail)) (by simp only [List.length_map, List.length_cons, List.length_nil]; omega) (by simp only [List.length_map, List.length_cons, List.length_nil]; omega) (fun v84 => ?_)
    refine Ofa ?_
    refine OL.rowOne (v := v84) (.tail _ (.tail _ (.head _))) (fun hv84 => ?_)
    apply OL.stoC rfl rfl rfl rfl rfl rfl rfl (one_bOk hv84) (one_all hv84) rfl
    (case hu => repeat (first | exact Upd.head _ _ _ | apply Upd.tail)); (case hfit => rfl); (case hds => rfl)
    refine S3 ?_
    refine CW.eqH (H' := .own 3 1 v :: .blk wb 25 [.val v84, AV.ints W.owner] :: .row 23 1 v84 ((W.parents ++ (bits.take (k + 1)).map (newP W.parents.length)).map fun l => [AV.ints l]).length ((W.parents ++ (bits.take (k + 1)).map (newP W.parents.length)).map fun l => [AV.ints l]).flatten :: .blk cb 25 [.val (.slice none 0 0), .val (.slice none 0 0)] :: H) (by rw [← take_getD hkl]; simp [bcells, newP, Nat.add_assoc]) ?_
    refine S1 ?_; refine Oar ?_; refine Omv ?_; refine S1 ?_
    exact ag (⟨k + 1, v84, rfl, rfl, by omega⟩)
  ·
   replace h1 := nm h1
   obtain rfl : k = bits.length := by omega
   rw [List.take_length]
   refine S6 ?_
   refine CW.perm (.swap _ _ _) ?_
   refine CW.freezeRowCell (k := 1) (xs := []) (fun e he => by obtain ⟨n, _, rfl⟩ := List.mem_map.1 he; rfl) ?_
   refine S1 ?_; refine Ola ?_; refine Sto ?_; refine S3 ?_
   refine Done.retR (rs := [.cell 2 25]) (H' := H) rfl ((by first | exact .cellA inferInstance rfl (by repeat (first | exact .head _ | refine .tail _ ?_)) rfl rfl (.nil) | exact .ptrA inferInstance rfl rfl (.nil))) (AVleL.refl _) (by repeat (first | exact List.Sublist.refl _ | refine List.Sublist.cons _ ?_)) ?_
   exact ⟨by first | rfl | exact retI (by simp_all) | exact retB (by simp_all) | simp_all, rfl⟩
def Small (l : List Nat) : Prop := ∀ s ∈ l, s < 18446744073709551616
theorem class_small {W : FW} {bits : List Nat} {s : Nat} (h : Small bits) (hs : s < 18446744073709551616) : Small (classP W bits s).2 := by
 unfold classP
 split
 ·exact h
 ·split
  ·exact h
  ·intro x hx
   rcases List.mem_append.1 hx with hx | hx
   ·exact h x hx
   ·rw [List.mem_singleton] at hx; rw [hx]; exact hs
theorem slots_small {W : FW} {kn : Value → Kn} {arg : Int} {rec : MSt → List Int → (Int × Int) × MSt} {set : Nat} {path : List Int} {st : MSt} (hr : ∀ s ∈ (kn (keyS arg path)).slots, ∀ st, Small st.1 → Small (rec st (path ++ [s])).2.1) (h : Small st.1) : ∀ k, Small (slotsV W kn arg rec set path st k).2.1
 | 0 => h
 | k + 1 => by
  have h1 := slots_small (W := W) (set := set) hr h k
  rw [slotsV_succ]
  generalize slotsV W kn arg rec set path st k = acc at *
  unfold slotV
  split
  ·split
   ·rename_i hc
    exact hr (k : Int) (List.contains_iff_mem.1 hc) acc.2 h1
   ·exact h1
  ·exact h1
theorem value_small_step {W : FW} {kn : Value → Kn} {arg : Int} {d : Nat} {rec : MSt → List Int → (Int × Int) × MSt} {path : List Int} (hr : ∀ s ∈ (kn (keyS arg path)).slots, ∀ st, Small st.1 → Small (rec st (path ++ [s])).2.1) (st : MSt) (h : Small st.1) : Small (valueS W kn arg d rec st path).2.1 := by
 unfold valueS
 split
 ·exact h
 ·split
  ·exact h
  ·exact slots_small (W := W) (st := (_, _)) hr (class_small h objK_lt) W.owner.length
theorem value_small {W : FW} {kn : Value → Kn} (K : KnOk W kn) (hW : W.owner.length ≤ 40) {arg : Int} : ∀ (d : Nat) (path : List Int), goodSpot arg path → path.length + d = 2 → ∀ st : MSt, Small st.1 → Small (valueP W kn arg d st path).2.1
 | 0, path, h, hd, st => value_small_step (W := W) (d := 0) (rec := fun st _ => ((2, 0), st)) (fun s hs => by rw [K.deep arg path h (by omega)] at hs; cases hs) st
 | d + 1, path, h, hd, st => value_small_step (W := W) (d := d + 1) (rec := valueP W kn arg d) (fun s hs => value_small K hW d (path ++ [s]) (kn_next K hW h hs).2 (by simp; omega)) st
def argV (W : FW) (kn : Value → Kn) (acc : List (Int × Int) × MSt) (a : Nat) : List (Int × Int) × MSt := (acc.1 ++ [(valueP W kn (a : Int) 2 acc.2 []).1], (valueP W kn (a : Int) 2 acc.2 []).2)
def argsV (W : FW) (kn : Value → Kn) (k : Nat) : List (Int × Int) × MSt := (List.range k).foldl (argV W kn) ([], ([], []))
theorem argsV_succ (W : FW) (kn : Value → Kn) (k : Nat) : argsV W kn (k + 1) = argV W kn (argsV W kn k) k := by
 rw [argsV, List.range_succ, List.foldl_append]; rfl
theorem spot_root {a : Nat} (h : a < 3) : goodSpot (a : Int) [] := ⟨by omega, by omega, by simp, by simp⟩
theorem args_ok {W : FW} {kn : Value → Kn} (K : KnOk W kn) (hW : W.owner.length ≤ 40) : ∀ k, k ≤ 3 → Small (argsV W kn k).2.1 ∧ (argsV W kn k).2.1.length ≤ 1641 * k ∧ (argsV W kn k).2.2.length ≤ 1641 * k ∧ (argsV W kn k).1.length = k
 | 0, _ => ⟨fun x hx => (by cases hx), Nat.le_refl _, Nat.le_refl _, rfl⟩
 | k + 1, hk => by
  obtain ⟨h1, h2, h3, h4⟩ := args_ok K hW k (by omega)
  rw [argsV_succ]
  generalize argsV W kn k = acc at *
  have hg := value_grow K hW 2 [] (spot_root (a := k) (by omega)) rfl acc.2
  have hs := value_small K hW 2 [] (spot_root (a := k) (by omega)) rfl acc.2 h1
  obtain ⟨g1, g2, g3⟩ := hg
  have hm : mostV 2 = 1641 := rfl
  rw [hm] at g1 g3
  exact ⟨hs, by show (valueP W kn (k : Int) 2 acc.2 []).2.1.length ≤ _; omega, by show (valueP W kn (k : Int) 2 acc.2 []).2.2.length ≤ _; omega, by simp [argV, h4]⟩
noncomputable def modelC (W : FW) (c : List FLit) : FW × Obs × List (Int × Int) := (moreW W (argsV W (stageK c) 3).2.1, (argsV W (stageK c) 3).2.2, (argsV W (stageK c) 3).1)
abbrev AV.model (x : FW × Obs × List (Int × Int)) (e : Int) : AV := .tup [AV.world x.1, AV.things x.2.1, AV.vals x.2.2, .i e]
def noM : FW × Obs × List (Int × Int) := (⟨[], []⟩, [], [])
theorem no_le (e : Int) : AVleL [.agg [.val (.slice none 0 0), .val (.slice none 0 0)], .val (.slice none 0 0), .val (.slice none 0 0), .i e] [AV.world noM.1, AV.things noM.2.1, AV.vals noM.2.2, .i e] :=
 .cons (AVle.agg (.cons (AVle.nil 1) (.cons (AVle.nil 1) .nil))) (.cons (AVle.nil 2) (.cons (AVle.nil 2) (.cons (.refl _) .nil)))
theorem CW.names {c : Ctx} {r : Option Nat} {P : Program} {pp : Code} {Q : Exit → Act → World → Prop} {env : List (Nat × AV)} {x1 x2 x3 x4 x5 p q : Ent} {Z : List Ent} (h : ∀ e1 e2, e1 = p → e2 = q → CW c r P pp ⟨env, x1 :: x2 :: x3 :: x4 :: x5 :: e1 :: e2 :: Z⟩ Q) : CW c r P pp ⟨env, x1 :: x2 :: x3 :: x4 :: x5 :: p :: q :: Z⟩ Q := h _ _ rfl rfl
def firstC (W : FW) (f : Fact) : Option (List FLit) := (casesP f false).find? (together2 W)
theorem first_of {W : FW} {f : Fact} {pre : List (List FLit)} {x : List FLit} (hpre : pre ++ [x] <+: casesP f false) (hJ : ∀ y ∈ pre, together2 W y = false) (hx : together2 W x = true) : firstC W f = some x := by
 obtain ⟨post, hp⟩ := hpre
 rw [firstC, List.find?_eq_some_iff_append]
 exact ⟨hx, pre, post, by rw [← hp, List.append_assoc]; rfl, fun y hy => by rw [hJ y hy]; rfl⟩
theorem good_1 {W : FW} {f : Fact} (h : goodP W [f] = true) : GoodF W f := by
 have h1 := good_f1 h
 exact good_of h1.1 h1.2.2.1 (by omega)
theorem p61x {W : FW} {f : Fact} (h : goodP W [f] = true) (hl : W.parents.length ≤ 20) (hf : firstC W f = none) : PCall Tryz.prog 61 [AV.world W, AV.fact f] (AV.model noM 5) := by
 intro H
 refine ACall.mkM (n := 62) Tryz.func61 rfl (by kernel_rfl) rfl rfl (fun B I w0 => ?_)
 have hw := good_w h
 have hW := world_own hw
 have hG := good_1 h
 refine S2 ?_; refine Obx ?_; refine Obx ?_
 refine OL.alC rfl rfl rfl rfl (fun r4 => ?_)
 refine OL.alC rfl rfl rfl rfl (fun r5 => ?_)
 refine OL.alC rfl rfl rfl rfl (fun r6 => ?_)
 refine OL.alC rfl rfl rfl rfl (fun r7 => ?_)
 refine S4 ?_; refine Ola ?_; refine Ola ?_
 refine OL.popC rfl rfl rfl (POp.row rfl rfl (by first | rfl | simp_all [strip]) rfl rfl rfl rfl rfl rfl) ?_
 refine OL.popC rfl rfl rfl (POp.callLe (.mk' rfl rfl rfl rfl rfl) (.cons (.refl _) (.cons (AVle_facts [f] rfl) .nil)) (p80g h)) ?_
 refine Omv ?_; refine Oex ?_; refine Oex ?_
 refine OL.alC rfl rfl rfl rfl (fun r8 => ?_)
 refine Sto ?_; refine Oas ?_; refine S6 ?_; refine Omv ?_; refine Ont ?_; refine Oas ?_; refine S2 ?_
 refine CW.cond rfl (fun h0 => ?_) (fun h0 => ?_)
 ·
  cases h0
 ·
  refine S2 ?_; refine Ofa ?_; refine Old ?_; refine Oln ?_; refine Ocm ?_; refine Oas ?_; refine S2 ?_
  refine CW.cond rfl (fun h1 => ?_) (fun h1 => ?_)
  ·
   exfalso
   simp only [decide_eq_true_eq] at h1
   omega
  ·
   refine S6 ?_; refine Ola ?_
   refine OL.popC rfl rfl rfl (POp.call (.mk' rfl rfl rfl rfl rfl) (p81 f false)) ?_
   refine S3 ?_
   refine CW.weaken (st' := ⟨[(2, .ptr (Wcells W)), (3, .ptr (Fcells f)), (8, .p r8 0), (4, .p r4 0), (5, .p r5 0), (6, .p r6 0), (7, .p r7 0), (32, .fn (.func 132) [] [.ptr (Fcells f), .ptr [.b false]])], [.blk r8 109 [Wptr W], .blk r7 35 [.i 0], .blk r6 31 [.val (.slice none 0 0)], .blk r5 30 [.val (.slice none 0 0)], .blk r4 25 [.val (.slice none 0 0), .val (.slice none 0 0)]] ++ H⟩) (by repeat (first | exact trivial | refine ⟨rfl, ?_⟩)) (by repeat (first | exact List.Sublist.refl _ | refine List.Sublist.cons _ ?_)) ?_
   refine CW.rangeFunc (AV.lits) (casesP f false) (fun pre H1 => H1 = [.blk r8 109 [Wptr W], .blk r7 35 [.i 0], .blk r6 31 [.val (.slice none 0 0)], .blk r5 30 [.val (.slice none 0 0)], .blk r4 25 [.val (.slice none 0 0), .val (.slice none 0 0)]] ∧ ∀ y ∈ pre, together2 W y = false) (fun code pre H1 => False) ([.blk r8 109 [Wptr W], .blk r7 35 [.i 0], .blk r6 31 [.val (.slice none 0 0)], .blk r5 30 [.val (.slice none 0 0)], .blk r4 25 [.val (.slice none 0 0), .val (.slice none 0 0)]]) (H) (fun x => (10, AV.lits x) :: (33, AV.lits x) :: [(2, .ptr (Wcells W)), (3, .ptr (Fcells f)), (8, .p r8 0), (4, .p r4 0), (5, .p r5 0), (6, .p r6 0), (7, .p r7 0), (32, .fn (.func 132) [] [.ptr (Fcells f), .ptr [.b false]])]) rfl rfl rfl rfl (seq132 f hG.ok hG.nodes false) (⟨rfl, by simp⟩) ?_ ?_ ?_ ?_
   ·intro l0 I1 w1 x Hy
    refine S1 ?_; refine Oas ?_; refine S1 ?_
    exact fun a w s => ⟨_, rfl, s⟩
   ·intro l0 D0 lp pre x H1 Hy I1 w1 hpre hJ
    obtain ⟨rfl, hJp⟩ := hJ
    obtain ⟨hxl, hxn⟩ := hG.case false x (hpre.subset (by simp))
    have h82 := p82 hw hxl hxn
    rw [case_two ⟨hxl, hxn⟩] at h82
    refine S4 ?_; refine Old ?_; refine Omv ?_
    refine OL.popC rfl rfl rfl (POp.call (.mk' rfl rfl rfl rfl rfl) (h82)) ?_
    refine Ont ?_; refine S2 ?_
    refine CW.cond rfl (fun h2 => ?_) (fun h2 => ?_)
    ·
     have hxf : together2 W x = false := by simpa using h2
     refine S3 ?_
     exact Done.roundN (by repeat (first | exact List.Sublist.refl _ | refine List.Sublist.cons _ ?_)) (⟨rfl, fun y hy => by rcases List.mem_append.1 hy with hy | hy; exact hJp y hy; simp at hy; subst hy; exact hxf⟩)
    ·
     exfalso
     have hxt : together2 W x = true := by simpa using h2
     rw [first_of hpre hJp hxt] at hf
     cases hf
   ·intro D0 H1 hJ
    obtain ⟨rfl, hJp⟩ := hJ
    refine S4 ?_; refine Obd ?_; refine Sto ?_; refine Sto ?_; refine Sto ?_; refine Sto ?_; refine S3 ?_
    refine Done.retM1 (rs := [.cell 4 25, .cell 5 30, .cell 6 31, .cell 7 35]) (H' := H) rfl (by repeat (first | exact Del.head _ _ | apply Del.tail)) ((by first | exact .cellA inferInstance rfl (by repeat (first | exact .head _ | refine .tail _ ?_)) rfl rfl ((by first | exact .cell1 inferInstance rfl (by repeat (first | exact .head _ | refine .tail _ ?_)) rfl ((by first | exact .cell1 inferInstance rfl (by repeat (first | exact .head _ | refine .tail _ ?_)) rfl ((by first | exact .cell1 inferInstance rfl (by repeat (first | exact .head _ | refine .tail _ ?_)) rfl (.nil) | exact .ptr1 inferInstance rfl rfl (.nil))) | exact .ptr1 inferInstance rfl rfl ((by first | exact .cell1 inferInstance rfl (by repeat (first | exact .head _ | refine .tail _ ?_)) rfl (.nil) | exact .ptr1 inferInstance rfl rfl (.nil))))) | exact .ptr1 inferInstance rfl rfl ((by first | exact .cell1 inferInstance rfl (by repeat (first | exact .head _ | refine .tail _ ?_)) rfl ((by first | exact .cell1 inferInstance rfl (by repeat (first | exact .head _ | refine .tail _ ?_)) rfl (.nil) | exact .ptr1 inferInstance rfl rfl (.nil))) | exact .ptr1 inferInstance rfl rfl ((by first | exact .cell1 inferInstance rfl (by repeat (first | exact .head _ | refine .tail _ ?_)) rfl (.nil) | exact .ptr1 inferInstance rfl rfl (.nil))))))) | exact .ptrA inferInstance rfl rfl ((by first | exact .cell1 inferInstance rfl (by repeat (first | exact .head _ | refine .tail _ ?_)) rfl ((by first | exact .cell1 inferInstance rfl (by repeat (first | exact .head _ | refine .tail _ ?_)) rfl ((by first | exact .cell1 inferInstance rfl (by repeat (first | exact .head _ | refine .tail _ ?_)) rfl (.nil) | exact .ptr1 inferInstance rfl rfl (.nil))) | exact .ptr1 inferInstance rfl rfl ((by first | exact .cell1 inferInstance rfl (by repeat (first | exact .head _ | refine .tail _ ?_)) rfl (.nil) | exact .ptr1 inferInstance rfl rfl (.nil))))) | exact .ptr1 inferInstance rfl rfl ((by first | exact .cell1 inferInstance rfl (by repeat (first | exact .head _ | refine .tail _ ?_)) rfl ((by first | exact .cell1 inferInstance rfl (by repeat (first | exact .head _ | refine .tail _ ?_)) rfl (.nil) | exact .ptr1 inferInstance rfl rfl (.nil))) | exact .ptr1 inferInstance rfl rfl ((by first | exact .cell1 inferInstance rfl (by repeat (first | exact .head _ | refine .tail _ ?_)) rfl (.nil) | exact .ptr1 inferInstance rfl rfl (.nil))))))))) (no_le 5) (by repeat (first | exact List.Sublist.refl _ | refine List.Sublist.cons _ ?_)) ?_
    exact ⟨by first | rfl | exact retI (by simp_all) | exact retB (by simp_all) | simp_all, rfl⟩
   ·intro D0 code0 pre H1 hpre hJx
    exact hJx.elim
theorem p61g {W : FW} {f : Fact} (h : goodP W [f] = true) (hl : W.parents.length ≤ 20) {c : List FLit} (hf : firstC W f = some c) : PCall Tryz.prog 61 [AV.world W, AV.fact f] (AV.model (modelC W c) 0) := by
 intro H
 refine ACall.mkM (n := 62) Tryz.func61 rfl (by kernel_rfl) rfl rfl (fun B I w0 => ?_)
 have hw := good_w h
 have hW := world_own hw
 have hG := good_1 h
 refine S2 ?_; refine Obx ?_; refine Obx ?_
 refine OL.alC rfl rfl rfl rfl (fun r4 => ?_)
 refine OL.alC rfl rfl rfl rfl (fun r5 => ?_)
 refine OL.alC rfl rfl rfl rfl (fun r6 => ?_)
 refine OL.alC rfl rfl rfl rfl (fun r7 => ?_)
 refine S4 ?_; refine Ola ?_; refine Ola ?_
 refine OL.popC rfl rfl rfl (POp.row rfl rfl (by first | rfl | simp_all [strip]) rfl rfl rfl rfl rfl rfl) ?_
 refine OL.popC rfl rfl rfl (POp.callLe (.mk' rfl rfl rfl rfl rfl) (.cons (.refl _) (.cons (AVle_facts [f] rfl) .nil)) (p80g h)) ?_
 refine Omv ?_; refine Oex ?_; refine Oex ?_
 refine OL.alC rfl rfl rfl rfl (fun r8 => ?_)
 refine Sto ?_; refine Oas ?_; refine S6 ?_; refine Omv ?_; refine Ont ?_; refine Oas ?_; refine S2 ?_
 refine CW.cond rfl (fun h0 => ?_) (fun h0 => ?_)
 ·
  cases h0
 ·
  refine S2 ?_; refine Ofa ?_; refine Old ?_; refine Oln ?_; refine Ocm ?_; refine Oas ?_; refine S2 ?_
  refine CW.cond rfl (fun h1 => ?_) (fun h1 => ?_)
  ·
   exfalso
   simp only [decide_eq_true_eq] at h1
   omega
  ·
   refine S6 ?_; refine Ola ?_
   refine OL.popC rfl rfl rfl (POp.call (.mk' rfl rfl rfl rfl rfl) (p81 f false)) ?_
   refine S3 ?_
   refine CW.weaken (st' := ⟨[(2, .ptr (Wcells W)), (3, .ptr (Fcells f)), (8, .p r8 0), (4, .p r4 0), (5, .p r5 0), (6, .p r6 0), (7, .p r7 0), (32, .fn (.func 132) [] [.ptr (Fcells f), .ptr [.b false]])], [.blk r8 109 [Wptr W], .blk r7 35 [.i 0], .blk r6 31 [.val (.slice none 0 0)], .blk r5 30 [.val (.slice none 0 0)], .blk r4 25 [.val (.slice none 0 0), .val (.slice none 0 0)]] ++ H⟩) (by repeat (first | exact trivial | refine ⟨rfl, ?_⟩)) (by repeat (first | exact List.Sublist.refl _ | refine List.Sublist.cons _ ?_)) ?_
   refine CW.rangeFunc (AV.lits) (casesP f false) (fun pre H1 => H1 = [.blk r8 109 [Wptr W], .blk r7 35 [.i 0], .blk r6 31 [.val (.slice none 0 0)], .blk r5 30 [.val (.slice none 0 0)], .blk r4 25 [.val (.slice none 0 0), .val (.slice none 0 0)]] ∧ ∀ y ∈ pre, together2 W y = false) (fun code pre H1 => code = .ret ∧ ∃ y Wm os vs, firstC W f = some y ∧ modelC W y = (Wm, os, vs) ∧ H1 = [.blk r8 109 [Wptr W], .blk r7 35 [.i 0], .blk r6 31 [AV.vals vs], .blk r5 30 [AV.things os], .blk r4 25 [AV.intss Wm.parents, AV.ints Wm.owner]]) ([.blk r8 109 [Wptr W], .blk r7 35 [.i 0], .blk r6 31 [.val (.slice none 0 0)], .blk r5 30 [.val (.slice none 0 0)], .blk r4 25 [.val (.slice none 0 0), .val (.slice none 0 0)]]) (H) (fun x => (10, AV.lits x) :: (33, AV.lits x) :: [(2, .ptr (Wcells W)), (3, .ptr (Fcells f)), (8, .p r8 0), (4, .p r4 0), (5, .p r5 0), (6, .p r6 0), (7, .p r7 0), (32, .fn (.func 132) [] [.ptr (Fcells f), .ptr [.b false]])]) rfl rfl rfl rfl (seq132 f hG.ok hG.nodes false) (⟨rfl, by simp⟩) ?_ ?_ ?_ ?_
   ·intro l0 I1 w1 x Hy
    refine S1 ?_; refine Oas ?_; refine S1 ?_
    exact fun a w s => ⟨_, rfl, s⟩
   ·intro l0 D0 lp pre x H1 Hy I1 w1 hpre hJ
    obtain ⟨rfl, hJp⟩ := hJ
    obtain ⟨hxl, hxn⟩ := hG.case false x (hpre.subset (by simp))
    have h82 := p82 hw hxl hxn
    rw [case_two ⟨hxl, hxn⟩] at h82
    refine S4 ?_; refine Old ?_; refine Omv ?_
    refine OL.popC rfl rfl rfl (POp.call (.mk' rfl rfl rfl rfl rfl) (h82)) ?_
    refine Ont ?_; refine S2 ?_
    refine CW.cond rfl (fun h2 => ?_) (fun h2 => ?_)
    ·
     have hxf : together2 W x = false := by simpa using h2
     refine S3 ?_
     exact Done.roundN (by repeat (first | exact List.Sublist.refl _ | refine List.Sublist.cons _ ?_)) (⟨rfl, fun y hy => by rcases List.mem_append.1 hy with hy | hy; exact hJp y hy; simp at hy; subst hy; exact hxf⟩)
    ·
     have hxt : together2 W x = true := by simpa using h2
     have hfx := first_of hpre hJp hxt
     refine S4 ?_; refine Old ?_; refine Omv ?_
     refine OL.bcallC rfl rfl rfl (.mk' rfl rfl rfl rfl rfl) (p115 hxl hW hxn _ _) ?_
     rintro y H1 ⟨mb, rfl, hB, rfl⟩
     refine Obd ?_
     refine OL.boxC rfl rfl rfl rfl rfl rfl rfl (fun xb => ?_)
     refine Oas ?_; refine S3 ?_
     have hK := stage_ok hxl hB
     refine CW.rowNil 160 2 ?_
     refine CW.rowNil 135 1 ?_
     refine CW.perm (List.perm_middle (l₁ := [_, _])) ?_
     refine S1 ?_; refine Oas ?_; refine S4 ?_
     refine CW.ownNil 12 97 2 rfl ?_
     refine CW.perm (List.perm_middle (l₁ := [_, _, _, _])).symm ?_
     refine CW.names (fun e1 e2 he1 he2 => ?_)
     refine S1 ?_; refine Omv ?_; refine S3 ?_
     refine lj (fun m st => ∃ (k : Nat) (v bv ov : Value) (acc : List (Int × Int) × MSt), acc = argsV W (stageK x) k ∧ st = ⟨[(43, .i k), (12, .as (AV.vals acc.1) v), (11, .p xb 0), (4, .p r4 0), (5, .p r5 0), (6, .p r6 0), (7, .p r7 0)], mdlH W mb xb bv ov acc.2.1 acc.2.2 (sceneH mb (stageK x) :: .own 97 2 v :: e1 :: e2 :: .blk r8 109 [Wptr W] :: .blk r7 35 [.i 0] :: .blk r6 31 [.val (.slice none 0 0)] :: .blk r5 30 [.val (.slice none 0 0)] :: .blk r4 25 [.val (.slice none 0 0), .val (.slice none 0 0)] :: Hy)⟩ ∧ m = 3 - k ∧ k ≤ 3) (⟨0, .slice none 0 0, .slice none 0 0, .slice none 0 0, ([], ([], [])), rfl, rfl, rfl, by omega⟩) ?_
     rintro m _ ⟨k, v, bv1, ov1, acc, hacc, rfl, rfl, hk⟩
     have hA := args_ok hK hW k hk
     rw [← hacc] at hA
     obtain ⟨a1, a2, a3, a4⟩ := hA
     have hm2 : mostV 2 = 1641 := rfl
     refine S2 ?_; refine Ocm ?_; refine S3 ?_
     refine CW.cond rfl (fun h3 => ?_) (fun h3 => ?_)
     ·
      replace h3 := nm h3
      have hk3 : k < 3 := by omega
      refine S6 ?_; refine Omv ?_; refine Oas ?_; refine S3 ?_; refine Omv ?_; refine Omv ?_; refine Omv ?_; refine Obd ?_
      refine OL.bcallC rfl rfl rfl (.mk' rfl rfl rfl rfl rfl) (b116 hK hw 2 [] (spot_root hk3) rfl bv1 ov1 acc.2 (.own 97 2 v :: e1 :: e2 :: .blk r8 109 [Wptr W] :: .blk r7 35 [.i 0] :: .blk r6 31 [.val (.slice none 0 0)] :: .blk r5 30 [.val (.slice none 0 0)] :: .blk r4 25 [.val (.slice none 0 0), .val (.slice none 0 0)] :: Hy) _ (by omega) (by omega)) ?_
      rintro y H1 ⟨bv2, ov2, rfl, rfl⟩
      refine OL.popC rfl rfl rfl (POp.row rfl rfl (by first | rfl | simp_all [strip]) rfl rfl rfl rfl rfl rfl) ?_
      refine OL.appendC rfl rfl rfl rfl rfl rfl rfl rfl (AVle.refl _) (rfl) (fun v => by repeat (first | exact Upd.head _ _ _ | apply Upd.tail)) (by show (List.length (List.map _ _) + 1) * 16 ≤ _; rw [List.length_map]; omega) (by show List.length (List.map _ _) + 1 ≤ _; rw [List.length_map]; omega) (fun v52 => ?_)
      refine Oas ?_; refine S3 ?_
      refine CW.le 12 (y := .as (AV.vals (acc.1 ++ [(valueP W (stageK x) (k : Int) 2 acc.2 []).1])) v52) rfl (by rw [AV.vals, List.map_append]; exact AVle.refl _) ?_
      refine S1 ?_; refine Oar ?_; refine Omv ?_; refine S1 ?_
      exact ag (⟨k + 1, v52, bv2, ov2, argV W (stageK x) acc k, by rw [argsV_succ, ← hacc], rfl, rfl, by omega⟩)
     ·
      replace h3 := nm h3
      obtain rfl : k = 3 := by omega
      have hmodel : modelC W x = (moreW W acc.2.1, acc.2.2, acc.1) := by rw [hacc]; rfl
      refine S6 ?_
      refine CW.le 12 rfl (AVle.asL _ _) ?_
      refine CW.perm (.swap _ _ _) ?_
      refine CW.freezeRowCell (k := 1) (xs := [sceneP W mb]) (ys := [.val ov1]) (fun e he => by obtain ⟨n, _, rfl⟩ := List.mem_map.1 he; rfl) ?_
      refine CW.perm (.swap _ _ _) ?_
      refine CW.freezeRowCell (k := 2) (xs := [sceneP W mb, AV.sets acc.2.1]) (ys := []) (fun e he => by obtain ⟨n, _, rfl⟩ := List.mem_map.1 he; rfl) ?_
      refine CW.freezeP (d := 11) rfl (.head _ _) ?_
      refine CW.dp mixed ?_
      refine DP.anySC (fun sj => match sj with | 0 => sceneH mb (stageK x) :: .own 97 2 v :: e1 :: e2 :: .blk r8 109 [Wptr W] :: .blk r7 35 [.i 0] :: .blk r6 31 [.val (.slice none 0 0)] :: .blk r5 30 [.val (.slice none 0 0)] :: .blk r4 25 [.val (.slice none 0 0), .val (.slice none 0 0)] :: Hy | 1 => sceneH mb (stageK x) :: .own 97 2 v :: e1 :: e2 :: .blk r8 109 [Wptr W] :: .blk r7 35 [.i 0] :: .blk r6 31 [.val (.slice none 0 0)] :: .blk r5 30 [.val (.slice none 0 0)] :: .blk r4 25 [AV.intss (moreW W acc.2.1).parents, AV.ints (moreW W acc.2.1).owner] :: Hy | _ => sceneH mb (stageK x) :: .own 97 2 v :: e1 :: e2 :: .blk r8 109 [Wptr W] :: .blk r7 35 [.i 0] :: .blk r6 31 [.val (.slice none 0 0)] :: .blk r5 30 [AV.things acc.2.2] :: .blk r4 25 [AV.intss (moreW W acc.2.1).parents, AV.ints (moreW W acc.2.1).owner] :: Hy) [7, 8] 0 9 62 rfl (by decide +kernel) rfl rfl rfl (by decide +kernel) rfl ?_
      refine TD.popC 0 0 (by decide +kernel) (by decide +kernel) (by decide +kernel) rfl rfl rfl (fun j hj1 hj2 => by rcases (show j = 0 by omega) with rfl <;> exact (POp.move rfl rfl rfl)) ?_
      refine TD.popC 0 0 (by decide +kernel) (by decide +kernel) (by decide +kernel) rfl rfl rfl (fun j hj1 hj2 => by rcases (show j = 0 by omega) with rfl <;> exact (POp.call (.mk' rfl rfl rfl rfl rfl) (p117 hw mb acc.2.1 acc.2.2 a1 (by omega)))) ?_
      refine TD.popC 0 1 (by decide +kernel) (by decide +kernel) (by decide +kernel) rfl rfl rfl (fun j hj1 hj2 => by rcases (show j = 0 ∨ j = 1 by omega) with rfl | rfl <;> exact (POp.move rfl rfl rfl)) ?_
      refine TD.popC 0 1 (by decide +kernel) (by decide +kernel) (by decide +kernel) rfl rfl rfl (fun j hj1 hj2 => by rcases (show j = 0 ∨ j = 1 by omega) with rfl | rfl <;> exact ((by first | exact POp.nilCheck rfl rfl rfl | exact POp.nilCheckP rfl rfl rfl | exact POp.nilCheckF rfl rfl rfl))) ?_
      refine TD.popC 0 1 (by decide +kernel) (by decide +kernel) (by decide +kernel) rfl rfl rfl (fun j hj1 hj2 => by rcases (show j = 0 ∨ j = 1 by omega) with rfl | rfl <;> exact ((by first | exact POp.fa rfl rfl rfl rfl | exact POp.faP rfl rfl rfl rfl))) ?_
      refine TD.popC 0 1 (by decide +kernel) (by decide +kernel) (by decide +kernel) rfl rfl rfl (fun j hj1 hj2 => by rcases (show j = 0 ∨ j = 1 by omega) with rfl | rfl <;> exact ((by first | exact POp.ld1 rfl rfl rfl rfl | (apply POp.ld1H rfl rfl rfl; (case hm => repeat (first | exact .head _ | refine .tail _ ?_)); (case hy => rfl))))) ?_
      refine TD.popC 0 2 (by decide +kernel) (by decide +kernel) (by decide +kernel) rfl rfl rfl (fun j hj1 hj2 => by rcases (show j = 0 ∨ j = 1 ∨ j = 2 by omega) with rfl | rfl | rfl <;> exact (POp.move rfl rfl rfl)) ?_
      refine TD.stoC 0 (by decide +kernel) (by decide +kernel) (by decide +kernel) rfl rfl (.store rfl rfl rfl rfl rfl rfl rfl rfl (by repeat (first | exact Upd.head _ _ _ | apply Upd.tail)) (by exact rfl) (by exact rfl)) ?_
      refine TD.stoC 1 (by decide +kernel) (by decide +kernel) (by decide +kernel) rfl rfl (.store rfl rfl rfl rfl rfl rfl rfl rfl (by repeat (first | exact Upd.head _ _ _ | apply Upd.tail)) (by exact rfl) (by exact rfl)) ?_
      refine TD.nil ?_
      refine DP.tailC 9 (by decide +kernel) rfl ?_
      refine Sto ?_
      subst he1; subst he2
      refine Sto ?_; refine S4 ?_
      exact Done.roundR (by repeat (first | exact List.Sublist.refl _ | refine List.Sublist.cons _ ?_)) (⟨rfl, x, _, _, _, hfx, hmodel, rfl⟩)
   ·intro D0 H1 hJ
    obtain ⟨rfl, hJp⟩ := hJ
    exfalso
    have := List.find?_some hf
    rw [hJp c (List.mem_of_find?_eq_some hf)] at this
    cases this
   ·intro D0 code0 pre H1 hpre hJx
    obtain ⟨rfl, y, Wm, os, vs, hy, hmod, rfl⟩ := hJx
    obtain rfl : c = y := by rw [hf] at hy; exact Option.some.inj hy
    ·
     refine S3 ?_
     refine Done.retM1 (rs := [.cell 4 25, .cell 5 30, .cell 6 31, .cell 7 35]) (H' := H) rfl (by repeat (first | exact Del.head _ _ | apply Del.tail)) ((by first | exact .cellA inferInstance rfl (by repeat (first | exact .head _ | refine .tail _ ?_)) rfl rfl ((by first | exact .cell1 inferInstance rfl (by repeat (first | exact .head _ | refine .tail _ ?_)) rfl ((by first | exact .cell1 inferInstance rfl (by repeat (first | exact .head _ | refine .tail _ ?_)) rfl ((by first | exact .cell1 inferInstance rfl (by repeat (first | exact .head _ | refine .tail _ ?_)) rfl (.nil) | exact .ptr1 inferInstance rfl rfl (.nil))) | exact .ptr1 inferInstance rfl rfl ((by first | exact .cell1 inferInstance rfl (by repeat (first | exact .head _ | refine .tail _ ?_)) rfl (.nil) | exact .ptr1 inferInstance rfl rfl (.nil))))) | exact .ptr1 inferInstance rfl rfl ((by first | exact .cell1 inferInstance rfl (by repeat (first | exact .head _ | refine .tail _ ?_)) rfl ((by first | exact .cell1 inferInstance rfl (by repeat (first | exact .head _ | refine .tail _ ?_)) rfl (.nil) | exact .ptr1 inferInstance rfl rfl (.nil))) | exact .ptr1 inferInstance rfl rfl ((by first | exact .cell1 inferInstance rfl (by repeat (first | exact .head _ | refine .tail _ ?_)) rfl (.nil) | exact .ptr1 inferInstance rfl rfl (.nil))))))) | exact .ptrA inferInstance rfl rfl ((by first | exact .cell1 inferInstance rfl (by repeat (first | exact .head _ | refine .tail _ ?_)) rfl ((by first | exact .cell1 inferInstance rfl (by repeat (first | exact .head _ | refine .tail _ ?_)) rfl ((by first | exact .cell1 inferInstance rfl (by repeat (first | exact .head _ | refine .tail _ ?_)) rfl (.nil) | exact .ptr1 inferInstance rfl rfl (.nil))) | exact .ptr1 inferInstance rfl rfl ((by first | exact .cell1 inferInstance rfl (by repeat (first | exact .head _ | refine .tail _ ?_)) rfl (.nil) | exact .ptr1 inferInstance rfl rfl (.nil))))) | exact .ptr1 inferInstance rfl rfl ((by first | exact .cell1 inferInstance rfl (by repeat (first | exact .head _ | refine .tail _ ?_)) rfl ((by first | exact .cell1 inferInstance rfl (by repeat (first | exact .head _ | refine .tail _ ?_)) rfl (.nil) | exact .ptr1 inferInstance rfl rfl (.nil))) | exact .ptr1 inferInstance rfl rfl ((by first | exact .cell1 inferInstance rfl (by repeat (first | exact .head _ | refine .tail _ ?_)) rfl (.nil) | exact .ptr1 inferInstance rfl rfl (.nil))))))))) (AVleL.refl _) (by repeat (first | exact List.Sublist.refl _ | refine List.Sublist.cons _ ?_)) ?_
     exact ⟨by rw [hmod]; rfl, rfl⟩
def sameW (U V : FW) : Bool := U.parents == V.parents && U.owner == V.owner
def biggerP (U V : FW) : Bool := decide (V.parents.length ≤ U.parents.length) && decide (V.owner.length ≤ U.owner.length) && sameW ⟨U.parents.take V.parents.length, U.owner.take V.owner.length⟩ V
structure MdlOk (W : FW) (f : Fact) (x : FW × Obs × List (Int × Int)) : Prop where
 w : worldP x.1 = true
 big : biggerP x.1 W = true
 things : thingsP x.1 x.2.1 = true
 three : x.2.2.length = 3
 args : argsP x.2.2 x.2.1.length = true
 wf : wfB x.1 f = true
 spk : spkN f ≤ 3
 holds : ev (VO x.1 x.2.1 x.2.2) f = true
theorem MdlOk.h {W : FW} {f : Fact} {x : FW × Obs × List (Int × Int)} (h : MdlOk W f x) : HOk x.1 x.2.1 x.2.2 := handed_ok h.w (by rw [handedP, h.things, h.args]; rfl)
theorem first_can {W : FW} {f : Fact} : canC W f = (firstC W f).isSome := by
 rw [canC, firstC, Bool.eq_iff_iff, List.any_eq_true, List.find?_isSome]
def takesE (W : FW) (f : Fact) (objs : List Th) (args : List (Int × Int)) : Bool := takesP W f objs args && ev (VO W objs args) f
theorem takes_h {W : FW} {f : Fact} {objs : List Th} {args : List (Int × Int)} (h : takesP W f objs args = true) : HOk W objs args := by
 simp only [takesP, Bool.and_eq_true] at h
 exact handed_ok (good_w h.1.1) h.1.2
theorem imp_holds {W : FW} {a b : Fact} (h : goodP W [a, b] = true) (hi : impC W a b = true) {objs : List Th} {args : List (Int × Int)} (ha : takesP W a objs args = true) (hb : takesP W b objs args = true) (he : takesE W a objs args = true) : takesE W b objs args = true := by
 obtain ⟨hw, h1, _, h2, _⟩ := good_f2 h
 rw [takesE, ha, Bool.true_and] at he
 rw [takesE, hb, Bool.true_and]
 exact (imp_sem hw h1 h2).1 hi _ (vo_ok (takes_h ha)) he
abbrev andN (a b : Fact) : Fact := andF a (notF b)
theorem imp_first {W : FW} {a b : Fact} (hi : impC W a b = true) : firstC W (andN a b) = none := by
 have : canC W (andN a b) = false := by
  rw [impC] at hi; simpa using hi
 rw [first_can] at this
 simpa using this
theorem nimp_first {W : FW} {a b : Fact} (hi : impC W a b = false) : ∃ c, firstC W (andN a b) = some c := by
 have : canC W (andN a b) = true := by
  rw [impC] at hi; simpa using hi
 rw [first_can] at this
 exact Option.isSome_iff_exists.1 this
theorem code_zero (t : Bool) : ((if t = true then (0 : Int) else 2) == 0) = t := by cases t <;> rfl
theorem p79 (g : Gv) (f : Fact) : PCall Tryz.prog 79 [AV.given g, AV.fact f] (.tup [.b (takesE g.W f g.objs g.args), .b (takesP g.W f g.objs g.args)]) := by
 intro H
 refine ACall.mk' (n := 22) Tryz.func79 rfl (by kernel_rfl) rfl rfl (fun B I w0 => ?_)
 refine S2 ?_; refine Obx ?_; refine Obx ?_; refine Oas ?_; refine Oas ?_; refine S4 ?_; refine Ofa ?_; refine Ola ?_; refine Ola ?_; refine Ofa ?_; refine Old ?_; refine Ofa ?_
 refine Old ?_
 refine OL.popC rfl rfl rfl (POp.call (.mk' rfl rfl rfl rfl rfl) (p68 g.W f g.objs g.args)) ?_
 refine Omv ?_; refine Oex ?_; refine Oex ?_; refine Oas ?_; refine Oas ?_; refine S4 ?_; refine Omv ?_; refine Omv ?_; refine Ocm ?_; refine Oas ?_; refine Oas ?_; refine S3 ?_
 refine Done.retR (rs := [.tmp 4, .tmp 5]) (H' := H) rfl (.tmp rfl (.tmp rfl (.nil))) (AVleL.refl _) (by repeat (first | exact List.Sublist.refl _ | refine List.Sublist.cons _ ?_)) ?_
 exact ⟨by rw [code_zero]; rfl, rfl⟩
theorem p78 (g : Gv) : PCall Tryz.prog 78 [AV.given g] (.b (takesP g.W g.A g.objs g.args && takesP g.W g.B g.objs g.args)) := by
 intro H
 refine ACall.mk' (n := 37) Tryz.func78 rfl (by kernel_rfl) rfl rfl (fun B I w0 => ?_)
 refine S2 ?_; refine Obx ?_; refine Oas ?_; refine S4 ?_; refine Ofa ?_; refine Ola ?_; refine Ofa ?_; refine Ola ?_; refine Ofa ?_; refine Old ?_; refine Ofa ?_; refine Old ?_
 refine OL.popC rfl rfl rfl (POp.call (.mk' rfl rfl rfl rfl rfl) (p68 g.W g.A g.objs g.args)) ?_
 refine Omv ?_; refine Oex ?_; refine Oex ?_; refine Oas ?_; refine Oas ?_; refine S4 ?_; refine Ofa ?_; refine Ola ?_; refine Ofa ?_; refine Ola ?_; refine Ofa ?_; refine Old ?_
 refine Ofa ?_; refine Old ?_
 refine OL.popC rfl rfl rfl (POp.call (.mk' rfl rfl rfl rfl rfl) (p68 g.W g.B g.objs g.args)) ?_
 refine Omv ?_; refine Oex ?_; refine Oex ?_; refine Oas ?_; refine Oas ?_; refine S4 ?_; refine Omv ?_; refine Ocm ?_; refine Omv ?_; refine Pmv ?_; refine Pcm ?_; refine Opk ?_
 refine Oas ?_; refine S3 ?_
 refine r1 2 (H) ?_
 exact ⟨retB (by rw [code_zero, code_zero]; cases takesP g.W g.A g.objs g.args <;> rfl), rfl⟩
theorem p16n (g : Gv) (h : goodP g.W [g.A, g.B] = false) : PCall Tryz.prog 16 [AV.given g] (.b true) := by
 intro H
 refine ACall.mk' (n := 134) Tryz.func16 rfl (by kernel_rfl) rfl rfl (fun B I w0 => ?_)
 refine S2 ?_; refine Obx ?_; refine Oas ?_; refine S4 ?_; refine Ofa ?_; refine Ola ?_; refine Ofa ?_; refine Ola ?_; refine Ofa ?_; refine Ola ?_
 refine OL.popC rfl rfl rfl (POp.call (.mk' rfl rfl rfl rfl rfl) (p24n h)) ?_
 refine Omv ?_; refine Oex ?_; refine Oex ?_; refine Oas ?_; refine Oas ?_; refine S5 ?_; refine Omv ?_; refine Ocm ?_; refine S2 ?_
 refine CW.cond rfl (fun h0 => ?_) (fun h0 => ?_)
 ·
  refine S2 ?_; refine Omv ?_; refine Ocm ?_; refine Omv ?_; refine Pmv ?_; refine Pnt ?_; refine Opk ?_; refine Omv ?_
  refine OL.guardC rfl rfl rfl rfl rfl rfl (fun hg => POp.call (.mk' rfl rfl rfl rfl rfl) (p21)) ?_
  refine Opk ?_; refine Oas ?_; refine S4 ?_
  refine r1 2 (H) ?_
  exact ⟨by rfl, rfl⟩
 ·
  cases h0
theorem p16t (g : Gv) (h : goodP g.W [g.A, g.B] = true) (hi : impC g.W g.A g.B = true) : PCall Tryz.prog 16 [AV.given g] (.b true) := by
 intro H
 refine ACall.mk' (n := 134) Tryz.func16 rfl (by kernel_rfl) rfl rfl (fun B I w0 => ?_)
 have h24 := p24c h
 rw [hi] at h24
 obtain ⟨hgA, hgB⟩ : True ∧ True := ⟨trivial, trivial⟩
 refine S2 ?_; refine Obx ?_; refine Oas ?_; refine S4 ?_; refine Ofa ?_; refine Ola ?_; refine Ofa ?_; refine Ola ?_; refine Ofa ?_; refine Ola ?_
 refine OL.popC rfl rfl rfl (POp.call (.mk' rfl rfl rfl rfl rfl) (h24)) ?_
 refine Omv ?_; refine Oex ?_; refine Oex ?_; refine Oas ?_; refine Oas ?_; refine S5 ?_; refine Omv ?_; refine Ocm ?_; refine S2 ?_
 refine CW.cond rfl (fun h0 => ?_) (fun h0 => ?_)
 ·
  cases h0
 ·
  refine S2 ?_
  refine CW.cutJ (fun st => st = ⟨[(3, .b true), (2, .b false), (1, .ptr (Gcells g))], H⟩) ?_ ?_
  ·
   refine S2 ?_; refine Omv ?_; refine Omv ?_; refine Pla ?_
   refine OL.guardC rfl rfl rfl rfl rfl rfl (fun hg => POp.call (.mk' rfl rfl rfl rfl (by first | rfl | ((repeat (first | exact hg | rfl | refine Bool.and_eq_true_iff.2 ⟨?_, ?_⟩)); done) | simp_all [strip, constAV])) (p78 g)) ?_
   refine Opk ?_; refine S2 ?_
   refine CW.cond rfl (fun h1 => ?_) (fun h1 => ?_)
   ·
    have h1p : takesP g.W g.A g.objs g.args = true ∧ takesP g.W g.B g.objs g.args = true := by simpa using h1
    refine S2 ?_; refine Ola ?_; refine Ofa ?_; refine Ola ?_
    refine OL.popC rfl rfl rfl (POp.call (.mk' rfl rfl rfl rfl rfl) (p79 g g.A)) ?_
    refine Omv ?_; refine Oex ?_; refine Oex ?_; refine Oas ?_; refine Oas ?_; refine S4 ?_; refine Ola ?_; refine Ofa ?_; refine Ola ?_
    refine OL.popC rfl rfl rfl (POp.call (.mk' rfl rfl rfl rfl rfl) (p79 g g.B)) ?_
    refine Omv ?_; refine Oex ?_; refine Oex ?_; refine Oas ?_; refine Oas ?_; refine S4 ?_; refine Omv ?_; refine Omv ?_; refine Pmv ?_; refine Pnt ?_; refine Opk ?_; refine S2 ?_
    refine CW.cond rfl (fun h2 => ?_) (fun h2 => ?_)
    ·
     exfalso
     have h2p : takesE g.W g.A g.objs g.args = true ∧ takesE g.W g.B g.objs g.args = false := by simpa using h2
     rw [imp_holds h hi h1p.1 h1p.2 h2p.1] at h2p
     cases h2p.2
    ·
     refine S1 ?_
     exact Done.cutJ rfl (by repeat (first | exact trivial | refine ⟨rfl, ?_⟩)) (by repeat (first | exact List.Sublist.refl _ | refine List.Sublist.cons _ ?_))
   ·
    refine S1 ?_
    exact Done.cutJ rfl (by repeat (first | exact trivial | refine ⟨rfl, ?_⟩)) (by repeat (first | exact List.Sublist.refl _ | refine List.Sublist.cons _ ?_))
  ·
   rintro _ rfl
   refine S1 ?_
   refine CW.dp mixed ?_
   refine DP.anyV [⟨6, 9, 29, [.int .i64 0, .int .i64 0, .slice none 0 0, .int .i64 0, .int .i64 0, .slice none 0 0], 7, Fcells (andN g.A g.B)⟩] 0 8 134 rfl (by decide +kernel) (by kernel_rfl) rfl rfl (by decide +kernel) ?_
   refine UD.popV rfl rfl rfl rfl ((by first | exact POp.fa rfl rfl rfl rfl | exact POp.faP rfl rfl rfl rfl)) ?_
   refine UD.popV rfl rfl rfl rfl ((by first | exact POp.ldA rfl rfl rfl rfl | (apply POp.ldAH rfl rfl rfl; (case hm => repeat (first | exact .head _ | refine .tail _ ?_)); (case hy => rfl); (case hn => rfl)))) ?_
   refine UD.popV rfl rfl rfl rfl ((by first | exact POp.fa rfl rfl rfl rfl | exact POp.faP rfl rfl rfl rfl)) ?_
   refine UD.popV rfl rfl rfl rfl ((by first | exact POp.ldA rfl rfl rfl rfl | (apply POp.ldAH rfl rfl rfl; (case hm => repeat (first | exact .head _ | refine .tail _ ?_)); (case hy => rfl); (case hn => rfl)))) ?_
   refine UD.popV rfl rfl rfl rfl (POp.call (.mk' rfl rfl rfl rfl rfl) (p39 g.B)) ?_
   refine UD.popV rfl rfl rfl rfl (POp.call (.mk' rfl rfl rfl rfl rfl) (p36 g.A (notF g.B))) ?_
   refine UD.effV [] [] ⟨6, 9, 29, [.int .i64 0, .int .i64 0, .slice none 0 0, .int .i64 0, .int .i64 0, .slice none 0 0], 7, Fcells (andN g.A g.B)⟩ rfl ⟨0, 8, by kernel_rfl⟩ rfl rfl rfl rfl rfl rfl rfl ?_
   refine UD.stoV [] [] ⟨6, 9, 29, [.int .i64 0, .int .i64 0, .slice none 0 0, .int .i64 0, .int .i64 0, .slice none 0 0], 7, Fcells (andN g.A g.B)⟩ rfl ⟨0, 8, by kernel_rfl⟩ rfl rfl rfl (fun b H1 H2 hu => .store rfl rfl rfl rfl rfl rfl rfl rfl hu (by exact rfl) (by exact rfl)) ?_
   refine UD.nil (fun bs => ?_)
   simp only [List.map_cons, List.map_nil, List.cons_append, List.nil_append]
   refine DP.done rfl ?_
   refine S4 ?_; refine Ofa ?_; refine Ola ?_; refine Ola ?_
   refine OL.popC rfl rfl rfl (POp.call (.mk' rfl rfl rfl rfl rfl) (p47 g.W (andN g.A g.B))) ?_
   refine Ocm ?_; refine Omv ?_; refine Pfa ?_; refine Pfa ?_; refine Pld ?_; refine Pln ?_; refine Pcm ?_; refine Opk ?_; refine S2 ?_
   refine CW.cond rfl (fun h3 => ?_) (fun h3 => ?_)
   ·
    refine S2 ?_
    refine OL.popC rfl rfl rfl (POp.call (.mk' rfl rfl rfl rfl rfl) (p21)) ?_
    refine Oas ?_; refine S4 ?_
    refine r1 2 (H) ?_
    exact ⟨by rfl, rfl⟩
   ·
    have h3p : goodP g.W [(andN g.A g.B)] = true ∧ g.W.parents.length ≤ 20 := by
     cases hgd : goodP g.W [(andN g.A g.B)] with
     | false => rw [hgd] at h3; simp at h3
     | true => rw [hgd] at h3; refine ⟨rfl, ?_⟩; simp at h3; omega
    obtain ⟨hgd, hl⟩ := h3p
    refine S4 ?_; refine Ofa ?_; refine Ola ?_; refine Ola ?_
    refine OL.popC rfl rfl rfl (POp.call (.mk' rfl rfl rfl rfl rfl) (p61x hgd hl (imp_first hi))) ?_
    refine Omv ?_; refine Oex ?_; refine Oex ?_; refine Oex ?_; refine Oex ?_
    refine OL.alC rfl rfl rfl rfl (fun mb => ?_)
    refine Sto ?_; refine Oas ?_; refine Oas ?_; refine Oas ?_; refine S5 ?_; refine Omv ?_; refine S2 ?_
    refine CW.cond rfl (fun h4 => ?_) (fun h4 => ?_)
    ·
     refine S2 ?_; refine Omv ?_; refine Ocm ?_; refine Omv ?_
     refine OL.guardC rfl rfl rfl rfl rfl rfl (fun hg => POp.call (.mk' rfl rfl rfl rfl rfl) (p21)) ?_
     refine Opk ?_; refine Oas ?_; refine S4 ?_
     refine r1 2 (H) ?_
     exact ⟨by rfl, rfl⟩
    ·
     cases h4
structure SndOk (a b : Fact) (x : FW × Obs × List (Int × Int)) : Prop where
 ta : takesP x.1 a x.2.1 x.2.2 = true
 tb : takesP x.1 b x.2.1 x.2.2 = true
 ea : ev (VO x.1 x.2.1 x.2.2) a = true
 eb : ev (VO x.1 x.2.1 x.2.2) b = false
theorem p16f (g : Gv) (h : goodP g.W [g.A, g.B] = true) (hi : impC g.W g.A g.B = false) (hM : goodP g.W [andN g.A g.B] = true → g.W.parents.length ≤ 20 → ∀ c, firstC g.W (andN g.A g.B) = some c → SndOk g.A g.B (modelC g.W c)) : PCall Tryz.prog 16 [AV.given g] (.b true) := by
 intro H
 refine ACall.mk' (n := 134) Tryz.func16 rfl (by kernel_rfl) rfl rfl (fun B I w0 => ?_)
 have h24 := p24c h
 rw [hi] at h24
 obtain ⟨hgA, hgB⟩ : True ∧ True := ⟨trivial, trivial⟩
 refine S2 ?_; refine Obx ?_; refine Oas ?_; refine S4 ?_; refine Ofa ?_; refine Ola ?_; refine Ofa ?_; refine Ola ?_; refine Ofa ?_; refine Ola ?_
 refine OL.popC rfl rfl rfl (POp.call (.mk' rfl rfl rfl rfl rfl) (h24)) ?_
 refine Omv ?_; refine Oex ?_; refine Oex ?_; refine Oas ?_; refine Oas ?_; refine S5 ?_; refine Omv ?_; refine Ocm ?_; refine S2 ?_
 refine CW.cond rfl (fun h0 => ?_) (fun h0 => ?_)
 ·
  cases h0
 ·
  refine S5 ?_; refine Omv ?_; refine Omv ?_; refine Pla ?_
  refine OL.guardC rfl rfl rfl rfl rfl rfl (fun hg => POp.call (.mk' rfl rfl rfl rfl (by first | rfl | ((repeat (first | exact hg | rfl | refine Bool.and_eq_true_iff.2 ⟨?_, ?_⟩)); done) | simp_all [strip, constAV])) (p78 g)) ?_
  refine Opk ?_; refine S2 ?_
  refine CW.cond rfl (fun h1 => ?_) (fun h1 => ?_)
  ·
   exfalso
   simp at h1
  ·
   refine S3 ?_
   refine CW.dp mixed ?_
   refine DP.anyV [⟨6, 9, 29, [.int .i64 0, .int .i64 0, .slice none 0 0, .int .i64 0, .int .i64 0, .slice none 0 0], 7, Fcells (andN g.A g.B)⟩] 0 8 134 rfl (by decide +kernel) (by kernel_rfl) rfl rfl (by decide +kernel) ?_
   refine UD.popV rfl rfl rfl rfl ((by first | exact POp.fa rfl rfl rfl rfl | exact POp.faP rfl rfl rfl rfl)) ?_
   refine UD.popV rfl rfl rfl rfl ((by first | exact POp.ldA rfl rfl rfl rfl | (apply POp.ldAH rfl rfl rfl; (case hm => repeat (first | exact .head _ | refine .tail _ ?_)); (case hy => rfl); (case hn => rfl)))) ?_
   refine UD.popV rfl rfl rfl rfl ((by first | exact POp.fa rfl rfl rfl rfl | exact POp.faP rfl rfl rfl rfl)) ?_
   refine UD.popV rfl rfl rfl rfl ((by first | exact POp.ldA rfl rfl rfl rfl | (apply POp.ldAH rfl rfl rfl; (case hm => repeat (first | exact .head _ | refine .tail _ ?_)); (case hy => rfl); (case hn => rfl)))) ?_
   refine UD.popV rfl rfl rfl rfl (POp.call (.mk' rfl rfl rfl rfl rfl) (p39 g.B)) ?_
   refine UD.popV rfl rfl rfl rfl (POp.call (.mk' rfl rfl rfl rfl rfl) (p36 g.A (notF g.B))) ?_
   refine UD.effV [] [] ⟨6, 9, 29, [.int .i64 0, .int .i64 0, .slice none 0 0, .int .i64 0, .int .i64 0, .slice none 0 0], 7, Fcells (andN g.A g.B)⟩ rfl ⟨0, 8, by kernel_rfl⟩ rfl rfl rfl rfl rfl rfl rfl ?_
   refine UD.stoV [] [] ⟨6, 9, 29, [.int .i64 0, .int .i64 0, .slice none 0 0, .int .i64 0, .int .i64 0, .slice none 0 0], 7, Fcells (andN g.A g.B)⟩ rfl ⟨0, 8, by kernel_rfl⟩ rfl rfl rfl (fun b H1 H2 hu => .store rfl rfl rfl rfl rfl rfl rfl rfl hu (by exact rfl) (by exact rfl)) ?_
   refine UD.nil (fun bs => ?_)
   simp only [List.map_cons, List.map_nil, List.cons_append, List.nil_append]
   refine DP.done rfl ?_
   refine S4 ?_; refine Ofa ?_; refine Ola ?_; refine Ola ?_
   refine OL.popC rfl rfl rfl (POp.call (.mk' rfl rfl rfl rfl rfl) (p47 g.W (andN g.A g.B))) ?_
   refine Ocm ?_; refine Omv ?_; refine Pfa ?_; refine Pfa ?_; refine Pld ?_; refine Pln ?_; refine Pcm ?_; refine Opk ?_; refine S2 ?_
   refine CW.cond rfl (fun h2 => ?_) (fun h2 => ?_)
   ·
    refine S2 ?_
    refine OL.popC rfl rfl rfl (POp.call (.mk' rfl rfl rfl rfl rfl) (p21)) ?_
    refine Oas ?_; refine S4 ?_
    refine r1 2 (H) ?_
    exact ⟨by rfl, rfl⟩
   ·
    have h3p : goodP g.W [(andN g.A g.B)] = true ∧ g.W.parents.length ≤ 20 := by
     cases hgd : goodP g.W [(andN g.A g.B)] with
     | false => rw [hgd] at h2; simp at h2
     | true => rw [hgd] at h2; refine ⟨rfl, ?_⟩; simp at h2; omega
    obtain ⟨hgd, hl⟩ := h3p
    obtain ⟨c, hc⟩ := nimp_first hi
    obtain ⟨x, hx⟩ : ∃ x, x = modelC g.W c := ⟨_, rfl⟩
    have h61 := p61g hgd hl hc
    have hS := hM hgd hl c hc
    rw [← hx] at h61 hS
    obtain ⟨s1, s2, s3, s4⟩ := hS
    refine S4 ?_; refine Ofa ?_; refine Ola ?_; refine Ola ?_
    refine OL.popC rfl rfl rfl (POp.call (.mk' rfl rfl rfl rfl rfl) (h61)) ?_
    refine Omv ?_; refine Oex ?_; refine Oex ?_; refine Oex ?_; refine Oex ?_
    refine OL.alC rfl rfl rfl rfl (fun mb => ?_)
    refine Sto ?_; refine Oas ?_; refine Oas ?_; refine Oas ?_; refine S5 ?_; refine Omv ?_; refine S2 ?_
    refine CW.cond rfl (fun h3 => ?_) (fun h3 => ?_)
    ·
     cases h3
    ·
     refine S4 ?_; refine Ola ?_; refine Ofa ?_; refine Ola ?_; refine Omv ?_; refine Omv ?_
     refine OL.popC rfl rfl rfl (POp.call (.mk' rfl rfl rfl rfl rfl) (p68 x.1 g.A x.2.1 x.2.2)) ?_
     refine Omv ?_; refine Oex ?_; refine Oex ?_; refine Oas ?_; refine Oas ?_; refine S4 ?_; refine Ola ?_; refine Ofa ?_; refine Ola ?_; refine Omv ?_; refine Omv ?_
     refine OL.popC rfl rfl rfl (POp.call (.mk' rfl rfl rfl rfl rfl) (p68 x.1 g.B x.2.1 x.2.2)) ?_
     refine Omv ?_; refine Oex ?_; refine Oex ?_; refine Oas ?_; refine Oas ?_; refine S4 ?_; refine Omv ?_; refine Ocm ?_; refine Omv ?_; refine Pmv ?_; refine Pcm ?_; refine Opk ?_
     refine Omv ?_; refine Pmv ?_; refine Pcm ?_; refine Opk ?_; refine Omv ?_; refine Pmv ?_; refine Opk ?_; refine Omv ?_; refine Pmv ?_; refine Pnt ?_; refine Opk ?_; refine Omv ?_
     refine OL.guardC rfl rfl rfl rfl rfl rfl (fun hg => POp.call (.mk' rfl rfl rfl rfl rfl) (p21)) ?_
     refine Opk ?_; refine Oas ?_; refine S3 ?_
     refine r1 2 (H) ?_
     exact ⟨retB (by rw [code_zero, code_zero, s1, s2, s3, s4]; rfl), rfl⟩
theorem sub_len {α : Type} [BEq α] [LawfulBEq α] : ∀ (l P : List α), l.Nodup → (∀ x ∈ l, x ∈ P) → l.length ≤ P.length
 | [], P, _, _ => Nat.zero_le _
 | x :: r, P, hn, hs => by
  have hx := hs x (.head _)
  have hn' := List.nodup_cons.1 hn
  have := sub_len r (P.erase x) hn'.2 (fun y hy => (List.mem_erase_of_ne (fun e => hn'.1 (by rw [← e]; exact hy))).2 (hs y (.tail _ hy)))
  rw [List.length_erase_of_mem hx] at this
  have hp : 0 < P.length := List.length_pos_of_mem hx
  simp only [List.length_cons]; omega
def kidsK (kn : Value → Kn) (a : Int) (p : List Int) (k : Nat) : List Nat := (List.range k).filter fun i => (kn (keyS a p)).slots.contains (i : Int)
def spotsK (W : FW) (kn : Value → Kn) (a : Int) : Nat → List Int → List (Int × List Int)
 | 0, p => [(a, p)]
 | d + 1, p => (a, p) :: (kidsK kn a p W.owner.length).flatMap fun (k : Nat) => spotsK W kn a d (p ++ [(k : Int)])
theorem kids_succ (kn : Value → Kn) (a : Int) (p : List Int) (k : Nat) : kidsK kn a p (k + 1) = kidsK kn a p k ++ (if (kn (keyS a p)).slots.contains (k : Int) then [k] else []) := by
 rw [kidsK, List.range_succ, List.filter_append]
 cases h : (kn (keyS a p)).slots.contains (k : Int) with
 | true => rw [List.filter_cons_of_pos (by exact h)]; rfl
 | false => rw [List.filter_cons_of_neg (by rw [h]; simp)]; rfl
theorem slots_few {W : FW} {kn : Value → Kn} {a : Int} {rec : MSt → List Int → (Int × Int) × MSt} {set : Nat} {p : List Int} {st : MSt} {m : Nat → Nat} (hr : ∀ k : Nat, (kn (keyS a p)).slots.contains (k : Int) = true → ∀ st, Grows (m k) st (rec st (p ++ [(k : Int)])).2) :
  ∀ k, Grows (((kidsK kn a p k).map m).sum) st (slotsV W kn a rec set p st k).2
 | 0 => ⟨by simp [slotsV, kidsK], Nat.le_refl _, by simp [slotsV, kidsK]⟩
 | k + 1 => by
  obtain ⟨h1, h2, h3⟩ := slots_few (W := W) (set := set) (st := st) hr k
  rw [slotsV_succ, kids_succ, List.map_append, List.sum_append]
  generalize slotsV W kn a rec set p st k = acc at *
  by_cases hc : (kn (keyS a p)).slots.contains (k : Int) = true
  ·rw [if_pos hc]
   simp only [List.map_cons, List.map_nil, List.sum_cons, List.sum_nil]
   unfold slotV
   by_cases hb : set.testBit (W.owner.getD k default).toNat = true
   ·rw [if_pos hb, if_pos hc]
    obtain ⟨g1, g2, g3⟩ := hr k hc acc.2
    exact ⟨by show (rec acc.2 _).2.1.length ≤ _; omega, by show _ ≤ (rec acc.2 _).2.2.length; omega, by show (rec acc.2 _).2.2.length ≤ _; omega⟩
   ·rw [if_neg hb]; exact ⟨by omega, h2, by omega⟩
  ·rw [if_neg hc]
   simp only [List.map_nil, List.sum_nil]
   unfold slotV
   by_cases hb : set.testBit (W.owner.getD k default).toNat = true
   ·rw [if_pos hb, if_neg hc]
    exact ⟨by show acc.2.1.length ≤ _; omega, h2, by show acc.2.2.length ≤ _; omega⟩
   ·rw [if_neg hb]; exact ⟨by omega, h2, by omega⟩
theorem value_few {W : FW} {kn : Value → Kn} (K : KnOk W kn) (hW : W.owner.length ≤ 40) {a : Int} : ∀ (d : Nat) (p : List Int), goodSpot a p → p.length + d = 2 → ∀ st, Grows (spotsK W kn a d p).length st (valueP W kn a d st p).2 := by
 intro d
 induction d with
 | zero => intro p h hd st; exact value_grow K hW 0 p h hd st
 | succ d ih =>
  intro p h hd st
  show Grows _ st (valueS W kn a (d + 1) (valueP W kn a d) st p).2
  rw [spotsK, List.length_cons, List.length_flatMap]
  have hr : ∀ k : Nat, (kn (keyS a p)).slots.contains (k : Int) = true → ∀ st, Grows (spotsK W kn a d (p ++ [(k : Int)])).length st (valueP W kn a d st (p ++ [(k : Int)])).2 := fun k hk st =>
   ih (p ++ [(k : Int)]) (kn_next K hW h (List.contains_iff_mem.1 hk)).2 (by simp; omega) st
  unfold valueS
  split
  ·exact ⟨by show st.1.length ≤ _; omega, Nat.le_refl _, by show st.2.length ≤ _; omega⟩
  ·split
   ·exact ⟨by show st.1.length ≤ _; omega, Nat.le_refl _, by show st.2.length ≤ _; omega⟩
   ·generalize (objectK W kn (childCan W kn a (d + 1)) a p).1 = set
    obtain ⟨h1, h2, h3⟩ := slots_few (W := W) (set := set) (st := ((classP W st.1 set).2, st.2 ++ [((classP W st.1 set).1, [])])) (m := fun k => (spotsK W kn a d (p ++ [(k : Int)])).length) hr W.owner.length
    have hc := class_len W st.1 set
    simp only [List.length_append, List.length_singleton] at h1 h2 h3
    refine ⟨?_, ?_, ?_⟩
    ·show (slotsV W kn a (valueP W kn a d) set p _ _).2.1.length ≤ _; omega
    ·show _ ≤ (List.set _ _ _).length; rw [List.length_set]; omega
    ·show (List.set _ _ _).length ≤ _; rw [List.length_set]; omega
theorem spots_in {W : FW} {kn : Value → Kn} {a : Int} : ∀ (d : Nat) (p : List Int), ∀ x ∈ spotsK W kn a d p, x.1 = a ∧ p <+: x.2 := by
 intro d
 induction d with
 | zero => intro p x hx; rw [spotsK, List.mem_singleton] at hx; subst hx; exact ⟨rfl, List.prefix_refl _⟩
 | succ d ih =>
  intro p x hx
  rw [spotsK] at hx
  rcases List.mem_cons.1 hx with rfl | hx
  ·exact ⟨rfl, List.prefix_refl _⟩
  ·obtain ⟨k, _, hx⟩ := List.mem_flatMap.1 hx
   obtain ⟨h1, h2⟩ := ih _ x hx
   exact ⟨h1, (List.prefix_append p _).trans h2⟩
theorem kids_nodup (kn : Value → Kn) (a : Int) (p : List Int) (k : Nat) : (kidsK kn a p k).Nodup := List.nodup_range.filter _
theorem prefix_last {p q : List Int} {i j : Int} (h1 : p ++ [i] <+: q) (h2 : p ++ [j] <+: q) : i = j := by
 obtain ⟨r, hr⟩ := h1
 obtain ⟨s, hs⟩ := h2
 rw [List.append_assoc] at hr hs
 rw [← hs] at hr
 have := List.append_cancel_left hr
 simp at this; exact this.1
theorem nodup_fm {α β : Type} {f : α → List β} : ∀ {l : List α}, (∀ x ∈ l, (f x).Nodup) → l.Pairwise (fun x y => ∀ z ∈ f x, ∀ w ∈ f y, z ≠ w) → (l.flatMap f).Nodup
 | [], _, _ => .nil
 | x :: r, h, hp => by
  obtain ⟨h1, h2⟩ := List.pairwise_cons.1 hp
  rw [List.flatMap_cons, List.nodup_append]
  exact ⟨h x (.head _), nodup_fm (fun y hy => h y (.tail _ hy)) h2, fun z hz w hw => by
   obtain ⟨y, hy, hw⟩ := List.mem_flatMap.1 hw
   exact h1 y hy z hz w hw⟩
theorem spots_nodup {W : FW} {kn : Value → Kn} {a : Int} : ∀ (d : Nat) (p : List Int), (spotsK W kn a d p).Nodup := by
 intro d
 induction d with
 | zero => intro p; rw [spotsK]; simp
 | succ d ih =>
  intro p
  rw [spotsK, List.nodup_cons]
  refine ⟨fun hx => ?_, ?_⟩
  ·obtain ⟨k, _, hx⟩ := List.mem_flatMap.1 hx
   have := (spots_in d _ _ hx).2.length_le
   simp at this
   omega
  ·refine nodup_fm (fun k _ => ih _) ((kids_nodup kn a p _).imp ?_)
   intro i j hij x hx y hy e
   subst e
   have := prefix_last (spots_in d _ _ hx).2 (spots_in d _ _ hy).2
   omega
end Go.Proofs.YtiljpbljebfhnaaGreat
