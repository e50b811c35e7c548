/- Part 13 of the proof: contracts of functions of the program and what they need. No condition beyond those that each theorem names. -/
import Derived.Test.YtpgnjlngepfanaaGreatDmP12
set_option linter.unusedVariables false
set_option linter.unusedSimpArgs false
set_option maxRecDepth 10000
namespace Go.Proofs.YtpgnjlngepfanaaGreat
open Go.Eng
open Go.Eng.Fc
open Go.Eng.Bd
open Go.Eng.Im (U8 u8 u8s sumR numberR manyR numR_lt)
open Go.Eng.Im (U8 u8 u8s sumR numberR manyR numR_lt splitR Sec)
theorem intS {σ : Type} {s s' : σ} {l l' : List U8} {n : Int} (h : intR s l = some (n, s', l')) (rb : Nat) (Hx : List Ent) : RCall Tryz.prog 137 [.p rb 0] (rdr rb l :: Hx) (some (.i n, rdr rb l' :: Hx)) Hx wrongA := by
 have h1 := intC s l rb Hx
 rwa [h] at h1
theorem intN {σ : Type} {s : σ} {l : List U8} (h : intR s l = none) (rb : Nat) (Hx : List Ent) : RCall Tryz.prog 137 [.p rb 0] (rdr rb l :: Hx) none Hx wrongA := by
 have h1 := intC s l rb Hx
 rwa [h] at h1
def Still {σ α : Type} (R : Rd σ α) : Prop := ∀ s l y s' l', R s l = some (y, s', l') → s' = s
theorem Still.num {σ : Type} : Still (numR (σ := σ)) := fun s l y s' l' h => by
 unfold numR at h
 split at h
 ·cases h
 ·cases h; rfl
theorem Still.then {σ α β : Type} {R : Rd σ α} {k : α → Rd σ β} (h1 : Still R) (h2 : ∀ a, Still (k a)) : Still (thenR R k) := fun s l y s' l' h => by
 unfold thenR at h
 split at h
 ·cases h
 ·rename_i a s1 l1 h3
  rw [h2 a _ _ _ _ _ h, h1 _ _ _ _ _ h3]
theorem Still.done {σ α : Type} (a : α) : Still (doneR (σ := σ) a) := fun s l y s' l' h => by cases h; rfl
theorem Still.need {σ α : Type} {b : Bool} {R : Rd σ α} (h1 : Still R) : Still (needR b R) := fun s l y s' l' h => by
 unfold needR at h
 split at h
 ·exact h1 _ _ _ _ _ h
 ·cases h
theorem Still.int {σ : Type} : Still (intR (σ := σ)) := .then .num fun _ => .done _
theorem Still.times {σ α : Type} {R : Rd σ α} (h1 : Still R) : ∀ n, Still (timesR R n)
 | 0, s, l, y, s', l', h => by cases h; rfl
 | n + 1, s, l, y, s', l', h => by
  rw [timesR] at h
  split at h
  ·cases h
  ·rename_i a s1 l1 h2
   split at h
   ·cases h
   ·rename_i b s2 l2 h3
    cases h
    rw [Still.times h1 n _ _ _ _ _ h3, h1 _ _ _ _ _ h2]
theorem Still.many {σ : Type} : Still (manyRd (σ := σ)) := fun s l y s' l' h => by
 unfold manyRd at h
 split at h
 ·cases h
 ·cases h; rfl
theorem Still.list {σ α : Type} {R : Rd σ α} (h1 : Still R) : Still (listR R) := .then .many fun n => h1.times n
theorem Still.init {σ : Type} : Still (initR (σ := σ)) := .then .num fun _ => .then .int fun _ => .done _
theorem Still.val {σ : Type} : Still (valR (σ := σ)) := .then .num fun k => by
 split
 ·exact .then .int fun _ => .done _
 ·split
  ·exact .then .num fun _ => .done _
  ·exact .need (.done _)
abbrev noS {σ : Type} : σ → List Ent := fun _ => []
abbrev noI {σ : Type} : σ → List U8 → Prop := fun _ _ => True
theorem numOk {σ : Type} (rb : Nat) : RdOk Tryz.prog rb (noS (σ := σ)) (.fn (.func 134) [.p rb 0] []) numR (fun n => .i n) noI := .of (fun _ _ _ _ _ _ _ => trivial) fun s l Hx _ => numC s l rb Hx
theorem valueR {σ : Type} (s : σ) (l : List U8) (rb : Nat) (Hx : List Ent) : RCall Tryz.prog 91 [.p rb 0] (rdr rb l :: Hx) ((valR s l).map fun p => (AV.mv p.1, rdr rb p.2.2 :: Hx)) Hx wrongA := by
 refine ACall.mk' (n := 24) Tryz.func91 rfl (by kernel_rfl) rfl rfl (fun B I w0 => ?_)
 refine S2 ?_
 refine OL.alC rfl rfl rfl rfl (fun b2 => ?_)
 refine S3 ?_
 refine CW.perm (List.Perm.swap _ _ _) ?_
 refine S1 ?_; refine Omv ?_
 rcases hq : numberR l with _ | ⟨n, r⟩
 ·
  refine OL.rcallN rfl rfl (.mk' rfl rfl rfl rfl rfl) (q134n hq _ _) wrong_c ?_
  exact outP (P := Tryz.prog) (fn := Tryz.f91) wrong_c (.cons _ (.refl _)) ⟨by rw [valR, thenR_none (numR_none hq)]; rfl, rfl, rfl⟩
 ·
  have hv := thenR_some (k := fun k => if k = 1 then thenR intR fun n => doneR (k, n) else if k = 3 then thenR numR fun n => doneR (k, n) else needR (k == 2) (doneR (k, 0))) (numR_some (s := s) hq)
  replace hv : valR s l = _ := hv
  refine OL.rcallS rfl rfl rfl (.mk' rfl rfl rfl rfl rfl) (q134s hq _ _) ?_
  refine Obd ?_
  refine OL.alC rfl rfl rfl rfl (fun b3 => ?_)
  refine Sto ?_; refine S2 ?_
  refine CW.cutJ (fun st => ∃ (x : Int × Int) (r' : List U8), st = ⟨[(3, .p b3 0), (2, .p b2 0)], rdr rb r' :: .blk b3 60 (initA x) :: .blk b2 60 [.val (.int .i64 0), .val (.int .i64 0)] :: Hx⟩ ∧ valR s l = some (x, s, r')) ?_ ?_
  ·
   refine S1 ?_
   refine CW.perm (List.Perm.swap _ _ _) ?_
   refine S1 ?_; refine Ofa ?_; refine Old ?_; refine S5 ?_; refine Ocm ?_; refine Oas ?_; refine S2 ?_
   refine CW.cond rfl (fun h0 => ?_) (fun h0 => ?_)
   ·
    replace h0 := nm h0
    rw [if_pos h0] at hv
    refine S1 ?_; refine Omv ?_
    rcases hi : intR s r with _ | ⟨z, s1, r1⟩
    ·
     refine OL.rcallN rfl rfl (.mk' rfl rfl rfl rfl rfl) (intN hi _ _) wrong_c ?_
     exact outP (P := Tryz.prog) (fn := Tryz.f91) wrong_c (.cons _ (.cons _ (.refl _))) ⟨by rw [hv, thenR_none hi]; rfl, rfl, rfl⟩
    ·
     obtain rfl := Still.int _ _ _ _ _ hi
     refine OL.rcallS rfl rfl rfl (.mk' rfl rfl rfl rfl rfl) (intS hi _ _) ?_
     refine Ofa ?_; refine Sto ?_; refine S2 ?_
     exact Done.cutJ ⟨(n, z), r1, rfl, by rw [hv, thenR_some hi]; rfl⟩ (by repeat (first | exact trivial | refine ⟨rfl, ?_⟩)) (by repeat (first | exact List.Sublist.refl _ | refine List.Sublist.cons _ ?_))
   ·
    replace h0 := nm h0
    refine S2 ?_; refine Ocm ?_; refine Oas ?_; refine S2 ?_
    refine CW.cond rfl (fun h1 => ?_) (fun h1 => ?_)
    ·
     replace h1 := nm h1
     rw [if_neg h0, if_pos h1] at hv
     refine S1 ?_; refine Omv ?_
     rcases hi : numberR r with _ | ⟨z, r1⟩
     ·
      refine OL.rcallN rfl rfl (.mk' rfl rfl rfl rfl rfl) (q134n hi _ _) wrong_c ?_
      exact outP (P := Tryz.prog) (fn := Tryz.f91) wrong_c (.cons _ (.cons _ (.refl _))) ⟨by rw [hv, thenR_none (numR_none hi)]; rfl, rfl, rfl⟩
     ·
      refine OL.rcallS rfl rfl rfl (.mk' rfl rfl rfl rfl rfl) (q134s hi _ _) ?_
      refine Ofa ?_; refine Sto ?_; refine S2 ?_
      exact Done.cutJ ⟨(n, z), r1, rfl, by rw [hv, thenR_some (numR_some hi)]; rfl⟩ (by repeat (first | exact trivial | refine ⟨rfl, ?_⟩)) (by repeat (first | exact List.Sublist.refl _ | refine List.Sublist.cons _ ?_))
    ·
     replace h1 := nm h1
     rw [if_neg h0, if_neg h1] at hv
     refine S1 ?_; refine Ofa ?_; refine Old ?_; refine Ocm ?_
     by_cases h2 : (n : Int) = 2
     ·
      refine OL.rcallS rfl rfl rfl (.mk' rfl rfl rfl rfl rfl) (q71t (by rw [h2]; rfl) _) ?_
      refine S2 ?_
      exact Done.cutJ ⟨(n, 0), r, rfl, by rw [hv, needR_yes (by simpa using h2)]; rfl⟩ (by repeat (first | exact trivial | refine ⟨rfl, ?_⟩)) (by repeat (first | exact List.Sublist.refl _ | refine List.Sublist.cons _ ?_))
     ·
      refine OL.rcallN rfl rfl (.mk' rfl rfl rfl rfl rfl) (q71f (by simpa using h2) _) wrong_c ?_
      exact outP (P := Tryz.prog) (fn := Tryz.f91) wrong_c (.cons _ (.cons _ (.cons _ (.refl _)))) ⟨by rw [hv, needR_no (by simpa using h2)]; rfl, rfl, rfl⟩
  ·
   rintro _ ⟨x, r', rfl, hx⟩
   refine S2 ?_; refine Ola ?_; refine Sto ?_; refine S3 ?_
   refine Done.retR (rs := [.cell 2 60]) (H' := rdr rb r' :: Hx) rfl ((by first | exact .cellA inferInstance rfl (by repeat (first | exact .head _ | refine .tail _ ?_)) rfl rfl (.nil) | exact .ptrA inferInstance rfl rfl (.nil))) (AVleL.refl _) (by exact .cons_cons _ (.cons _ (.cons _ (.refl _)))) ?_
   exact by rw [hx]; rfl
def Less {σ α : Type} (R : Rd σ α) : Prop := ∀ s l y s' l', R s l = some (y, s', l') → l'.length ≤ l.length
theorem num_less {l : List U8} {n : Nat} {r : List U8} (h : numberR l = some (n, r)) : r.length < l.length := Im.numR_len h
theorem Less.num {σ : Type} : Less (numR (σ := σ)) := fun s l y s' l' h => by
 unfold numR at h
 split at h
 ·cases h
 ·rename_i h1; cases h; have := num_less h1; omega
theorem Less.then {σ α β : Type} {R : Rd σ α} {k : α → Rd σ β} (h1 : Less R) (h2 : ∀ a, Less (k a)) : Less (thenR R k) := fun s l y s' l' h => by
 unfold thenR at h
 split at h
 ·cases h
 ·rename_i a s1 l1 h3
  have := h2 a _ _ _ _ _ h
  have := h1 _ _ _ _ _ h3
  omega
theorem Less.done {σ α : Type} (a : α) : Less (doneR (σ := σ) a) := fun s l y s' l' h => by cases h; exact Nat.le_refl _
theorem Less.need {σ α : Type} {b : Bool} {R : Rd σ α} (h1 : Less R) : Less (needR b R) := fun s l y s' l' h => by
 unfold needR at h
 split at h
 ·exact h1 _ _ _ _ _ h
 ·cases h
theorem Less.int {σ : Type} : Less (intR (σ := σ)) := .then .num fun _ => .done _
theorem Less.times {σ α : Type} {R : Rd σ α} (h1 : Less R) : ∀ n, Less (timesR R n)
 | 0, s, l, y, s', l', h => by cases h; exact Nat.le_refl _
 | n + 1, s, l, y, s', l', h => by
  rw [timesR] at h
  split at h
  ·cases h
  ·rename_i a s1 l1 h2
   split at h
   ·cases h
   ·rename_i b s2 l2 h3
    cases h
    have := Less.times h1 n _ _ _ _ _ h3
    have := h1 _ _ _ _ _ h2
    omega
theorem many_less {l : List U8} {n : Nat} {r : List U8} (h : manyR l = some (n, r)) : r.length < l.length := by
 unfold manyR at h
 rcases hq : numberR l with _ | ⟨a, b⟩ <;> rw [hq] at h
 ·cases h
 ·simp only at h
  split at h
  ·cases h; exact num_less hq
  ·cases h
theorem Less.many {σ : Type} : Less (manyRd (σ := σ)) := fun s l y s' l' h => by
 unfold manyRd at h
 split at h
 ·cases h
 ·rename_i h1; cases h; have := many_less h1; omega
theorem Less.list {σ α : Type} {R : Rd σ α} (h1 : Less R) : Less (listR R) := .then .many fun n => h1.times n
theorem Less.init {σ : Type} : Less (initR (σ := σ)) := .then .num fun _ => .then .int fun _ => .done _
def clsI (s : Int) (l : List U8) : Prop := 0 ≤ s ∧ s + 4 * (l.length : Int) ≤ 1000000000000
theorem cls_keep {s : Int} {l : List U8} {y : Cls} {s' : Int} {l' : List U8} (hI : clsI s l) (h : clsR s l = some (y, s', l')) : clsI s' l' := by
 unfold clsR thenR at h
 split at h
 ·cases h
 ·rename_i ps s1 l1 h1
  obtain rfl := Still.list Still.num _ _ _ _ _ h1
  have h2 := Less.list Less.num _ _ _ _ _ h1
  dsimp only at h
  split at h
  ·cases h
  ·rename_i n s2 l2 h3
   unfold numR at h3
   split at h3
   ·cases h3
   ·rename_i k l3 h4
    cases h3
    have h5 := num_less h4
    unfold needR at h
    split at h
    ·rename_i h6
     rw [decide_eq_true_eq] at h6
     dsimp only at h
     split at h
     ·cases h
     ·rename_i is s4 l4 h7
      obtain rfl := Still.list Still.init _ _ _ _ _ h7
      have h8 := Less.list Less.init _ _ _ _ _ h7
      cases h
      unfold clsI at hI ⊢
      omega
    ·cases h
theorem slots_snoc (s : Int) (i : Nat) : slotsFrom s (i + 1) = slotsFrom s i ++ [s + i] := by simp [slotsFrom, List.range_succ]
theorem slots_len (s : Int) (i : Nat) : (slotsFrom s i).length = i := by simp [slotsFrom]
theorem initC {σ : Type} (s : σ) (l : List U8) (rb : Nat) (Hx : List Ent) : RCall Tryz.prog 136 [.ptr [.p rb 0]] (rdr rb l :: Hx) ((initR s l).map fun p => (.agg (initA p.1), rdr rb p.2.2 :: Hx)) Hx wrongA := by
 refine ACall.mk' (n := 9) Tryz.func136 rfl (by kernel_rfl) rfl rfl (fun B I w0 => ?_)
 refine S2 ?_
 refine OL.alC rfl rfl rfl rfl (fun b1 => ?_)
 refine S3 ?_
 refine CW.perm (List.Perm.swap _ _ _) ?_
 refine S1 ?_; refine Old ?_
 rcases hq : numberR l with _ | ⟨n, r⟩
 ·
  refine OL.rcallN rfl rfl (.mk' rfl rfl rfl rfl rfl) (q134n hq _ _) wrong_c ?_
  exact outP (P := Tryz.prog) (fn := Tryz.f136) wrong_c (.cons _ (.refl _)) ⟨by rw [initR, thenR_none (numR_none hq)]; rfl, rfl, rfl⟩
 ·
  have hv : initR s l = _ := thenR_some (numR_some hq)
  refine OL.rcallS rfl rfl rfl (.mk' rfl rfl rfl rfl rfl) (q134s hq _ _) ?_
  refine Oas ?_; refine S4 ?_; refine Omv ?_; refine Old ?_
  rcases hi : intR s r with _ | ⟨z, s1, r1⟩
  ·
   refine OL.rcallN rfl rfl (.mk' rfl rfl rfl rfl rfl) (intN hi _ _) wrong_c ?_
   exact outP (P := Tryz.prog) (fn := Tryz.f136) wrong_c (.cons _ (.refl _)) ⟨by rw [hv, thenR_none hi]; rfl, rfl, rfl⟩
  ·
   obtain rfl := Still.int _ _ _ _ _ hi
   rw [thenR_some hi] at hv
   refine OL.rcallS rfl rfl rfl (.mk' rfl rfl rfl rfl rfl) (intS hi _ _) ?_
   refine Obd ?_; refine Sto ?_; refine S3 ?_
   refine Done.retR (rs := [.cell 1 143]) (H' := rdr rb r1 :: Hx) rfl ((by first | exact .cellA inferInstance rfl (by repeat (first | exact .head _ | refine .tail _ ?_)) rfl rfl (.nil) | exact .ptrA inferInstance rfl rfl (.nil))) (AVleL.refl _) (by exact .cons_cons _ (.cons _ (.refl _))) ?_
   exact by rw [hv]; rfl
theorem initOk {σ : Type} (rb : Nat) : RdOk Tryz.prog rb (noS (σ := σ)) (.fn (.func 136) [] [.ptr [.p rb 0]]) initR (fun x => .agg (initA x)) noI := .of (fun _ _ _ _ _ _ _ => trivial) fun s l Hx _ => initC s l rb Hx
abbrev nilA : AV := .val (.slice none 0 0)
abbrev pzE (pb : Nat) (s : Int) : Ent := .blk pb 27 [nilA, .i s, nilA, nilA, nilA, .val (.int .i64 0)]
theorem listI_n {σ : Type} {s : σ} {l : List U8} (h : listR numR s l = none) (rb : Nat) (Hx : List Ent) : RCall Tryz.prog 133 [.p rb 0, .fn (.func 134) [.p rb 0] []] (rdr rb l :: Hx) none Hx wrongA := by
 have h1 := listI (numOk (σ := σ) rb) s l (fun _ _ _ => trivial) Hx
 rwa [h] at h1
theorem listI_s {σ : Type} {s s' : σ} {l l' : List U8} {ps : List Int} (h : listR numR s l = some (ps, s', l')) (rb : Nat) (Hx : List Ent) : RCall Tryz.prog 133 [.p rb 0, .fn (.func 134) [.p rb 0] []] (rdr rb l :: Hx) (some (AV.ints ps, rdr rb l' :: Hx)) Hx wrongA := by
 have h1 := listI (numOk (σ := σ) rb) s l (fun _ _ _ => trivial) Hx
 rwa [h] at h1
theorem clsC {s : Int} {l : List U8} (hI : clsI s l) (rb pb : Nat) (Hx : List Ent) : RCall Tryz.prog 132 [.ptr [.p rb 0], .p pb 0] (rdr rb l :: pzE pb s :: Hx) ((clsR s l).map fun p => (.agg (clsA p.1), rdr rb p.2.2 :: pzE pb p.2.1 :: Hx)) Hx wrongA := by
 refine ACall.mk' (n := 35) Tryz.func132 rfl (by kernel_rfl) rfl rfl (fun B I w0 => ?_)
 refine S2 ?_
 refine OL.alC rfl rfl rfl rfl (fun b2 => ?_)
 refine S3 ?_
 refine CW.perm (List.Perm.swap _ _ _) ?_
 refine S1 ?_; refine Old ?_; refine Old ?_; refine Omf ?_
 rcases hq : listR numR s l with _ | ⟨ps, s1, l1⟩
 ·
  refine OL.rcallN rfl rfl (.mk' rfl rfl rfl rfl rfl) (listI_n hq rb _) wrong_c ?_
  exact outP (P := Tryz.prog) (fn := Tryz.f132) wrong_c (.cons _ (.cons _ (.refl _))) ⟨by rw [clsR, thenR_none hq]; rfl, rfl, rfl⟩
 ·
  have hv : clsR s l = _ := thenR_some hq
  obtain rfl := Still.list Still.num _ _ _ _ _ hq
  refine OL.rcallS rfl rfl rfl (.mk' rfl rfl rfl rfl rfl) (listI_s hq rb _) ?_
  refine Obd ?_
  refine OL.alC rfl rfl rfl rfl (fun b3 => ?_)
  refine Sto ?_; refine S3 ?_
  refine CW.perm (List.Perm.swap _ _ _) ?_
  refine S1 ?_; refine Old ?_
  rcases hn : numberR l1 with _ | ⟨n, r⟩
  ·
   refine OL.rcallN rfl rfl (.mk' rfl rfl rfl rfl rfl) (q134n hn _ _) wrong_c ?_
   exact outP (P := Tryz.prog) (fn := Tryz.f132) wrong_c (.cons _ (.cons _ (.cons _ (.refl _)))) ⟨by rw [hv, thenR_none (numR_none hn)]; rfl, rfl, rfl⟩
  ·
   rw [thenR_some (numR_some hn)] at hv
   refine OL.rcallS rfl rfl rfl (.mk' rfl rfl rfl rfl rfl) (q134s hn _ _) ?_
   refine Oas ?_; refine S4 ?_; refine Omv ?_; refine Ocm ?_
   by_cases h4 : (n : Int) ≤ 4
   ·
    rw [needR_yes (by simpa using h4)] at hv
    refine OL.rcallS rfl rfl rfl (.mk' rfl rfl rfl rfl rfl) (q71t (by simpa using h4) _) ?_
    refine S5 ?_; refine Omv ?_; refine Omv ?_; refine S3 ?_
    unfold clsI at hI
    refine CW.ownNilB (b := b3) (t := 79) 3 1 1 (by repeat (first | exact Upd.head _ _ _ | apply Upd.tail)) rfl rfl ?_
    refine lj (fun m st => ∃ (i : Nat) (v : Value), st = ⟨[(16, .i i), (15, .i n), (3, .p b3 0), (2, .p b2 0), (0, .ptr [.p rb 0]), (1, .p pb 0)], .own 3 1 v :: rdr rb r :: .blk b3 79 [AV.ints ps, .as (AV.ints (slotsFrom s1 i)) v, nilA] :: .blk b2 79 [nilA, nilA, nilA] :: pzE pb (s1 + i) :: Hx⟩ ∧ m = n - i ∧ i ≤ n) (⟨0, _, by rw [show s1 + ((0 : Nat) : Int) = s1 by omega], rfl, by omega⟩) ?_
    rintro m _ ⟨i, v, rfl, rfl, hi⟩
    refine S2 ?_; refine Ocm ?_; refine S3 ?_
    refine CW.cond rfl (fun h0 => ?_) (fun h0 => ?_)
    ·
     replace h0 := nm h0
     have hil : i < n := by omega
     have hsl := slots_len s1 i
     refine S6 ?_; refine Ofa ?_; refine Old ?_; refine Ofa ?_; refine Old ?_
     refine OL.popC (x := .sl 1 [[.i (s1 + i)]]) rfl rfl rfl (POp.row rfl rfl (by first | rfl | simp_all [strip]) rfl rfl rfl rfl rfl rfl) ?_
     refine OL.appendC rfl rfl rfl rfl rfl rfl rfl rfl (AVle.refl _) (rfl) (fun v => by repeat (first | exact Upd.head _ _ _ | apply Upd.tail)) (by simp only [List.length_map, hsl, List.length_singleton]; omega) (by simp only [List.length_map, hsl, List.length_singleton]; omega) (fun v23 => ?_)
     refine Ofa ?_; refine Sto ?_; refine S3 ?_; refine Ofa ?_; refine Old ?_; refine Oar ?_; refine Ofa ?_; refine Sto ?_; refine S4 ?_; refine Oar ?_; refine Omv ?_; refine S1 ?_
     exact ag (⟨i + 1, v23, by rw [slots_snoc, ints_snoc, show s1 + ((i + 1 : Nat) : Int) = s1 + i + 1 by omega], rfl, hil⟩)
    ·
     replace h0 := nm h0
     obtain rfl : n = i := by omega
     refine S6 ?_
     refine CW.perm (List.Perm.swap _ _ _) ?_
     refine S1 ?_; refine Old ?_; refine Omf ?_
     rcases hz : listR initR (s1 + (n : Int)) r with _ | ⟨is, s2, r2⟩
     ·
      refine OL.rcallN rfl rfl (.mk' rfl rfl rfl rfl rfl) (by have h := listN (initOk (σ := Int) rb) (s1 + (n : Int)) r (fun _ _ _ => trivial) (.own 3 1 v :: .blk b3 79 [AV.ints ps, .as (AV.ints (slotsFrom s1 n)) v, nilA] :: .blk b2 79 [nilA, nilA, nilA] :: pzE pb (s1 + n) :: Hx); rwa [hz] at h) wrong_c ?_
      exact outP (P := Tryz.prog) (fn := Tryz.f132) wrong_c (.cons _ (.cons _ (.cons _ (.cons _ (.refl _))))) ⟨by rw [hv, thenR_none hz]; rfl, rfl, rfl⟩
     ·
      rw [thenR_some hz] at hv
      obtain rfl := Still.list Still.init _ _ _ _ _ hz
      refine OL.rcallS rfl rfl rfl (.mk' rfl rfl rfl rfl rfl) (by have h := listN (initOk (σ := Int) rb) (s1 + (n : Int)) r (fun _ _ _ => trivial) (.own 3 1 v :: .blk b3 79 [AV.ints ps, .as (AV.ints (slotsFrom s1 n)) v, nilA] :: .blk b2 79 [nilA, nilA, nilA] :: pzE pb (s1 + n) :: Hx); rwa [hz] at h) ?_
      refine Ofa ?_; refine Sto ?_; refine S4 ?_; refine Ola ?_; refine Sto ?_; refine S3 ?_
      refine Done.retR (rs := [.cell 2 79]) (H' := rdr rb r2 :: pzE pb (s1 + n) :: Hx) rfl ((by first | exact .cellA inferInstance rfl (by repeat (first | exact .head _ | refine .tail _ ?_)) rfl rfl (.nil) | exact .ptrA inferInstance rfl rfl (.nil))) (.cons (AVle.agg (.cons (.refl _) (.cons (AVle.asL _ _) (.cons (.refl _) .nil)))) .nil) (by exact .cons_cons _ (.cons _ (.cons _ (.cons _ (.refl _))))) ?_
      exact by rw [hv]; rfl
   ·
    refine OL.rcallN rfl rfl (.mk' rfl rfl rfl rfl rfl) (q71f (by simpa using h4) _) wrong_c ?_
    exact outP (P := Tryz.prog) (fn := Tryz.f132) wrong_c (.cons _ (.cons _ (.cons _ (.cons _ (.refl _))))) ⟨by rw [hv, needR_no (by simpa using h4)]; rfl, rfl, rfl⟩
theorem clsOkR (rb pb : Nat) : RdOk Tryz.prog rb (fun s => [pzE pb s]) (.fn (.func 132) [] [.ptr [.p rb 0], .p pb 0]) clsR (fun x => .agg (clsA x)) clsI := .of (fun _ _ _ _ _ hI h => cls_keep hI h) fun s l Hx hI => clsC hI rb pb Hx
theorem kidsC (A Sv Bv Cv Dv K : AV) (gens : List Int) (op n : Int) (hn : op = 5 → 0 ≤ n) (Hx : List Ent) : RCall Tryz.prog 143 [.agg [A, Sv, AV.ints gens, Bv, Cv, Dv], (.agg [.i op, .i n, K])] Hx ((kidsN gens op n).map fun k => (.i k, Hx)) Hx wrongA := by
 refine ACall.mk' (n := 43) Tryz.func143 rfl (by kernel_rfl) rfl rfl (fun B I w0 => ?_)
 refine S2 ?_; refine Obx ?_; refine Obx ?_; refine Oas ?_; refine S5 ?_; refine Ofa ?_; refine Old ?_; refine S3 ?_
 refine CW.cutJ (fun st => ∃ b : Bool, st = ⟨[(7, .b b), (6, .i op), (3, .ptr [.i op, .i n, K]), (2, .ptr [A, Sv, AV.ints gens, Bv, Cv, Dv])], Hx⟩ ∧ b = decide (op = 1 ∨ op = 2 ∨ op = 3 ∨ op = 6 ∨ op = 18)) ?_ ?_
 ·
  refine S2 ?_; refine Ocm ?_; refine Oas ?_; refine S2 ?_
  refine CW.cond rfl (fun h0 => ?_) (fun h0 => ?_)
  ·
   replace h0 := nm h0
   refine S1 ?_
   exact Done.cutJ ⟨(op == 1), rfl, by simp [h0]⟩ (by repeat (first | exact trivial | refine ⟨rfl, ?_⟩)) (by repeat (first | exact List.Sublist.refl _ | refine List.Sublist.cons _ ?_))
  ·
   replace h0 := nm h0
   refine S2 ?_; refine Ocm ?_; refine Oas ?_; refine S2 ?_
   refine CW.cond rfl (fun h1 => ?_) (fun h1 => ?_)
   ·
    replace h1 := nm h1
    refine S1 ?_
    exact Done.cutJ ⟨(op == 2), rfl, by simp [h1]⟩ (by repeat (first | exact trivial | refine ⟨rfl, ?_⟩)) (by repeat (first | exact List.Sublist.refl _ | refine List.Sublist.cons _ ?_))
   ·
    replace h1 := nm h1
    refine S2 ?_; refine Ocm ?_; refine Oas ?_; refine S2 ?_
    refine CW.cond rfl (fun h2 => ?_) (fun h2 => ?_)
    ·
     replace h2 := nm h2
     refine S1 ?_
     exact Done.cutJ ⟨(op == 3), rfl, by simp [h2]⟩ (by repeat (first | exact trivial | refine ⟨rfl, ?_⟩)) (by repeat (first | exact List.Sublist.refl _ | refine List.Sublist.cons _ ?_))
    ·
     replace h2 := nm h2
     refine S2 ?_; refine Ocm ?_; refine Oas ?_; refine S2 ?_
     refine CW.cond rfl (fun h3 => ?_) (fun h3 => ?_)
     ·
      replace h3 := nm h3
      refine S1 ?_
      exact Done.cutJ ⟨(op == 6), rfl, by simp [h3]⟩ (by repeat (first | exact trivial | refine ⟨rfl, ?_⟩)) (by repeat (first | exact List.Sublist.refl _ | refine List.Sublist.cons _ ?_))
     ·
      replace h3 := nm h3
      refine S1 ?_; refine Ocm ?_; refine Oas ?_; refine S1 ?_
      exact Done.cutJ ⟨(op == 18), rfl, by have e : (op == 18) = decide (op = 18) := rfl; rw [e, decide_eq_decide]; omega⟩ (by repeat (first | exact trivial | refine ⟨rfl, ?_⟩)) (by repeat (first | exact List.Sublist.refl _ | refine List.Sublist.cons _ ?_))
 ·
  rintro _ ⟨b, rfl, hb⟩
  refine CW.cond rfl (fun h4 => ?_) (fun h4 => ?_)
  ·
   rw [hb, decide_eq_true_eq] at h4
   refine S2 ?_; refine Oas ?_; refine S5 ?_
   refine r1 4 (Hx) ?_
   exact by rw [kidsN, if_pos h4]; rfl
  ·
   rw [hb, decide_eq_false_iff_not] at h4
   refine CW.cutJ (fun st => ∃ b : Bool, st = ⟨[(13, .b b), (6, .i op), (3, .ptr [.i op, .i n, K]), (2, .ptr [A, Sv, AV.ints gens, Bv, Cv, Dv])], Hx⟩ ∧ b = decide (op = 4 ∨ op = 8 ∨ op = 17)) ?_ ?_
   ·
    refine S2 ?_; refine Ocm ?_; refine Oas ?_; refine S2 ?_
    refine CW.cond rfl (fun h5 => ?_) (fun h5 => ?_)
    ·
     replace h5 := nm h5
     refine S1 ?_
     exact Done.cutJ ⟨(op == 4), rfl, by simp [h5]⟩ (by repeat (first | exact trivial | refine ⟨rfl, ?_⟩)) (by repeat (first | exact List.Sublist.refl _ | refine List.Sublist.cons _ ?_))
    ·
     replace h5 := nm h5
     refine S2 ?_; refine Ocm ?_; refine Oas ?_; refine S2 ?_
     refine CW.cond rfl (fun h6 => ?_) (fun h6 => ?_)
     ·
      replace h6 := nm h6
      refine S1 ?_
      exact Done.cutJ ⟨(op == 8), rfl, by simp [h6]⟩ (by repeat (first | exact trivial | refine ⟨rfl, ?_⟩)) (by repeat (first | exact List.Sublist.refl _ | refine List.Sublist.cons _ ?_))
     ·
      replace h6 := nm h6
      refine S1 ?_; refine Ocm ?_; refine Oas ?_; refine S1 ?_
      exact Done.cutJ ⟨(op == 17), rfl, by have e : (op == 17) = decide (op = 17) := rfl; rw [e, decide_eq_decide]; omega⟩ (by repeat (first | exact trivial | refine ⟨rfl, ?_⟩)) (by repeat (first | exact List.Sublist.refl _ | refine List.Sublist.cons _ ?_))
   ·
    rintro _ ⟨b2, rfl, hb2⟩
    refine CW.cond rfl (fun h7 => ?_) (fun h7 => ?_)
    ·
     rw [hb2, decide_eq_true_eq] at h7
     refine S2 ?_; refine Oas ?_; refine S5 ?_
     refine r1 4 (Hx) ?_
     exact by rw [kidsN, if_neg h4, if_pos h7]; rfl
    ·
     rw [hb2, decide_eq_false_iff_not] at h7
     refine S2 ?_; refine Ocm ?_; refine Oas ?_; refine S2 ?_
     refine CW.cond rfl (fun h8 => ?_) (fun h8 => ?_)
     ·
      replace h8 := nm h8
      refine S2 ?_; refine Oas ?_; refine S5 ?_
      refine r1 4 (Hx) ?_
      exact by rw [kidsN, if_neg h4, if_neg h7, if_pos h8]; rfl
     ·
      replace h8 := nm h8
      refine S2 ?_; refine Ocm ?_; refine Oas ?_; refine S2 ?_
      refine CW.cond rfl (fun h9 => ?_) (fun h9 => ?_)
      ·
       replace h9 := nm h9
       have hn0 := hn h9
       refine S2 ?_; refine Ofa ?_; refine Old ?_; refine Ofa ?_; refine Old ?_; refine Oln ?_; refine Ocm ?_; refine Omv ?_; refine Pfa ?_; refine Pld ?_; refine Pfa ?_; refine Pld ?_
       refine OL.guardC rfl rfl rfl rfl rfl rfl (fun hg => (by first | exact POp.ixM rfl rfl (gd hg) rfl (gd hg) (by simp at hg; omega) | exact POp.ixI rfl rfl (gd hg) rfl (gd hg) (by simp at hg; omega))) ?_
       refine Pld ?_; refine Pcm ?_; refine Opk ?_
       by_cases hq : n < gens.length ∧ gens.getD n.toNat default ≤ 3
       ·
        have hi := hq.1
        refine OL.rcallS rfl rfl rfl (.mk' rfl rfl rfl rfl rfl) (q71t (by rw [Bool.cond_false_right, Bool.and_eq_true]; exact ⟨decide_eq_true (by have := hq.1; omega), decide_eq_true hq.2⟩) _) ?_
        refine S4 ?_; refine Ofa ?_; refine Old ?_; refine Ofa ?_; refine Old ?_; refine Oix ?_; refine Old ?_; refine Oas ?_; refine S5 ?_
        refine r1 4 (Hx) ?_
        exact by rw [kidsN, if_neg h4, if_neg h7, if_neg h8, if_pos h9, if_pos hq]; rfl
       ·
        refine OL.rcallN rfl rfl (.mk' rfl rfl rfl rfl rfl) (q71f (by rw [Bool.cond_false_right, Bool.and_eq_false_iff, decide_eq_false_iff_not, decide_eq_false_iff_not]; have h10 := Classical.not_and_iff_not_or_not.1 hq; omega) _) wrong_c ?_
        exact outP (P := Tryz.prog) (fn := Tryz.f143) wrong_c (.refl _) ⟨by rw [kidsN, if_neg h4, if_neg h7, if_neg h8, if_pos h9, if_neg hq]; rfl, rfl, rfl⟩
      ·
       replace h9 := nm h9
       refine S5 ?_; refine Oas ?_; refine S3 ?_
       refine r1 4 (Hx) ?_
       exact by rw [kidsN, if_neg h4, if_neg h7, if_neg h8, if_neg h9]; rfl
theorem ndN_five {n : Int} {s s' : Unit} {l l' : List U8} {z : Int} (h5 : n = 5) (h : ndNR n s l = some (z, s', l')) : 0 ≤ z := by
 subst h5
 unfold ndNR at h
 rw [if_neg (by decide), if_pos (by decide)] at h
 unfold numR at h
 split at h
 ·cases h
 ·cases h; omega
theorem kidsN_le {gens : List Int} {op n k : Int} (h : kidsN gens op n = some k) : k ≤ 3 := by
 unfold kidsN at h
 split at h
 ·cases h; decide
 ·split at h
  ·cases h; decide
  ·split at h
   ·cases h; decide
   ·split at h
    ·split at h
     ·rename_i h1; cases h; exact h1.2
     ·cases h
    ·cases h; decide
theorem valS {σ : Type} {s s' : σ} {l l' : List U8} {x : Int × Int} (h : valR s l = some (x, s', l')) (rb : Nat) (Hx : List Ent) : RCall Tryz.prog 91 [.p rb 0] (rdr rb l :: Hx) (some (AV.mv x, rdr rb l' :: Hx)) Hx wrongA := by
 have h1 := valueR s l rb Hx
 rwa [h] at h1
theorem valN {σ : Type} {s : σ} {l : List U8} (h : valR s l = none) (rb : Nat) (Hx : List Ent) : RCall Tryz.prog 91 [.p rb 0] (rdr rb l :: Hx) none Hx wrongA := by
 have h1 := valueR s l rb Hx
 rwa [h] at h1
theorem nodeR (l : List U8) (A Sv Bv Cv Dv : AV) (gens : List Int) (rb pb : Nat) (Hx : List Ent) : RCall Tryz.prog 141 [.ptr [.p rb 0], .p pb 0] (rdr rb l :: .blk pb 27 [A, Sv, AV.ints gens, Bv, Cv, Dv] :: Hx) ((ndR gens () l).map fun p => (AV.nd p.1, rdr rb p.2.2 :: .blk pb 27 [A, Sv, AV.ints gens, Bv, Cv, Dv] :: Hx)) Hx wrongA := by
 refine ACall.mk' (n := 44) Tryz.func141 rfl (by kernel_rfl) rfl rfl (fun B I w0 => ?_)
 refine S2 ?_
 refine OL.alC rfl rfl rfl rfl (fun b2 => ?_)
 refine S3 ?_
 refine CW.perm (List.Perm.swap _ _ _) ?_
 refine S1 ?_; refine Old ?_
 rcases hq : numberR l with _ | ⟨n, r⟩
 ·
  refine OL.rcallN rfl rfl (.mk' rfl rfl rfl rfl rfl) (q134n hq _ _) wrong_c ?_
  exact outP (P := Tryz.prog) (fn := Tryz.f141) wrong_c (.cons _ (.cons _ (.refl _))) ⟨by rw [ndR, thenR_none (numR_none hq)]; rfl, rfl, rfl⟩
 ·
  have hv : ndR gens () l = _ := thenR_some (numR_some hq)
  refine OL.rcallS rfl rfl rfl (.mk' rfl rfl rfl rfl rfl) (q134s hq _ _) ?_
  refine Obd ?_
  refine OL.alC rfl rfl rfl rfl (fun b3 => ?_)
  refine Sto ?_; refine S3 ?_
  refine CW.perm (List.Perm.swap _ _ _) ?_
  refine S1 ?_; refine Ofa ?_; refine Old ?_; refine Ocm ?_; refine Omv ?_; refine Pfa ?_; refine Pld ?_; refine Pcm ?_; refine Opk ?_
  by_cases ho : 1 ≤ (n : Int) ∧ (n : Int) ≤ 18
  ·
   rw [needR_yes (by simpa using ho)] at hv
   refine OL.rcallS rfl rfl rfl (.mk' rfl rfl rfl rfl rfl) (q71t (by rw [Bool.cond_false_right, Bool.and_eq_true]; exact ⟨decide_eq_true ho.1, decide_eq_true ho.2⟩) _) ?_
   refine S2 ?_
   refine CW.cutJ (fun st => ∃ (z : Int) (r' : List U8), st = ⟨[(3, .p b3 0), (2, .p b2 0), (0, .ptr [.p rb 0]), (1, .p pb 0)], rdr rb r' :: .blk b3 146 [.i n, .i z, nilA] :: .blk b2 146 [.val (.int .i64 0), .val (.int .i64 0), nilA] :: .blk pb 27 [A, Sv, AV.ints gens, Bv, Cv, Dv] :: Hx⟩ ∧ ndNR n () r = some (z, (), r')) ?_ ?_
   ·
    refine S3 ?_; refine Ofa ?_; refine Old ?_; refine Ocm ?_; refine Oas ?_; refine S2 ?_
    refine CW.cond rfl (fun h0 => ?_) (fun h0 => ?_)
    ·
     replace h0 := nm h0
     have he : ndNR (σ := Unit) (n : Int) = intR := by rw [ndNR, if_pos h0]
     refine S1 ?_; refine Old ?_
     rcases hi : intR () r with _ | ⟨z, s1, r1⟩
     ·
      refine OL.rcallN rfl rfl (.mk' rfl rfl rfl rfl rfl) (intN hi _ _) wrong_c ?_
      exact outP (P := Tryz.prog) (fn := Tryz.f141) wrong_c (.cons _ (.cons _ (.cons _ (.refl _)))) ⟨by rw [hv, thenR_none (by rw [he]; exact hi)]; rfl, rfl, rfl⟩
     ·
      refine OL.rcallS rfl rfl rfl (.mk' rfl rfl rfl rfl rfl) (intS hi _ _) ?_
      refine Ofa ?_; refine Sto ?_; refine S2 ?_
      exact Done.cutJ ⟨z, r1, rfl, by rw [he]; exact hi⟩ (by repeat (first | exact trivial | refine ⟨rfl, ?_⟩)) (by repeat (first | exact List.Sublist.refl _ | refine List.Sublist.cons _ ?_))
    ·
     replace h0 := nm h0
     refine S2 ?_; refine Ofa ?_; refine Old ?_
     refine OL.popC rfl rfl rfl (POp.call (.mk' rfl rfl rfl rfl rfl) ((numberedC _))) ?_
     refine Oas ?_; refine S2 ?_
     refine CW.cond rfl (fun h1 => ?_) (fun h1 => ?_)
     ·
      replace h1 := nm h1
      have he : ndNR (σ := Unit) (n : Int) = numR := by rw [ndNR, if_neg h0, if_pos h1]
      refine S1 ?_; refine Old ?_
      rcases hi : numberR r with _ | ⟨z, r1⟩
      ·
       refine OL.rcallN rfl rfl (.mk' rfl rfl rfl rfl rfl) (q134n hi _ _) wrong_c ?_
       exact outP (P := Tryz.prog) (fn := Tryz.f141) wrong_c (.cons _ (.cons _ (.cons _ (.refl _)))) ⟨by rw [hv, thenR_none (by rw [he]; exact numR_none hi)]; rfl, rfl, rfl⟩
      ·
       refine OL.rcallS rfl rfl rfl (.mk' rfl rfl rfl rfl rfl) (q134s hi _ _) ?_
       refine Ofa ?_; refine Sto ?_; refine S2 ?_
       exact Done.cutJ ⟨(z : Int), r1, rfl, by rw [he]; exact numR_some hi⟩ (by repeat (first | exact trivial | refine ⟨rfl, ?_⟩)) (by repeat (first | exact List.Sublist.refl _ | refine List.Sublist.cons _ ?_))
     ·
      replace h1 := nm h1
      have he : ndNR (σ := Unit) (n : Int) = doneR 0 := by rw [ndNR, if_neg h0, if_neg (by rw [h1]; simp)]
      refine S2 ?_
      exact Done.cutJ ⟨0, r, rfl, by rw [he]; rfl⟩ (by repeat (first | exact trivial | refine ⟨rfl, ?_⟩)) (by repeat (first | exact List.Sublist.refl _ | refine List.Sublist.cons _ ?_))
   ·
    rintro _ ⟨z, r', rfl, hz⟩
    rw [thenR_some hz] at hv
    refine S3 ?_; refine Ola ?_; refine Ola ?_
    rcases hk : kidsN gens n z with _ | k
    ·
     refine OL.rcallN rfl rfl (.mk' rfl rfl rfl rfl rfl) (by have h := kidsC A Sv Bv Cv Dv nilA gens n z (fun e => ndN_five e hz) (rdr rb r' :: .blk b3 146 [.i n, .i z, nilA] :: .blk b2 146 [.val (.int .i64 0), .val (.int .i64 0), nilA] :: .blk pb 27 [A, Sv, AV.ints gens, Bv, Cv, Dv] :: Hx); rwa [hk] at h) wrong_c ?_
     exact outP (P := Tryz.prog) (fn := Tryz.f141) wrong_c (.cons _ (.cons _ (.cons _ (.cons _ (.refl _))))) ⟨by rw [hv, hk]; rfl, rfl, rfl⟩
    ·
     rw [hk] at hv
     dsimp only at hv
     have hk3 := kidsN_le hk
     refine OL.rcallS rfl rfl rfl (.mk' rfl rfl rfl rfl rfl) (by have h := kidsC A Sv Bv Cv Dv nilA gens n z (fun e => ndN_five e hz) (rdr rb r' :: .blk b3 146 [.i n, .i z, nilA] :: .blk b2 146 [.val (.int .i64 0), .val (.int .i64 0), nilA] :: .blk pb 27 [A, Sv, AV.ints gens, Bv, Cv, Dv] :: Hx); rwa [hk] at h) ?_
     refine Omv ?_; refine S3 ?_
     refine CW.ownNilB (b := b3) (t := 146) 3 1 2 (by repeat (first | exact Upd.head _ _ _ | apply Upd.tail)) rfl rfl ?_
     refine CW.perm (List.Perm.swap _ _ _) ?_
     refine lj (fun m st => ∃ (i : Nat) (ks : List Int) (r2 : List U8) (v : Value), st = ⟨[(33, .i i), (32, .i k), (3, .p b3 0), (2, .p b2 0), (0, .ptr [.p rb 0]), (1, .p pb 0)], rdr rb r2 :: .own 3 1 v :: .blk b3 146 [.i n, .i z, .as (AV.ints ks) v] :: .blk b2 146 [.val (.int .i64 0), .val (.int .i64 0), nilA] :: .blk pb 27 [A, Sv, AV.ints gens, Bv, Cv, Dv] :: Hx⟩ ∧ m = k.toNat - i ∧ i ≤ k.toNat ∧ ks.length = i ∧ timesR numR k.toNat () r' = (timesR numR (k.toNat - i) () r2).map fun p => (ks ++ p.1, p.2.1, p.2.2)) (⟨0, [], r', _, rfl, rfl, by omega, rfl, times_begin _ _ _ _⟩) ?_
     rintro m _ ⟨i, ks, r2, v, rfl, rfl, hi, hkl, ht⟩
     refine S2 ?_; refine Ocm ?_; refine S3 ?_
     refine CW.cond rfl (fun h2 => ?_) (fun h2 => ?_)
     ·
      replace h2 := nm h2
      have hil : i < k.toNat := by omega
      obtain ⟨ht1, ht2⟩ := times_snoc hil ht
      refine S4 ?_
      rcases hw : numberR r2 with _ | ⟨w, r3⟩
      ·
       refine CW.dp mixed ?_
       refine DP.anyPan (Hf := .own 3 1 v :: .blk b3 146 [.i n, .i z, .as (AV.ints ks) v] :: .blk b2 146 [.val (.int .i64 0), .val (.int .i64 0), nilA] :: .blk pb 27 [A, Sv, AV.ints gens, Bv, Cv, Dv] :: Hx) 3 0 5 44 rfl (by decide +kernel) (by decide +kernel) (by decide +kernel) (by decide +kernel) (fun env => outP (P := Tryz.prog) (fn := Tryz.f141) (Hf := Hx) wrong_c (.cons _ (.cons _ (.cons _ (.cons _ (.refl _))))) ⟨by rw [hv, thenR_none (ht1 (numR_none hw))]; rfl, rfl, rfl⟩) ?_
       refine UD.popP rfl rfl rfl rfl ((by first | exact POp.fa rfl rfl rfl rfl | exact POp.faP rfl rfl rfl rfl)) ?_
       refine UD.popP rfl rfl rfl rfl ((by first | exact POp.ld1 rfl rfl rfl rfl | (apply POp.ld1H rfl rfl rfl; (case hm => repeat (first | exact .head _ | refine .tail _ ?_)); (case hy => rfl)))) ?_
       refine UD.popP rfl rfl rfl rfl ((by first | exact POp.ld1 rfl rfl rfl rfl | (apply POp.ld1H rfl rfl rfl; (case hm => repeat (first | exact .head _ | refine .tail _ ?_)); (case hy => rfl)))) ?_
       refine UD.panP rfl rfl rfl (.mk' rfl rfl rfl rfl rfl) (q134n hw rb (.own 3 1 v :: .blk b3 146 [.i n, .i z, .as (AV.ints ks) v] :: .blk b2 146 [.val (.int .i64 0), .val (.int .i64 0), nilA] :: .blk pb 27 [A, Sv, AV.ints gens, Bv, Cv, Dv] :: Hx)) wrong_c ?_
       refine UD.waitP (by decide +kernel) rfl rfl ?_
       exact UD.nil trivial
      ·
       have ht3 := ht2 _ _ _ (numR_some hw)
       refine CW.dp mixed ?_
       refine DP.anyK (X := noX) [⟨3, 38, false⟩] (fun J => match J with | [some _] => rdr rb r3 :: .own 3 1 v :: .blk b3 146 [.i n, .i z, .as (AV.ints ks) v] :: .blk b2 146 [.val (.int .i64 0), .val (.int .i64 0), nilA] :: .blk pb 27 [A, Sv, AV.ints gens, Bv, Cv, Dv] :: Hx | _ => rdr rb r2 :: .own 3 1 v :: .blk b3 146 [.i n, .i z, .as (AV.ints ks) v] :: .blk b2 146 [.val (.int .i64 0), .val (.int .i64 0), nilA] :: .blk pb 27 [A, Sv, AV.ints gens, Bv, Cv, Dv] :: Hx) (fun q J => match q, J with | 0, [some _] => .i w | _, _ => .any) 0 5 44 rfl (by decide +kernel) (by decide +kernel) rfl rfl (by decide +kernel) rfl (fun _ _ _ _ _ _ _ _ _ h => h.elim) ?_
       refine UD.popK [[true], [false]] rfl (by decide +kernel) rfl rfl rfl ⟨fun f => (by first | exact POp.fa rfl rfl rfl rfl | exact POp.faP rfl rfl rfl rfl), fun f => (by first | exact POp.fa rfl rfl rfl rfl | exact POp.faP rfl rfl rfl rfl), trivial⟩ ?_
       refine UD.popK [[true], [false]] rfl (by decide +kernel) rfl rfl rfl ⟨fun f => (by first | exact POp.ld1 rfl rfl rfl rfl | (apply POp.ld1H rfl rfl rfl; (case hm => repeat (first | exact .head _ | refine .tail _ ?_)); (case hy => rfl))), fun f => (by first | exact POp.ld1 rfl rfl rfl rfl | (apply POp.ld1H rfl rfl rfl; (case hm => repeat (first | exact .head _ | refine .tail _ ?_)); (case hy => rfl))), trivial⟩ ?_
       refine UD.popK [[false]] rfl (by decide +kernel) rfl rfl rfl ⟨fun f => (by first | exact POp.ld1 rfl rfl rfl rfl | (apply POp.ld1H rfl rfl rfl; (case hm => repeat (first | exact .head _ | refine .tail _ ?_)); (case hy => rfl))), trivial⟩ ?_
       refine UD.effK 0 [[false]] rfl rfl rfl (by decide +kernel) rfl rfl rfl ⟨fun f => ⟨KOk.rcall (.mk' rfl rfl rfl rfl rfl) (q134s hw rb _) (fun _ => rfl) (fun _ => rfl), (by intro v q hq; rcases q with _ | _ | _ | _ | _ | _ | q <;> first | rfl | (cases hq))⟩, trivial⟩ ?_
       refine UD.popK [[true]] rfl (by decide +kernel) rfl rfl rfl ⟨fun f => POp.le (x := .sl 1 [[AV.i w]]) (POp.row rfl rfl (by first | rfl | simp_all [strip]) rfl rfl rfl rfl rfl rfl) (AVle.refl _), trivial⟩ ?_
       refine UD.nil (fun f => ?_)
       simp only [kvals, List.map_cons, List.map_nil, List.cons_append, List.nil_append]
       refine DP.tailC 5 (by decide +kernel) rfl ?_
       refine OL.appendC rfl rfl rfl rfl rfl rfl rfl rfl (AVle.refl _) (rfl) (fun v => by repeat (first | exact Upd.head _ _ _ | apply Upd.tail)) ((by simp only [List.length_map, List.length_singleton]; omega)) ((by simp only [List.length_map, List.length_singleton]; omega)) (fun v40 => ?_)
       refine Ofa ?_; refine Sto ?_; refine S4 ?_; refine Oar ?_; refine Omv ?_; refine S1 ?_
       rw [← ints_snoc]
       exact ag ⟨i + 1, ks ++ [(w : Int)], r3, v40, rfl, rfl, hil, by rw [List.length_append, hkl]; rfl, ht3⟩
     ·
      replace h2 := nm h2
      obtain rfl : k.toNat = i := by omega
      have he2 := times_end ht
      rw [thenR_some he2] at hv
      refine S7 ?_; refine Ola ?_; refine Sto ?_; refine S3 ?_
      refine Done.retR (rs := [.cell 2 146]) (H' := rdr rb r2 :: .blk pb 27 [A, Sv, AV.ints gens, Bv, Cv, Dv] :: Hx) rfl ((by first | exact .cellA inferInstance rfl (by repeat (first | exact .head _ | refine .tail _ ?_)) rfl rfl (.nil) | exact .ptrA inferInstance rfl rfl (.nil))) (.cons (AVle.agg (.cons (.refl _) (.cons (.refl _) (.cons (AVle.asL _ _) .nil)))) .nil) (by exact .cons_cons _ (.cons _ (.cons _ (.cons _ (.refl _))))) ?_
      exact by rw [hv]; rfl
  ·
   refine OL.rcallN rfl rfl (.mk' rfl rfl rfl rfl rfl) (q71f (by rw [Bool.cond_false_right, Bool.and_eq_false_iff, decide_eq_false_iff_not, decide_eq_false_iff_not]; have h10 := Classical.not_and_iff_not_or_not.1 ho; exact h10) _) wrong_c ?_
   exact outP (P := Tryz.prog) (fn := Tryz.f141) wrong_c (.cons _ (.cons _ (.cons _ (.cons _ (.refl _))))) ⟨by rw [hv, needR_no (by rw [Bool.and_eq_false_iff, decide_eq_false_iff_not, decide_eq_false_iff_not]; exact Classical.not_and_iff_not_or_not.1 ho)]; rfl, rfl, rfl⟩
theorem has_len {p : Prog} {c : Int} (h : ownC p c = true) : (hasP p c).length ≤ 40 := by
 obtain ⟨hc, hcl⟩ := own_parts h
 have h10 := (okC_of hcl).1
 have hs : ∀ c ∈ p.classes, c.slots.length ≤ 4 := by
  have hs : slotsA p.classes 0 = true := by simp only [classesP, Bool.and_eq_true] at hcl; exact hcl.1.1.2
  exact fun c hc => (slotsA_mem _ _ hs c hc).1
 have hl := hasN_len hs (c - 2).toNat [c] []
 have hl2 : (hasP p c).length = (hasN p (c - 2).toNat [c] []).length := by unfold hasP sortI; rw [List.length_mergeSort]
 simp only [List.length_nil] at hl
 omega
theorem slotsC {p : Prog} (hp : p.Small) (c : Int) (Hx : List Ent) : RCall Tryz.prog 147 [AV.prog p, .i c] Hx (if ownC p c then some (AV.ints (hasP p c), Hx) else none) Hx wrongA := by
 refine ACall.mk' (n := 18) Tryz.func147 rfl (by kernel_rfl) rfl rfl (fun B I w0 => ?_)
 refine S2 ?_; refine Obx ?_; refine Oas ?_; refine S4 ?_; refine Ola ?_; refine Omv ?_
 refine OL.popC rfl rfl rfl (POp.call (.mk' rfl rfl rfl rfl rfl) (hasB hp c)) ?_
 refine Omv ?_; refine Oex ?_; refine Oex ?_; refine Oas ?_; refine Oas ?_; refine S5 ?_; refine Omv ?_; refine Ocm ?_; refine S2 ?_
 refine CW.cond rfl (fun h0 => ?_) (fun h0 => ?_)
 ·
  have ho : ownC p c = false := by cases h : ownC p c <;> simp_all
  refine S1 ?_; refine Obd ?_
  refine OL.popC rfl rfl rfl (POp.makeIface rfl rfl rfl (by kernel_rfl)) ?_
  refine OL.panicC rfl rfl rfl rfl wrong_c ?_
  exact outP (P := Tryz.prog) (fn := Tryz.f147) wrong_c (.refl _) ⟨by rw [ho]; rfl, rfl, rfl⟩
 ·
  have ho : ownC p c = true := by cases h : ownC p c <;> simp_all
  refine S4 ?_; refine Omv ?_; refine Oas ?_; refine S3 ?_
  refine r1 4 (Hx) ?_
  exact by rw [ho]; rfl
theorem thingR {p : Prog} (hp : p.Small) {σ : Type} (s : σ) (l : List U8) (rb : Nat) (Hx : List Ent) : RCall Tryz.prog 146 [.ptr [.p rb 0], .ptr (progC p)] (rdr rb l :: Hx) ((thR p s l).map fun q => (.agg (thA q.1), rdr rb q.2.2 :: Hx)) Hx wrongA := by
 refine ACall.mk' (n := 23) Tryz.func146 rfl (by kernel_rfl) rfl rfl (fun B I w0 => ?_)
 refine S2 ?_
 refine OL.alC rfl rfl rfl rfl (fun b2 => ?_)
 refine S3 ?_
 refine CW.perm (List.Perm.swap _ _ _) ?_
 refine S1 ?_; refine Old ?_
 rcases hq : numberR l with _ | ⟨n, r⟩
 ·
  refine OL.rcallN rfl rfl (.mk' rfl rfl rfl rfl rfl) (q134n hq _ _) wrong_c ?_
  exact outP (P := Tryz.prog) (fn := Tryz.f146) wrong_c (.cons _ (.refl _)) ⟨by rw [thR, thenR_none (numR_none hq)]; rfl, rfl, rfl⟩
 ·
  have hv : thR p s l = _ := thenR_some (numR_some hq)
  refine OL.rcallS rfl rfl rfl (.mk' rfl rfl rfl rfl rfl) (q134s hq _ _) ?_
  refine Obd ?_
  refine OL.alC rfl rfl rfl rfl (fun b3 => ?_)
  refine Sto ?_; refine S4 ?_
  refine CW.perm (List.Perm.swap _ _ _) ?_
  refine S1 ?_; refine Ola ?_; refine Ofa ?_; refine Old ?_
  cases ho : ownC p (n : Int)
  ·
   refine OL.rcallN rfl rfl (.mk' rfl rfl rfl rfl rfl) (by have h := slotsC hp (n : Int) (rdr rb r :: .blk b3 65 [.i n, nilA] :: .blk b2 65 [.val (.int .i64 0), nilA] :: Hx); rwa [ho] at h) wrong_c ?_
   exact outP (P := Tryz.prog) (fn := Tryz.f146) wrong_c (.cons _ (.cons _ (.cons _ (.refl _)))) ⟨by rw [hv, needR_no ho]; rfl, rfl, rfl⟩
  ·
   rw [needR_yes ho] at hv
   refine OL.rcallS rfl rfl rfl (.mk' rfl rfl rfl rfl rfl) (by have h := slotsC hp (n : Int) (rdr rb r :: .blk b3 65 [.i n, nilA] :: .blk b2 65 [.val (.int .i64 0), nilA] :: Hx); rwa [ho] at h) ?_
   refine Oln ?_; refine Omv ?_; refine S3 ?_
   have hl40 := has_len ho
   obtain ⟨N, hN⟩ : ∃ N, N = (hasP p (n : Int)).length := ⟨_, rfl⟩
   rw [← hN] at hv hl40
   refine CW.le 11 (y := .i N) rfl (AVle.eqI (by rw [hN])) ?_
   refine CW.ownNilB (b := b3) (t := 65) 60 2 1 (by repeat (first | exact Upd.head _ _ _ | apply Upd.tail)) rfl rfl ?_
   refine CW.perm (List.Perm.swap _ _ _) ?_
   refine lj (fun m st => ∃ (i : Nat) (ks : List (Int × Int)) (r2 : List U8) (v : Value), st = ⟨[(12, .i i), (11, .i N), (3, .p b3 0), (2, .p b2 0), (0, .ptr [.p rb 0]), (1, .ptr (progC p))], rdr rb r2 :: .own 60 2 v :: .blk b3 65 [.i n, .as (AV.mvs ks) v] :: .blk b2 65 [.val (.int .i64 0), nilA] :: Hx⟩ ∧ m = N - i ∧ i ≤ N ∧ ks.length = i ∧ timesR valR N s r = (timesR valR (N - i) s r2).map fun p => (ks ++ p.1, p.2.1, p.2.2)) (⟨0, [], r, _, rfl, rfl, by omega, rfl, times_begin _ _ _ _⟩) ?_
   rintro m _ ⟨i, ks, r2, v, rfl, rfl, hi, hkl, ht⟩
   refine S2 ?_; refine Ocm ?_; refine S3 ?_
   refine CW.cond rfl (fun h0 => ?_) (fun h0 => ?_)
   ·
    replace h0 := nm h0
    have hil : i < N := by omega
    obtain ⟨ht1, ht2⟩ := times_snoc hil ht
    refine S4 ?_
    rcases hw : valR s r2 with _ | ⟨w, s3, r3⟩
    ·
     refine CW.dp mixed ?_
     refine DP.anyPan (Hf := .own 60 2 v :: .blk b3 65 [.i n, .as (AV.mvs ks) v] :: .blk b2 65 [.val (.int .i64 0), nilA] :: Hx) 3 0 5 23 rfl (by decide +kernel) (by decide +kernel) (by decide +kernel) (by decide +kernel) (fun env => outP (P := Tryz.prog) (fn := Tryz.f146) (Hf := Hx) wrong_c (.cons _ (.cons _ (.cons _ (.refl _)))) ⟨by rw [hv, thenR_none (ht1 hw)]; rfl, rfl, rfl⟩) ?_
     refine UD.popP rfl rfl rfl rfl ((by first | exact POp.fa rfl rfl rfl rfl | exact POp.faP rfl rfl rfl rfl)) ?_
     refine UD.popP rfl rfl rfl rfl ((by first | exact POp.ld1 rfl rfl rfl rfl | (apply POp.ld1H rfl rfl rfl; (case hm => repeat (first | exact .head _ | refine .tail _ ?_)); (case hy => rfl)))) ?_
     refine UD.popP rfl rfl rfl rfl ((by first | exact POp.ld1 rfl rfl rfl rfl | (apply POp.ld1H rfl rfl rfl; (case hm => repeat (first | exact .head _ | refine .tail _ ?_)); (case hy => rfl)))) ?_
     refine UD.panP rfl rfl rfl (.mk' rfl rfl rfl rfl rfl) (valN hw rb (.own 60 2 v :: .blk b3 65 [.i n, .as (AV.mvs ks) v] :: .blk b2 65 [.val (.int .i64 0), nilA] :: Hx)) wrong_c ?_
     refine UD.waitP (by decide +kernel) rfl rfl ?_
     exact UD.nil trivial
    ·
     obtain rfl := Still.val _ _ _ _ _ hw
     have ht3 := ht2 _ _ _ hw
     refine CW.dp mixed ?_
     refine DP.anyK (X := noX) [⟨3, 17, false⟩] (fun J => match J with | [some _] => rdr rb r3 :: .own 60 2 v :: .blk b3 65 [.i n, .as (AV.mvs ks) v] :: .blk b2 65 [.val (.int .i64 0), nilA] :: Hx | _ => rdr rb r2 :: .own 60 2 v :: .blk b3 65 [.i n, .as (AV.mvs ks) v] :: .blk b2 65 [.val (.int .i64 0), nilA] :: Hx) (fun q J => match q, J with | 0, [some _] => AV.mv w | _, _ => .any) 0 5 23 rfl (by decide +kernel) (by decide +kernel) rfl rfl (by decide +kernel) rfl (fun _ _ _ _ _ _ _ _ _ h => h.elim) ?_
     refine UD.popK [[true], [false]] rfl (by decide +kernel) rfl rfl rfl ⟨fun f => (by first | exact POp.fa rfl rfl rfl rfl | exact POp.faP rfl rfl rfl rfl), fun f => (by first | exact POp.fa rfl rfl rfl rfl | exact POp.faP rfl rfl rfl rfl), trivial⟩ ?_
     refine UD.popK [[true], [false]] rfl (by decide +kernel) rfl rfl rfl ⟨fun f => (by first | exact POp.ld1 rfl rfl rfl rfl | (apply POp.ld1H rfl rfl rfl; (case hm => repeat (first | exact .head _ | refine .tail _ ?_)); (case hy => rfl))), fun f => (by first | exact POp.ld1 rfl rfl rfl rfl | (apply POp.ld1H rfl rfl rfl; (case hm => repeat (first | exact .head _ | refine .tail _ ?_)); (case hy => rfl))), trivial⟩ ?_
     refine UD.popK [[false]] rfl (by decide +kernel) rfl rfl rfl ⟨fun f => (by first | exact POp.ld1 rfl rfl rfl rfl | (apply POp.ld1H rfl rfl rfl; (case hm => repeat (first | exact .head _ | refine .tail _ ?_)); (case hy => rfl))), trivial⟩ ?_
     refine UD.effK 0 [[false]] rfl rfl rfl (by decide +kernel) rfl rfl rfl ⟨fun f => ⟨KOk.rcall (.mk' rfl rfl rfl rfl rfl) (valS hw rb _) (fun _ => rfl) (fun _ => rfl), (by intro v q hq; rcases q with _ | _ | _ | _ | _ | _ | q <;> first | rfl | (cases hq))⟩, trivial⟩ ?_
     refine UD.popK [[true]] rfl (by decide +kernel) rfl rfl rfl ⟨fun f => POp.le (x := .sl 2 [initA w]) (POp.row rfl rfl (by first | rfl | simp_all [strip]) rfl rfl rfl rfl rfl rfl) (AVle.refl _), trivial⟩ ?_
     refine UD.nil (fun f => ?_)
     simp only [kvals, List.map_cons, List.map_nil, List.cons_append, List.nil_append]
     refine DP.tailC 5 (by decide +kernel) rfl ?_
     refine OL.appendC rfl rfl rfl rfl rfl rfl rfl rfl (AVle.refl _) (rfl) (fun v => by repeat (first | exact Upd.head _ _ _ | apply Upd.tail)) ((by simp only [List.length_map, List.length_singleton]; omega)) ((by simp only [List.length_map, List.length_singleton]; omega)) (fun v19 => ?_)
     refine Ofa ?_; refine Sto ?_; refine S4 ?_; refine Oar ?_; refine Omv ?_; refine S1 ?_
     rw [← mvs_snoc]
     exact ag ⟨i + 1, ks ++ [w], r3, v19, rfl, rfl, hil, by rw [List.length_append, hkl]; rfl, ht3⟩
   ·
    replace h0 := nm h0
    obtain rfl : N = i := by omega
    have he2 := times_end ht
    rw [thenR_some he2] at hv
    refine S7 ?_; refine Ola ?_; refine Sto ?_; refine S3 ?_
    refine Done.retR (rs := [.cell 2 65]) (H' := rdr rb r2 :: Hx) rfl ((by first | exact .cellA inferInstance rfl (by repeat (first | exact .head _ | refine .tail _ ?_)) rfl rfl (.nil) | exact .ptrA inferInstance rfl rfl (.nil))) (.cons (AVle.agg (.cons (.refl _) (.cons (AVle.asL _ _) .nil))) .nil) (by exact .cons_cons _ (.cons _ (.cons _ (.cons _ (.refl _))))) ?_
    exact by rw [hv]; rfl
theorem factR_succ (f left : Nat) (l : List U8) : factR (f + 1) (left + 1) l = thenR numR (fun op => needR (opR op) (factB (factR f) op)) left l := by rw [factR]
theorem factR_zero (f : Nat) (l : List U8) : factR f 0 l = none := by cases f <;> rfl
def Low {α : Type} (R : Rd Nat α) : Prop := ∀ s l y s' l', R s l = some (y, s', l') → s' ≤ s
theorem Still.low {α : Type} {R : Rd Nat α} (h : Still R) : Low R := fun s l y s' l' e => by rw [h _ _ _ _ _ e]; exact Nat.le_refl _
theorem Low.then {α β : Type} {R : Rd Nat α} {k : α → Rd Nat β} (h1 : Low R) (h2 : ∀ a, Low (k a)) : Low (thenR R k) := fun s l y s' l' h => by
 unfold thenR at h
 split at h
 ·cases h
 ·rename_i a s1 l1 h3
  have := h2 a _ _ _ _ _ h
  have := h1 _ _ _ _ _ h3
  omega
theorem Low.need {α : Type} {b : Bool} {R : Rd Nat α} (h1 : Low R) : Low (needR b R) := fun s l y s' l' h => by
 unfold needR at h
 split at h
 ·exact h1 _ _ _ _ _ h
 ·cases h
theorem Low.times {α : Type} {R : Rd Nat α} (h1 : Low R) : ∀ n, Low (timesR R n)
 | 0, s, l, y, s', l', h => by cases h; exact Nat.le_refl _
 | n + 1, s, l, y, s', l', h => by
  rw [timesR] at h
  split at h
  ·cases h
  ·rename_i a s1 l1 h2
   split at h
   ·cases h
   ·rename_i b s2 l2 h3
    cases h
    have := Low.times h1 n _ _ _ _ _ h3
    have := h1 _ _ _ _ _ h2
    omega
theorem factR_low : ∀ f, Low (factR f)
 | 0, s, l, y, s', l', h => by cases h
 | f + 1, 0, l, y, s', l', h => by cases h
 | f + 1, s + 1, l, y, s', l', h => by
  rw [factR_succ] at h
  have hb : ∀ op, Low (factB (factR f) op) := fun op => by
   unfold factB
   split
   ·exact (Still.num.then fun _ => (Still.list .num).then fun _ => Still.num.then fun _ => .done _).low
   ·split
    ·exact (Still.num.then fun _ => (Still.list .num).then fun _ => Still.int.then fun _ => .done _).low
    ·exact .then (.times (factR_low f) _) fun _ => (Still.done _).low
  have := Low.then Still.num.low (fun op => .need (hb op)) _ _ _ _ _ h
  omega
theorem factC_step {f : Nat} (ih : ∀ f', f = f' + 1 → ∀ left, left ≤ f' → left ≤ 1000 → ∀ (l : List U8) (rb lb : Nat) (Hx : List Ent), RCall Tryz.prog 190 [.p rb 0, .p lb 0] (rdr rb l :: .blk lb 3 [.i left] :: Hx) ((factR f' left l).map fun q => (AV.fact q.1, rdr rb q.2.2 :: .blk lb 3 [.i q.2.1] :: Hx)) Hx wrongA) (left : Nat) (hl : left ≤ f) (hl0 : left ≤ 1000) (l : List U8) (rb lb : Nat) (Hx : List Ent) : RCall Tryz.prog 190 [.p rb 0, .p lb 0] (rdr rb l :: .blk lb 3 [.i left] :: Hx) ((factR f left l).map fun q => (AV.fact q.1, rdr rb q.2.2 :: .blk lb 3 [.i q.2.1] :: Hx)) Hx wrongA := by
 refine ACall.mk' (n := 65) Tryz.func190 rfl (by kernel_rfl) rfl rfl (fun B I w0 => ?_)
 refine S2 ?_
 refine OL.alC rfl rfl rfl rfl (fun b4 => ?_)
 refine S3 ?_
 refine CW.perm (List.perm_append_comm_assoc [_] [_, _] _) ?_
 refine S1 ?_; refine Omv ?_; refine Onc ?_; refine Old ?_; refine Oar ?_; refine Onc ?_; refine Sto ?_; refine S4 ?_; refine Omv ?_; refine Onc ?_; refine Old ?_; refine Ocm ?_
 by_cases h1 : 1 ≤ left
 ·
  obtain ⟨k, rfl⟩ : ∃ k, left = k + 1 := ⟨left - 1, by omega⟩
  obtain ⟨f', rfl⟩ : ∃ f', f = f' + 1 := ⟨f - 1, by omega⟩
  refine OL.eqH (H' := rdr rb l :: .blk lb 3 [.i k] :: .blk b4 166 [.val (.int .i64 0), .val (.int .i64 0), nilA, .val (.int .i64 0), .val (.int .i64 0), nilA] :: Hx) (by rw [show ((k + 1 : Nat) : Int) - 1 = k by omega]; rfl) ?_
  refine OL.rcallS rfl rfl rfl (.mk' rfl rfl rfl rfl rfl) (q71t (by simp) _) ?_
  refine S4 ?_; refine Omv ?_
  rcases hq : numberR l with _ | ⟨n, r⟩
  ·
   refine OL.rcallN rfl rfl (.mk' rfl rfl rfl rfl rfl) (q134n hq _ _) wrong_c ?_
   exact outP (P := Tryz.prog) (fn := Tryz.f190) wrong_c (.cons _ (.cons _ (.refl _))) ⟨by rw [factR_succ, thenR_none (numR_none hq)]; rfl, rfl, rfl⟩
  ·
   have hv := factR_succ f' k l
   rw [thenR_some (numR_some hq)] at hv
   refine OL.rcallS rfl rfl rfl (.mk' rfl rfl rfl rfl rfl) (q134s hq _ _) ?_
   refine Obd ?_
   refine OL.alC rfl rfl rfl rfl (fun b5 => ?_)
   refine Sto ?_; refine S3 ?_
   refine CW.perm (List.perm_append_comm_assoc [_] [_, _] _) ?_
   refine S1 ?_; refine Oas ?_; refine S2 ?_
   refine CW.cutJ (fun st => ∃ (kd : Nat) (a c z : Int) (ps : List Int) (pv : AV) (r' : List U8), st = ⟨[(6, .i kd), (5, .p b5 0), (4, .p b4 0), (0, .p rb 0), (1, .p lb 0)], rdr rb r' :: .blk lb 3 [.i k] :: .blk b5 166 [.i n, .i a, pv, .i c, .i z, nilA] :: .blk b4 166 [.val (.int .i64 0), .val (.int .i64 0), nilA, .val (.int .i64 0), .val (.int .i64 0), nilA] :: Hx⟩ ∧ ((pv = nilA ∧ ps = []) ∨ pv = AV.ints ps) ∧ kd ≤ 2 ∧ factR (f' + 1) (k + 1) l = thenR (timesR (factR f') kd) (fun ks => doneR (.mk n a ps c z ks)) k r') ?_ ?_
   ·
    refine S2 ?_; refine Ofa ?_; refine Old ?_; refine S5 ?_; refine Ocm ?_; refine Oas ?_; refine S2 ?_
    refine CW.cond rfl (fun h0 => ?_) (fun h0 => ?_)
    ·
     replace h0 := nm h0
     rw [needR_yes (by rw [opR, h0]; rfl), factB, if_neg (by omega), if_neg (by omega), show kidCnt (n : Int) = 0 by rw [kidCnt, if_neg (by omega), if_neg (by omega)]] at hv
     refine S2 ?_
     exact Done.cutJ ⟨0, 0, 0, 0, [], nilA, r, rfl, .inl ⟨rfl, rfl⟩, by omega, hv⟩ (by repeat (first | exact trivial | refine ⟨rfl, ?_⟩)) (by repeat (first | exact List.Sublist.refl _ | refine List.Sublist.cons _ ?_))
    ·
     replace h0 := nm h0
     refine CW.cutJ (fun st => ∃ b : Bool, st = ⟨[(26, .b b), (21, .i n), (6, .i ((0 : Nat) : Int)), (5, .p b5 0), (4, .p b4 0), (0, .p rb 0), (1, .p lb 0)], rdr rb r :: .blk lb 3 [.i k] :: .blk b5 166 [.i n, .i 0, nilA, .i 0, .i 0, nilA] :: .blk b4 166 [.val (.int .i64 0), .val (.int .i64 0), nilA, .val (.int .i64 0), .val (.int .i64 0), nilA] :: Hx⟩ ∧ b = decide ((n : Int) = 2 ∨ (n : Int) = 3 ∨ (n : Int) = 4)) ?_ ?_
     ·
      refine S2 ?_; refine Ocm ?_; refine Oas ?_; refine S2 ?_
      refine CW.cond rfl (fun h1 => ?_) (fun h1 => ?_)
      ·
       replace h1 := nm h1
       refine S1 ?_
       exact Done.cutJ ⟨((n : Int) == 2), rfl, by simp [h1]⟩ (by repeat (first | exact trivial | refine ⟨rfl, ?_⟩)) (by repeat (first | exact List.Sublist.refl _ | refine List.Sublist.cons _ ?_))
      ·
       replace h1 := nm h1
       refine S2 ?_; refine Ocm ?_; refine Oas ?_; refine S2 ?_
       refine CW.cond rfl (fun h2 => ?_) (fun h2 => ?_)
       ·
        replace h2 := nm h2
        refine S1 ?_
        exact Done.cutJ ⟨((n : Int) == 3), rfl, by simp [h2]⟩ (by repeat (first | exact trivial | refine ⟨rfl, ?_⟩)) (by repeat (first | exact List.Sublist.refl _ | refine List.Sublist.cons _ ?_))
       ·
        replace h2 := nm h2
        refine S1 ?_; refine Ocm ?_; refine Oas ?_; refine S1 ?_
        exact Done.cutJ ⟨((n : Int) == 4), rfl, by have e : ((n : Int) == 4) = decide ((n : Int) = 4) := rfl; rw [e, decide_eq_decide]; omega⟩ (by repeat (first | exact trivial | refine ⟨rfl, ?_⟩)) (by repeat (first | exact List.Sublist.refl _ | refine List.Sublist.cons _ ?_))
     ·
      rintro _ ⟨b, rfl, hb⟩
      refine CW.cond rfl (fun h3 => ?_) (fun h3 => ?_)
      ·
       rw [hb, decide_eq_true_eq] at h3
       rw [needR_yes (by rw [opR, Bool.and_eq_true, decide_eq_true_eq, decide_eq_true_eq]; omega)] at hv
       refine S2 ?_; refine Omv ?_
       rcases ha : numberR r with _ | ⟨a, r1⟩
       ·
        have hn0 : factB (factR f') (n : Int) k r = none := by
         unfold factB; split
         ·rw [thenR_none (numR_none ha)]
         ·rw [if_pos (by omega), thenR_none (numR_none ha)]
        refine OL.rcallN rfl rfl (.mk' rfl rfl rfl rfl rfl) (q134n ha _ _) wrong_c ?_
        exact outP (P := Tryz.prog) (fn := Tryz.f190) wrong_c (.cons _ (.cons _ (.cons _ (.refl _)))) ⟨by rw [hv, hn0]; rfl, rfl, rfl⟩
       ·
        refine OL.rcallS rfl rfl rfl (.mk' rfl rfl rfl rfl rfl) (q134s ha _ _) ?_
        refine Ofa ?_; refine Sto ?_; refine S4 ?_; refine Omv ?_; refine Omv ?_; refine Omf ?_
        rcases hp : listR numR k r1 with _ | ⟨ps, k1, r2⟩
        ·
         have hn0 : factB (factR f') (n : Int) k r = none := by
          unfold factB; split
          ·rw [thenR_some (numR_some ha), thenR_none hp]
          ·rw [if_pos (by omega), thenR_some (numR_some ha), thenR_none hp]
         refine OL.rcallN rfl rfl (.mk' rfl rfl rfl rfl rfl) (listI_n hp rb _) wrong_c ?_
         exact outP (P := Tryz.prog) (fn := Tryz.f190) wrong_c (.cons _ (.cons _ (.cons _ (.refl _)))) ⟨by rw [hv, hn0]; rfl, rfl, rfl⟩
        ·
         obtain rfl := Still.list Still.num _ _ _ _ _ hp
         refine OL.rcallS rfl rfl rfl (.mk' rfl rfl rfl rfl rfl) (listI_s hp rb _) ?_
         refine Ofa ?_; refine Sto ?_; refine S4 ?_; refine Ofa ?_; refine Old ?_; refine Ocm ?_; refine S2 ?_
         refine CW.cond rfl (fun h4 => ?_) (fun h4 => ?_)
         ·
          replace h4 := nm h4
          refine S1 ?_; refine Omv ?_
          rcases hc : numberR r2 with _ | ⟨c, r3⟩
          ·
           refine OL.rcallN rfl rfl (.mk' rfl rfl rfl rfl rfl) (q134n hc _ _) wrong_c ?_
           exact outP (P := Tryz.prog) (fn := Tryz.f190) wrong_c (.cons _ (.cons _ (.cons _ (.refl _)))) ⟨by rw [hv, factB, if_pos h4, thenR_some (numR_some ha), thenR_some hp, thenR_none (numR_none hc)]; rfl, rfl, rfl⟩
          ·
           rw [factB, if_pos h4, thenR_some (numR_some ha), thenR_some hp, thenR_some (numR_some hc)] at hv
           refine OL.rcallS rfl rfl rfl (.mk' rfl rfl rfl rfl rfl) (q134s hc _ _) ?_
           refine Ofa ?_; refine Sto ?_; refine S2 ?_
           exact Done.cutJ ⟨0, a, c, 0, ps, AV.ints ps, r3, rfl, .inr rfl, by omega, hv⟩ (by repeat (first | exact trivial | refine ⟨rfl, ?_⟩)) (by repeat (first | exact List.Sublist.refl _ | refine List.Sublist.cons _ ?_))
         ·
          replace h4 := nm h4
          refine S1 ?_; refine Omv ?_
          rcases hc : intR k1 r2 with _ | ⟨z, k2, r3⟩
          ·
           refine OL.rcallN rfl rfl (.mk' rfl rfl rfl rfl rfl) (intN hc _ _) wrong_c ?_
           exact outP (P := Tryz.prog) (fn := Tryz.f190) wrong_c (.cons _ (.cons _ (.cons _ (.refl _)))) ⟨by rw [hv, factB, if_neg h4, if_pos (by omega), thenR_some (numR_some ha), thenR_some hp, thenR_none hc]; rfl, rfl, rfl⟩
          ·
           obtain rfl := Still.int _ _ _ _ _ hc
           rw [factB, if_neg h4, if_pos (by omega), thenR_some (numR_some ha), thenR_some hp, thenR_some hc] at hv
           refine OL.rcallS rfl rfl rfl (.mk' rfl rfl rfl rfl rfl) (intS hc _ _) ?_
           refine Ofa ?_; refine Sto ?_; refine S2 ?_
           exact Done.cutJ ⟨0, a, 0, z, ps, AV.ints ps, r3, rfl, .inr rfl, by omega, hv⟩ (by repeat (first | exact trivial | refine ⟨rfl, ?_⟩)) (by repeat (first | exact List.Sublist.refl _ | refine List.Sublist.cons _ ?_))
      ·
       rw [hb, decide_eq_false_iff_not] at h3
       refine S2 ?_; refine Ocm ?_; refine Oas ?_; refine S2 ?_
       refine CW.cond rfl (fun h5 => ?_) (fun h5 => ?_)
       ·
        replace h5 := nm h5
        rw [needR_yes (by rw [opR, h5]; rfl), factB, if_neg (by omega), if_neg (by omega), show kidCnt (n : Int) = 1 by rw [kidCnt, if_pos h5]] at hv
        refine S1 ?_; refine Oas ?_; refine S2 ?_
        exact Done.cutJ ⟨1, 0, 0, 0, [], nilA, r, rfl, .inl ⟨rfl, rfl⟩, by omega, hv⟩ (by repeat (first | exact trivial | refine ⟨rfl, ?_⟩)) (by repeat (first | exact List.Sublist.refl _ | refine List.Sublist.cons _ ?_))
       ·
        replace h5 := nm h5
        refine CW.cutJ (fun st => ∃ b : Bool, st = ⟨[(49, .b b), (6, .i ((0 : Nat) : Int)), (5, .p b5 0), (4, .p b4 0), (0, .p rb 0), (1, .p lb 0)], rdr rb r :: .blk lb 3 [.i k] :: .blk b5 166 [.i n, .i 0, nilA, .i 0, .i 0, nilA] :: .blk b4 166 [.val (.int .i64 0), .val (.int .i64 0), nilA, .val (.int .i64 0), .val (.int .i64 0), nilA] :: Hx⟩ ∧ b = decide ((n : Int) = 6 ∨ (n : Int) = 7)) ?_ ?_
        ·
         refine S2 ?_; refine Ocm ?_; refine Oas ?_; refine S2 ?_
         refine CW.cond rfl (fun h6 => ?_) (fun h6 => ?_)
         ·
          replace h6 := nm h6
          refine S1 ?_
          exact Done.cutJ ⟨((n : Int) == 6), rfl, by simp [h6]⟩ (by repeat (first | exact trivial | refine ⟨rfl, ?_⟩)) (by repeat (first | exact List.Sublist.refl _ | refine List.Sublist.cons _ ?_))
         ·
          replace h6 := nm h6
          refine S1 ?_; refine Ocm ?_; refine Oas ?_; refine S1 ?_
          exact Done.cutJ ⟨((n : Int) == 7), rfl, by have e : ((n : Int) == 7) = decide ((n : Int) = 7) := rfl; rw [e, decide_eq_decide]; omega⟩ (by repeat (first | exact trivial | refine ⟨rfl, ?_⟩)) (by repeat (first | exact List.Sublist.refl _ | refine List.Sublist.cons _ ?_))
        ·
         rintro _ ⟨b2, rfl, hb2⟩
         refine CW.cond rfl (fun h7 => ?_) (fun h7 => ?_)
         ·
          rw [hb2, decide_eq_true_eq] at h7
          rw [needR_yes (by rw [opR, Bool.and_eq_true, decide_eq_true_eq, decide_eq_true_eq]; omega), factB, if_neg (by omega), if_neg (by omega), show kidCnt (n : Int) = 2 by rw [kidCnt, if_neg (by omega), if_pos (by omega)]] at hv
          refine S1 ?_; refine Oas ?_; refine S2 ?_
          exact Done.cutJ ⟨2, 0, 0, 0, [], nilA, r, rfl, .inl ⟨rfl, rfl⟩, by omega, hv⟩ (by repeat (first | exact trivial | refine ⟨rfl, ?_⟩)) (by repeat (first | exact List.Sublist.refl _ | refine List.Sublist.cons _ ?_))
         ·
          rw [hb2, decide_eq_false_iff_not] at h7
          refine S1 ?_; refine Obd ?_
          refine OL.popC rfl rfl rfl (POp.makeIface rfl rfl rfl (by kernel_rfl)) ?_
          refine OL.panicC rfl rfl rfl rfl wrong_c ?_
          exact outP (P := Tryz.prog) (fn := Tryz.f190) wrong_c (.cons _ (.cons _ (.cons _ (.cons _ (.refl _))))) ⟨by rw [hv, needR_no (by rw [opR, Bool.and_eq_false_iff, decide_eq_false_iff_not, decide_eq_false_iff_not]; omega)]; rfl, rfl, rfl⟩
   ·
    rintro _ ⟨kd, a, c, z, ps, pv, r', rfl, hpv, hkd, he⟩
    refine S3 ?_; refine Omv ?_; refine Omv ?_; refine S3 ?_
    refine CW.ownNilB (b := b5) (t := 166) 166 6 5 (by repeat (first | exact Upd.head _ _ _ | apply Upd.tail)) rfl rfl ?_
    refine CW.perm (List.perm_append_comm_assoc [_] [_, _] _) ?_
    refine lj (fun m st => ∃ (i : Nat) (ks : List Fact) (k' : Nat) (r2 : List U8) (v : Value), st = ⟨[(53, .i i), (52, .i kd), (5, .p b5 0), (4, .p b4 0), (0, .p rb 0), (1, .p lb 0)], rdr rb r2 :: .blk lb 3 [.i k'] :: .own 166 6 v :: .blk b5 166 [.i n, .i a, pv, .i c, .i z, .as (.sl 6 (ks.map Fcells)) v] :: .blk b4 166 [.val (.int .i64 0), .val (.int .i64 0), nilA, .val (.int .i64 0), .val (.int .i64 0), nilA] :: Hx⟩ ∧ m = kd - i ∧ i ≤ kd ∧ ks.length = i ∧ k' ≤ k ∧ timesR (factR f') kd k r' = (timesR (factR f') (kd - i) k' r2).map fun p => (ks ++ p.1, p.2.1, p.2.2)) (⟨0, [], k, r', _, rfl, rfl, by omega, rfl, Nat.le_refl _, times_begin _ _ _ _⟩) ?_
    rintro m _ ⟨i, ks, k', r2, v, rfl, rfl, hi, hkl, hkk, ht⟩
    refine S2 ?_; refine Ocm ?_; refine S3 ?_
    refine CW.cond rfl (fun h8 => ?_) (fun h8 => ?_)
    ·
     replace h8 := nm h8
     have hil : i < kd := by omega
     obtain ⟨ht1, ht2⟩ := times_snoc hil ht
     refine S4 ?_
     rcases hw : factR f' k' r2 with _ | ⟨w, k3, r3⟩
     ·
      refine CW.dp mixed ?_
      refine DP.anyPan (Hf := .own 166 6 v :: .blk b5 166 [.i n, .i a, pv, .i c, .i z, .as (.sl 6 (ks.map Fcells)) v] :: .blk b4 166 [.val (.int .i64 0), .val (.int .i64 0), nilA, .val (.int .i64 0), .val (.int .i64 0), nilA] :: Hx) 4 0 6 65 rfl (by decide +kernel) (by decide +kernel) (by decide +kernel) (by decide +kernel) (fun env => outP (P := Tryz.prog) (fn := Tryz.f190) (Hf := Hx) wrong_c (.cons _ (.cons _ (.cons _ (.refl _)))) ⟨by rw [he, thenR_none (ht1 hw)]; rfl, rfl, rfl⟩) ?_
      refine UD.popP rfl rfl rfl rfl ((by first | exact POp.fa rfl rfl rfl rfl | exact POp.faP rfl rfl rfl rfl)) ?_
      refine UD.popP rfl rfl rfl rfl ((by first | exact POp.ld1 rfl rfl rfl rfl | (apply POp.ld1H rfl rfl rfl; (case hm => repeat (first | exact .head _ | refine .tail _ ?_)); (case hy => rfl)))) ?_
      refine UD.popP rfl rfl rfl rfl (POp.move rfl rfl rfl) ?_
      refine UD.popP rfl rfl rfl rfl (POp.move rfl rfl rfl) ?_
      refine UD.panP rfl rfl rfl (.mk' rfl rfl rfl rfl rfl) (by have h := ih f' rfl k' (by omega) (by omega) r2 rb lb (.own 166 6 v :: .blk b5 166 [.i n, .i a, pv, .i c, .i z, .as (.sl 6 (ks.map Fcells)) v] :: .blk b4 166 [.val (.int .i64 0), .val (.int .i64 0), nilA, .val (.int .i64 0), .val (.int .i64 0), nilA] :: Hx); rwa [hw] at h) wrong_c ?_
      refine UD.waitP (by decide +kernel) rfl rfl ?_
      exact UD.nil trivial
     ·
      have ht3 := ht2 _ _ _ hw
      have hk3 := factR_low f' _ _ _ _ _ hw
      refine CW.dp mixed ?_
      refine DP.anyK (X := noX) [⟨4, 59, false⟩] (fun J => match J with | [some _] => rdr rb r3 :: .blk lb 3 [.i k3] :: .own 166 6 v :: .blk b5 166 [.i n, .i a, pv, .i c, .i z, .as (.sl 6 (ks.map Fcells)) v] :: .blk b4 166 [.val (.int .i64 0), .val (.int .i64 0), nilA, .val (.int .i64 0), .val (.int .i64 0), nilA] :: Hx | _ => rdr rb r2 :: .blk lb 3 [.i k'] :: .own 166 6 v :: .blk b5 166 [.i n, .i a, pv, .i c, .i z, .as (.sl 6 (ks.map Fcells)) v] :: .blk b4 166 [.val (.int .i64 0), .val (.int .i64 0), nilA, .val (.int .i64 0), .val (.int .i64 0), nilA] :: Hx) (fun q J => match q, J with | 0, [some _] => AV.fact w | _, _ => .any) 0 6 65 rfl (by decide +kernel) (by decide +kernel) rfl rfl (by decide +kernel) rfl (fun _ _ _ _ _ _ _ _ _ h => h.elim) ?_
      refine UD.popK [[true], [false]] rfl (by decide +kernel) rfl rfl rfl ⟨fun f => (by first | exact POp.fa rfl rfl rfl rfl | exact POp.faP rfl rfl rfl rfl), fun f => (by first | exact POp.fa rfl rfl rfl rfl | exact POp.faP rfl rfl rfl rfl), trivial⟩ ?_
      refine UD.popK [[true], [false]] rfl (by decide +kernel) rfl rfl rfl ⟨fun f => (by first | exact POp.ld1 rfl rfl rfl rfl | (apply POp.ld1H rfl rfl rfl; (case hm => repeat (first | exact .head _ | refine .tail _ ?_)); (case hy => rfl))), fun f => (by first | exact POp.ld1 rfl rfl rfl rfl | (apply POp.ld1H rfl rfl rfl; (case hm => repeat (first | exact .head _ | refine .tail _ ?_)); (case hy => rfl))), trivial⟩ ?_
      refine UD.popK [[false]] rfl (by decide +kernel) rfl rfl rfl ⟨fun f => POp.move rfl rfl rfl, trivial⟩ ?_
      refine UD.popK [[false]] rfl (by decide +kernel) rfl rfl rfl ⟨fun f => POp.move rfl rfl rfl, trivial⟩ ?_
      refine UD.effK 0 [[false]] rfl rfl rfl (by decide +kernel) rfl rfl rfl ⟨fun f => ⟨KOk.rcall (.mk' rfl rfl rfl rfl rfl) (by have h := ih f' rfl k' (by omega) (by omega) r2 rb lb (.own 166 6 v :: .blk b5 166 [.i n, .i a, pv, .i c, .i z, .as (.sl 6 (ks.map Fcells)) v] :: .blk b4 166 [.val (.int .i64 0), .val (.int .i64 0), nilA, .val (.int .i64 0), .val (.int .i64 0), nilA] :: Hx); rwa [hw] at h) (fun _ => rfl) (fun _ => rfl), (by intro v q hq; rcases q with _ | _ | _ | _ | _ | _ | q <;> first | rfl | (cases hq))⟩, trivial⟩ ?_
      refine UD.popK [[true]] rfl (by decide +kernel) rfl rfl rfl ⟨fun f => POp.le (x := .sl 6 [Fcells w]) (POp.row rfl rfl (by first | rfl | simp_all [strip]) rfl rfl rfl rfl rfl rfl) (AVle.refl _), trivial⟩ ?_
      refine UD.nil (fun f => ?_)
      simp only [kvals, List.map_cons, List.map_nil, List.cons_append, List.nil_append]
      refine DP.tailC 6 (by decide +kernel) rfl ?_
      refine OL.appendC rfl rfl rfl rfl rfl rfl rfl rfl (AVle.refl _) (rfl) (fun v => by repeat (first | exact Upd.head _ _ _ | apply Upd.tail)) ((by simp only [List.length_map, List.length_singleton]; omega)) ((by simp only [List.length_map, List.length_singleton]; omega)) (fun v61 => ?_)
      refine Ofa ?_; refine Sto ?_; refine S4 ?_; refine Oar ?_; refine Omv ?_; refine S1 ?_
      rw [rows_snoc Fcells]
      exact ag ⟨i + 1, ks ++ [w], k3, r3, v61, rfl, rfl, hil, by rw [List.length_append, hkl]; rfl, by omega, ht3⟩
    ·
     replace h8 := nm h8
     obtain rfl : kd = i := by omega
     have he2 := times_end ht
     rw [thenR_some he2] at he
     refine S7 ?_; refine Ola ?_
     apply OL.stoC rfl rfl rfl rfl rfl rfl rfl (by rcases hpv with ⟨rfl, _⟩ | rfl <;> rfl) (by rcases hpv with ⟨rfl, _⟩ | rfl <;> rfl) rfl
     (case hu => repeat (first | exact Upd.head _ _ _ | apply Upd.tail)); (case hfit => rfl); (case hds => rfl)
     refine S3 ?_
     refine Done.retR (rs := [.cell 4 166]) (H' := rdr rb r2 :: .blk lb 3 [.i k'] :: Hx) rfl ((by first | exact .cellA inferInstance rfl (by repeat (first | exact .head _ | refine .tail _ ?_)) rfl rfl (.nil) | exact .ptrA inferInstance rfl rfl (.nil))) (.cons (AVle.agg (.cons (.refl _) (.cons (.refl _) (.cons (show AVle pv (AV.ints ps) by rcases hpv with ⟨rfl, rfl⟩ | rfl; exact AVle.nil 1; exact .refl _) (.cons (.refl _) (.cons (.refl _) (.cons ((AVle.asL _ _).trans (AVle_facts _ rfl)) .nil))))))) .nil) (by exact .cons_cons _ (.cons_cons _ (.cons _ (.cons _ (.cons _ (.refl _)))))) ?_
     exact by rw [he]; rfl
 ·
  obtain rfl : left = 0 := by omega
  refine OL.rcallN rfl rfl (.mk' rfl rfl rfl rfl rfl) (q71f (by rfl) _) wrong_c ?_
  exact outP (P := Tryz.prog) (fn := Tryz.f190) wrong_c (.cons _ (.cons _ (.cons _ (.refl _)))) ⟨by rw [factR_zero]; rfl, rfl, rfl⟩
theorem factRC : ∀ (f left : Nat), left ≤ f → left ≤ 1000 → ∀ (l : List U8) (rb lb : Nat) (Hx : List Ent), RCall Tryz.prog 190 [.p rb 0, .p lb 0] (rdr rb l :: .blk lb 3 [.i left] :: Hx) ((factR f left l).map fun q => (AV.fact q.1, rdr rb q.2.2 :: .blk lb 3 [.i q.2.1] :: Hx)) Hx wrongA
 | 0 => fun left h1 h2 l rb lb Hx => factC_step (fun f' h => by omega) left h1 h2 l rb lb Hx
 | f + 1 => fun left h1 h2 l rb lb Hx => factC_step (fun f' h => by (obtain rfl : f = f' := by omega); exact factRC f) left h1 h2 l rb lb Hx
theorem mthC {σ : Type} (s : σ) (l : List U8) (rb : Nat) (Hx : List Ent) : RCall Tryz.prog 139 [.p rb 0] (rdr rb l :: Hx) ((mthR s l).map fun p => (.agg (mthA p.1), rdr rb p.2.2 :: Hx)) Hx wrongA := by
 refine ACall.mk' (n := 18) Tryz.func139 rfl (by kernel_rfl) rfl rfl (fun B I w0 => ?_)
 refine S2 ?_
 refine OL.alC rfl rfl rfl rfl (fun b2 => ?_)
 refine S4 ?_
 refine OL.alC rfl rfl rfl rfl (fun b3 => ?_)
 refine S3 ?_
 refine CW.perm (List.perm_append_comm_assoc [_, _] [_] _) ?_
 refine S1 ?_; refine Omv ?_
 rcases h1 : numberR l with _ | ⟨k, l1⟩
 ·
  refine OL.rcallN rfl rfl (.mk' rfl rfl rfl rfl rfl) (q134n h1 _ _) wrong_c ?_
  exact outP (P := Tryz.prog) (fn := Tryz.f139) wrong_c (.cons _ (.cons _ (.refl _))) ⟨by rw [mthR, thenR_none (numR_none h1)]; rfl, rfl, rfl⟩
 ·
  have hv : mthR s l = _ := thenR_some (numR_some h1)
  refine OL.rcallS rfl rfl rfl (.mk' rfl rfl rfl rfl rfl) (q134s h1 _ _) ?_
  refine Ofa ?_; refine Sto ?_; refine S4 ?_; refine Omv ?_
  rcases h2 : numberR l1 with _ | ⟨g, l2⟩
  ·
   refine OL.rcallN rfl rfl (.mk' rfl rfl rfl rfl rfl) (q134n h2 _ _) wrong_c ?_
   exact outP (P := Tryz.prog) (fn := Tryz.f139) wrong_c (.cons _ (.cons _ (.refl _))) ⟨by rw [hv, thenR_none (numR_none h2)]; rfl, rfl, rfl⟩
  ·
   rw [thenR_some (numR_some h2)] at hv
   refine OL.rcallS rfl rfl rfl (.mk' rfl rfl rfl rfl rfl) (q134s h2 _ _) ?_
   refine Ofa ?_; refine Sto ?_; refine S4 ?_
   refine OL.alC rfl rfl rfl rfl (fun b4 => ?_)
   refine Sto ?_; refine S3 ?_
   refine CW.perm (List.Perm.swap _ _ _) ?_
   refine S1 ?_; refine Omv ?_
   rcases h3 : factR 24 24 l2 with _ | ⟨x, k3, l3⟩
   ·
    refine OL.rcallN rfl rfl (.mk' rfl rfl rfl rfl rfl) (by have h := factRC 24 24 (by omega) (by omega) l2 rb b4 (.blk b3 168 [.i k, .i g, .val (.int .i64 0), .val (.int .i64 0), nilA, .val (.int .i64 0), .val (.int .i64 0), nilA, .val (.int .i64 0)] :: .blk b2 168 [.val (.int .i64 0), .val (.int .i64 0), .val (.int .i64 0), .val (.int .i64 0), nilA, .val (.int .i64 0), .val (.int .i64 0), nilA, .val (.int .i64 0)] :: Hx); rwa [h3] at h) wrong_c ?_
    exact outP (P := Tryz.prog) (fn := Tryz.f139) wrong_c (.cons _ (.cons _ (.refl _))) ⟨by rw [hv, h3]; rfl, rfl, rfl⟩
   ·
    rw [h3] at hv
    refine OL.rcallS rfl rfl rfl (.mk' rfl rfl rfl rfl rfl) (by have h := factRC 24 24 (by omega) (by omega) l2 rb b4 (.blk b3 168 [.i k, .i g, .val (.int .i64 0), .val (.int .i64 0), nilA, .val (.int .i64 0), .val (.int .i64 0), nilA, .val (.int .i64 0)] :: .blk b2 168 [.val (.int .i64 0), .val (.int .i64 0), .val (.int .i64 0), .val (.int .i64 0), nilA, .val (.int .i64 0), .val (.int .i64 0), nilA, .val (.int .i64 0)] :: Hx); rwa [h3] at h) ?_
    refine Ofa ?_; refine Sto ?_; refine S4 ?_; refine Omv ?_
    rcases h4 : numberR l3 with _ | ⟨n, l4⟩
    ·
     refine OL.rcallN rfl rfl (.mk' rfl rfl rfl rfl rfl) (q134n h4 _ _) wrong_c ?_
     exact outP (P := Tryz.prog) (fn := Tryz.f139) wrong_c (.cons _ (.cons _ (.cons _ (.refl _)))) ⟨by rw [hv]; dsimp only; rw [thenR_none (numR_none h4)]; rfl, rfl, rfl⟩
    ·
     replace hv : mthR s l = some (⟨k, g, x, n⟩, s, l4) := by rw [hv]; dsimp only; rw [thenR_some (numR_some h4)]; rfl
     refine OL.rcallS rfl rfl rfl (.mk' rfl rfl rfl rfl rfl) (q134s h4 _ _) ?_
     refine Ofa ?_; refine Sto ?_; refine S4 ?_; refine Ola ?_; refine Sto ?_; refine S3 ?_
     refine Done.retR (rs := [.cell 2 168]) (H' := rdr rb l4 :: Hx) rfl ((by first | exact .cellA inferInstance rfl (by repeat (first | exact .head _ | refine .tail _ ?_)) rfl rfl (.nil) | exact .ptrA inferInstance rfl rfl (.nil))) (AVleL.refl _) (by exact .cons_cons _ (.cons _ (.cons _ (.cons _ (.refl _))))) ?_
     exact by rw [hv]; rfl
theorem mthOkR {σ : Type} (rb : Nat) : RdOk Tryz.prog rb (noS (σ := σ)) (.fn (.func 139) [.p rb 0] []) mthR (fun x => .agg (mthA x)) noI := .of (fun _ _ _ _ _ _ _ => trivial) fun s l Hx _ => mthC s l rb Hx
theorem thOkR {p : Prog} (hp : p.Small) {σ : Type} (rb : Nat) : RdOk Tryz.prog rb (noS (σ := σ)) (.fn (.func 146) [] [.ptr [.p rb 0], .ptr (progC p)]) (thR p) (fun x => .agg (thA x)) noI := .of (fun _ _ _ _ _ _ _ => trivial) fun s l Hx _ => thingR hp s l rb Hx
theorem valOkR {σ : Type} (rb : Nat) : RdOk Tryz.prog rb (noS (σ := σ)) (.fn (.func 91) [.p rb 0] []) valR (fun x => AV.mv x) noI := .of (fun _ _ _ _ _ _ _ => trivial) fun s l Hx _ => valueR s l rb Hx
theorem ndOkR (rb pb : Nat) (A Sv Bv Cv Dv : AV) (gens : List Int) : RdOk Tryz.prog rb (fun _ : Unit => [.blk pb 27 [A, Sv, AV.ints gens, Bv, Cv, Dv]]) (.fn (.func 141) [] [.ptr [.p rb 0], .p pb 0]) (ndR gens) (fun x => AV.nd x) noI := .of (fun _ _ _ _ _ _ _ => trivial) fun s l Hx _ => nodeR l A Sv Bv Cv Dv gens rb pb Hx
theorem objectsR {p : Prog} (hp : p.Small) {σ : Type} (s : σ) (l : List U8) (rb : Nat) (Hx : List Ent) : RCall Tryz.prog 73 [.p rb 0, AV.prog p] (rdr rb l :: Hx) ((listR (thR p) s l).map fun q => (AV.ths q.1, rdr rb q.2.2 :: Hx)) Hx wrongA := by
 refine ACall.mk' (n := 8) Tryz.func73 rfl (by kernel_rfl) rfl rfl (fun B I w0 => ?_)
 refine S2 ?_; refine Obx ?_; refine Obx ?_; refine Oas ?_; refine S4 ?_; refine Old ?_; refine Omf ?_
 rcases h1 : listR (thR p) s l with _ | ⟨ts, s1, l1⟩
 ·
  refine OL.rcallN rfl rfl (.mk' rfl rfl rfl rfl rfl) (by have h := listT (thOkR hp (σ := σ) rb) s l (fun _ _ _ => trivial) Hx; rwa [h1] at h) wrong_c ?_
  exact outP (P := Tryz.prog) (fn := Tryz.f73) wrong_c (.refl _) ⟨rfl, rfl, rfl⟩
 ·
  refine OL.rcallS rfl rfl rfl (.mk' rfl rfl rfl rfl rfl) (by have h := listT (thOkR hp (σ := σ) rb) s l (fun _ _ _ => trivial) Hx; rwa [h1] at h) ?_
  refine Oas ?_; refine S3 ?_
  refine r1 4 (rdr rb l1 :: Hx) ?_
  exact rfl
theorem programR (l : List U8) (hl : l.length ≤ 1048576) (rb : Nat) (Hx : List Ent) : RCall Tryz.prog 69 [.p rb 0] (rdr rb l :: Hx) ((progR l).map fun p => (AV.prog p.1, rdr rb p.2 :: Hx)) Hx wrongA := by
 refine ACall.mk' (n := 26) Tryz.func69 rfl (by kernel_rfl) rfl rfl (fun B I w0 => ?_)
 refine S2 ?_; refine Obx ?_
 refine OL.alC rfl rfl rfl rfl (fun b2 => ?_)
 refine S4 ?_
 refine OL.alC rfl rfl rfl rfl (fun b3 => ?_)
 refine S3 ?_
 refine CW.perm (List.perm_append_comm_assoc [_, _] [_] _) ?_
 refine S1 ?_; refine Old ?_; refine Omf ?_
 rcases h1 : listR clsR 0 l with _ | ⟨cs, s, l1⟩
 ·
  refine OL.rcallN rfl rfl (.mk' rfl rfl rfl rfl rfl) (by have h := listC (clsOkR rb b3) 0 l (fun n l1 h => by have := many_less h; unfold clsI; omega) (.blk b2 27 [nilA, .val (.int .i64 0), nilA, nilA, nilA, .val (.int .i64 0)] :: Hx); rwa [h1] at h) wrong_c ?_
  exact outP (P := Tryz.prog) (fn := Tryz.f69) wrong_c (.cons _ (.refl _)) ⟨by rw [progR, h1]; rfl, rfl, rfl⟩
 ·
  have hv := progR_some h1
  rw [progT] at hv
  refine OL.rcallS rfl rfl rfl (.mk' rfl rfl rfl rfl rfl) (by have h := listC (clsOkR rb b3) 0 l (fun n l1 h => by have := many_less h; unfold clsI; omega) (.blk b2 27 [nilA, .val (.int .i64 0), nilA, nilA, nilA, .val (.int .i64 0)] :: Hx); rwa [h1] at h) ?_
  refine Ofa ?_; refine Sto ?_; refine S4 ?_; refine Old ?_; refine Old ?_; refine Omf ?_
  rcases h2 : listR numR () l1 with _ | ⟨gs, u2, l2⟩
  ·
   refine OL.rcallN rfl rfl (.mk' rfl rfl rfl rfl rfl) (listI_n h2 rb _) wrong_c ?_
   exact outP (P := Tryz.prog) (fn := Tryz.f69) wrong_c (.cons _ (.cons _ (.refl _))) ⟨by rw [hv, thenR_none h2]; rfl, rfl, rfl⟩
  ·
   obtain rfl : u2 = () := rfl
   rw [thenR_some h2] at hv
   refine OL.rcallS rfl rfl rfl (.mk' rfl rfl rfl rfl rfl) (listI_s h2 rb _) ?_
   refine Ofa ?_; refine Sto ?_; refine S4 ?_; refine Old ?_; refine Old ?_; refine Omf ?_
   rcases h3 : listR mthR () l2 with _ | ⟨ms, u3, l3⟩
   ·
    refine OL.rcallN rfl rfl (.mk' rfl rfl rfl rfl rfl) (by have h := listM (mthOkR (σ := Unit) rb) () l2 (fun _ _ _ => trivial) (.blk b3 27 [.sl 3 (cs.map clsA), .i s, AV.ints gs, nilA, nilA, .val (.int .i64 0)] :: .blk b2 27 [nilA, .val (.int .i64 0), nilA, nilA, nilA, .val (.int .i64 0)] :: Hx); rwa [h3] at h) wrong_c ?_
    exact outP (P := Tryz.prog) (fn := Tryz.f69) wrong_c (.cons _ (.cons _ (.refl _))) ⟨by rw [hv, thenR_none h3]; rfl, rfl, rfl⟩
   ·
    obtain rfl : u3 = () := rfl
    rw [thenR_some h3] at hv
    refine OL.rcallS rfl rfl rfl (.mk' rfl rfl rfl rfl rfl) (by have h := listM (mthOkR (σ := Unit) rb) () l2 (fun _ _ _ => trivial) (.blk b3 27 [.sl 3 (cs.map clsA), .i s, AV.ints gs, nilA, nilA, .val (.int .i64 0)] :: .blk b2 27 [nilA, .val (.int .i64 0), nilA, nilA, nilA, .val (.int .i64 0)] :: Hx); rwa [h3] at h) ?_
    refine Ofa ?_; refine Sto ?_; refine S4 ?_; refine Old ?_; refine Omf ?_
    rcases h4 : listR (ndR gs) () l3 with _ | ⟨ns, u4, l4⟩
    ·
     refine OL.rcallN rfl rfl (.mk' rfl rfl rfl rfl rfl) (by have h := listD (ndOkR rb b3 (.sl 3 (cs.map clsA)) (.i s) (.sl 9 (ms.map mthA)) nilA (.val (.int .i64 0)) gs) () l3 (fun _ _ _ => trivial) (.blk b2 27 [nilA, .val (.int .i64 0), nilA, nilA, nilA, .val (.int .i64 0)] :: Hx); rwa [h4] at h) wrong_c ?_
     exact outP (P := Tryz.prog) (fn := Tryz.f69) wrong_c (.cons _ (.refl _)) ⟨by rw [hv, thenR_none h4]; rfl, rfl, rfl⟩
    ·
     obtain rfl : u4 = () := rfl
     rw [thenR_some h4] at hv
     refine OL.rcallS rfl rfl rfl (.mk' rfl rfl rfl rfl rfl) (by have h := listD (ndOkR rb b3 (.sl 3 (cs.map clsA)) (.i s) (.sl 9 (ms.map mthA)) nilA (.val (.int .i64 0)) gs) () l3 (fun _ _ _ => trivial) (.blk b2 27 [nilA, .val (.int .i64 0), nilA, nilA, nilA, .val (.int .i64 0)] :: Hx); rwa [h4] at h) ?_
     refine Ofa ?_; refine Sto ?_; refine S4 ?_; refine Old ?_
     rcases h5 : numberR l4 with _ | ⟨n, l5⟩
     ·
      refine OL.rcallN rfl rfl (.mk' rfl rfl rfl rfl rfl) (q134n h5 _ _) wrong_c ?_
      exact outP (P := Tryz.prog) (fn := Tryz.f69) wrong_c (.cons _ (.cons _ (.refl _))) ⟨by rw [hv, thenR_none (numR_none h5)]; rfl, rfl, rfl⟩
     ·
      rw [thenR_some (numR_some h5)] at hv
      refine OL.rcallS rfl rfl rfl (.mk' rfl rfl rfl rfl rfl) (q134s h5 _ _) ?_
      refine Ofa ?_; refine Sto ?_; refine S4 ?_; refine Ola ?_; refine Sto ?_; refine S3 ?_
      refine Done.retR (rs := [.cell 2 27]) (H' := rdr rb l5 :: Hx) rfl ((by first | exact .cellA inferInstance rfl (by repeat (first | exact .head _ | refine .tail _ ?_)) rfl rfl (.nil) | exact .ptrA inferInstance rfl rfl (.nil))) (AVleL.refl _) (by exact .cons_cons _ (.cons _ (.cons _ (.refl _)))) ?_
      exact by rw [hv]; rfl
theorem tryC {g : Fn} {gs gc : List AV} {H : List Ent} {A Bp : List Ent → Prop} (hdo : ∀ B Hy, VCall B Tryz.prog (.fn g gs gc) [] (H ++ Hy) (fun _ H' => ∃ H1, H' = H1 ++ Hy ∧ A H1) (fun y H' => y = wrongA ∧ ∃ Hf, H' = Hf ++ Hy ∧ Bp Hf)) :
  ACall Tryz.prog 66 [.fn g gs gc] H (fun x H' => (x = .b true ∧ A H') ∨ (x = .b false ∧ Bp H')) (fun _ _ => False) := by
 refine ACall.mkD (n := 6) Tryz.func66 rfl (by kernel_rfl) rfl rfl (fun B I w0 => ?_)
 refine S2 ?_
 refine OL.alC rfl rfl rfl rfl (fun tb => ?_)
 refine S4 ?_; refine Omf ?_
 refine OL.deferC (vs := [.pointer (some ⟨tb, 0, none⟩)]) rfl rfl rfl rfl rfl rfl ?_
 refine S3 ?_
 refine CW.perm (List.perm_append_singleton _ _).symm ?_
 refine S1 ?_; refine Omv ?_
 refine OL.vcall rfl rfl rfl rfl rfl rfl rfl (AVleL.refl _) (hdo B [.blk tb 4 [.b false]]) ?_ ?_
 ·
  rintro y _ ⟨H1, rfl, hA⟩
  refine S3 ?_
  refine CW.perm (List.perm_append_singleton _ _) ?_
  refine S1 ?_; refine Sto ?_; refine S3 ?_
  intro a w s
  exact ret_f66 (.inl ⟨rfl, hA⟩) s rfl
 ·
  rintro y H2 ⟨rfl, Hf, rfl, hB⟩ a w s I v hv
  rw [wrong_c.is _ _ _ hv]
  exact pan_f66 (.inr ⟨rfl, hB⟩) (s.perm (List.perm_append_singleton _ _)) rfl
def kindOk (L : List Sec) (kinds : List Int) (i : Nat) : Bool := (((L.getD i default).kind.val : Int) == kinds.getD i default) && !(L.getD i default).damaged
def bodiesR (b : List U8) (second : U8) (kinds : List Int) : Option (List (List U8)) := match splitR b with
 | none => none
 | some (x, L) => if x = second ∧ L.length = kinds.length ∧ (List.range L.length).all (kindOk L kinds) = true then some (L.map (·.body)) else none
abbrev rdsE (rds : List (Nat × List U8)) : List Ent := rds.reverse.map fun q => rdr q.1 q.2
abbrev rdsA (rds : List (Nat × List U8)) : AV := .sl 1 (rds.map fun q => [.p q.1 0])
theorem bodies_no1 {b : List U8} {second : U8} {kinds : List Int} (h : splitR b = none) : bodiesR b second kinds = none := by rw [bodiesR, h]
theorem bodies_no2 {b : List U8} {second : U8} {kinds : List Int} {x : U8} {L : List Sec} (h : splitR b = some (x, L)) (h2 : ¬ (x = second ∧ L.length = kinds.length)) : bodiesR b second kinds = none := by
 rw [bodiesR, h]; exact if_neg fun h3 => h2 ⟨h3.1, h3.2.1⟩
theorem bodies_no3 {b : List U8} {second : U8} {kinds : List Int} {x : U8} {L : List Sec} (h : splitR b = some (x, L)) {i : Nat} (hi : i < L.length) (h2 : kindOk L kinds i = false) : bodiesR b second kinds = none := by
 rw [bodiesR, h]; exact if_neg fun h3 => by rw [range_all hi h2] at h3; cases h3.2.2
theorem bodies_yes {b : List U8} {second : U8} {kinds : List Int} {x : U8} {L : List Sec} (h : splitR b = some (x, L)) (h1 : x = second ∧ L.length = kinds.length) (h2 : (List.range L.length).all (kindOk L kinds) = true) : bodiesR b second kinds = some (L.map (·.body)) := by
 rw [bodiesR, h]; exact if_pos ⟨h1.1, h1.2, h2⟩
theorem u8_eq (x y : U8) : ((x.val : Int) == (y.val : Int)) = decide (x = y) := by
 rw [Bool.eq_iff_iff, beq_iff_eq, decide_eq_true_eq, Fin.ext_iff]; omega
theorem bodiesC (b : List U8) (hl : b.length ≤ 1048576) (second : U8) (kinds : List Int) (hk : kinds.length ≤ 10) (H : List Ent) : ACall Tryz.prog 68 [u8s b, u8 second, AV.ints kinds] H (fun y H' => ∃ rds, bodiesR b second kinds = some (rds.map (·.2)) ∧ y = rdsA rds ∧ H' = rdsE rds ++ H)
  (fun y H' => bodiesR b second kinds = none ∧ y = wrongA ∧ H' = H) := by
 refine ACall.mk' (n := 57) Tryz.func68 rfl (by kernel_rfl) rfl rfl (fun B I w0 => ?_)
 refine S2 ?_; refine Oas ?_; refine S4 ?_; refine Omv ?_
 rcases hq : splitR b with _ | ⟨x, L⟩
 ·
  refine OL.rcallN rfl rfl (.mk' rfl rfl rfl rfl rfl) (by have h := q77 b hl H; rwa [splitO, hq] at h) wrong_c ?_
  exact outP (P := Tryz.prog) (fn := Tryz.f68) wrong_c (.refl _) ⟨bodies_no1 hq, rfl, rfl⟩
 ·
  refine OL.rcallS rfl rfl rfl (.mk' rfl rfl rfl rfl rfl) (by have h := q77 b hl H; rwa [splitO, hq] at h) ?_
  refine Omv ?_; refine Oex ?_; refine Oex ?_; refine Oas ?_; refine Oas ?_; refine S4 ?_; refine Omv ?_; refine Omv ?_; refine Ocm ?_; refine Omv ?_; refine Pmv ?_; refine Pln ?_
  refine Pmv ?_; refine Pln ?_; refine Pcm ?_; refine Opk ?_
  by_cases h1 : x = second ∧ L.length = kinds.length
  ·
   refine OL.rcallS rfl rfl rfl (.mk' rfl rfl rfl rfl rfl) (q71t (by rw [u8_eq, h1.1, h1.2]; simp) _) ?_
   refine S4 ?_; refine Oas ?_; refine S5 ?_; refine Omv ?_; refine Oln ?_; refine Omv ?_; refine S3 ?_
   have hL10 : L.length ≤ 10 := by omega
   refine CW.ownNil 9 104 1 rfl ?_
   refine lj (fun m st => ∃ (i : Nat) (rds : List (Nat × List U8)) (v : Value), st = ⟨[(30, .i i), (29, .i L.length), (28, secs L), (9, .as (rdsA rds) v), (2, AV.ints kinds)], .own 104 1 v :: (rdsE rds ++ H)⟩ ∧ m = L.length - i ∧ i ≤ L.length ∧ rds.map (·.2) = (L.take i).map (·.body) ∧ (List.range i).all (kindOk L kinds) = true) (⟨0, [], _, rfl, rfl, by omega, rfl, rfl⟩) ?_
   rintro m _ ⟨i, rds, v, rfl, rfl, hi, hr, hA⟩
   have hrl := congrArg List.length hr
   rw [List.length_map, List.length_map, List.length_take] at hrl
   refine S2 ?_; refine Ocm ?_; refine S3 ?_
   refine CW.cond rfl (fun h0 => ?_) (fun h0 => ?_)
   ·
    replace h0 := nm h0
    have hil : i < L.length := by omega
    obtain ⟨x, hx⟩ : ∃ x, x = L.getD i default := ⟨_, rfl⟩
    refine S6 ?_; refine Omv ?_
    refine OL.popC rfl rfl rfl ((by first | exact POp.ixM rfl rfl rfl rfl rfl hil | exact POp.ixI rfl rfl rfl rfl rfl hil)) ?_
    refine Ola ?_
    refine OL.alC rfl rfl rfl rfl (fun b0 => ?_)
    refine Oas ?_; refine Sto ?_; refine S3 ?_
    rw [← hx]
    refine CW.freezeP (d := 11) rfl (by repeat (first | exact Del.head _ _ | apply Del.tail)) ?_
    refine CW.dp mixed ?_
    refine DP.anyC 0 6 57 rfl (by decide +kernel) rfl rfl (by decide +kernel) ?_
    refine Afa ?_; refine Ald ?_; refine Amv ?_; refine Amv ?_; refine Aix ?_; refine Ald ?_
    refine AD.nil ?_
    refine DP.tailC 6 (by decide +kernel) rfl ?_
    refine Ocm ?_; refine Omv ?_; refine Pfa ?_; refine Pld ?_; refine Pnt ?_; refine Opk ?_
    cases hko : kindOk L kinds i
    ·
     have hko2 := hko
     rw [kindOk, ← hx] at hko2
     refine OL.rcallN rfl rfl (.mk' rfl rfl rfl rfl rfl) (q71f (by rw [Bool.cond_false_right]; exact hko2) _) wrong_c ?_
     exact outP (P := Tryz.prog) (fn := Tryz.f68) wrong_c (.cons _ (List.sublist_append_right _ _)) ⟨bodies_no3 hq hil hko, rfl, rfl⟩
    ·
     have hko2 := hko
     rw [kindOk, ← hx] at hko2
     refine OL.rcallS rfl rfl rfl (.mk' rfl rfl rfl rfl rfl) (q71t (by rw [Bool.cond_false_right]; exact hko2) _) ?_
     refine S3 ?_; refine Omv ?_; refine Ofa ?_; refine Old ?_; refine Obd ?_
     refine OL.boxC rfl rfl rfl rfl rfl rfl rfl (fun rb => ?_)
     refine OL.perm (List.Perm.swap _ _ _) ?_
     refine OL.popC (x := .sl 1 [[.p rb 0]]) rfl rfl rfl (POp.row rfl rfl (by first | rfl | simp_all [strip]) rfl rfl rfl rfl rfl rfl) ?_
     refine OL.appendC rfl rfl rfl rfl rfl rfl rfl rfl (AVle.refl _) (rfl) (fun v => by repeat (first | exact Upd.head _ _ _ | apply Upd.tail)) ((by simp only [List.length_map, List.length_singleton]; omega)) ((by simp only [List.length_map, List.length_singleton]; omega)) (fun v54 => ?_)
     refine Oas ?_; refine S4 ?_; refine Oar ?_; refine Omv ?_; refine S1 ?_
     rw [rows_snoc (fun q : Nat × List U8 => [AV.p q.1 0]) rds (rb, x.body)]
     exact ag ⟨i + 1, rds ++ [(rb, x.body)], v54, by rw [rdsE, List.reverse_append], rfl, hil, by rw [List.map_append, hr, map_take1 (·.body) hil, ← hx]; rfl, range_step hA hko⟩
   ·
    replace h0 := nm h0
    obtain rfl : i = L.length := by omega
    rw [List.take_length] at hr
    refine S7 ?_; refine Omv ?_; refine Oas ?_; refine S3 ?_
    refine Done.retR (rs := [.tmp 6]) (H' := rdsE rds ++ H) rfl (.tmp rfl (.nil)) (.cons (AVle.asL _ _) .nil) (by repeat (first | exact List.Sublist.refl _ | refine List.Sublist.cons _ ?_)) ?_
    exact ⟨rds, by rw [bodies_yes hq h1 hA, hr], rfl, rfl⟩
  ·
   refine OL.rcallN rfl rfl (.mk' rfl rfl rfl rfl rfl) (q71f (by rw [u8_eq]; simp; intro e; exact fun e2 => h1 ⟨e, by omega⟩) _) wrong_c ?_
   exact outP (P := Tryz.prog) (fn := Tryz.f68) wrong_c (.refl _) ⟨bodies_no2 hq h1, rfl, rfl⟩
theorem times_all {σ α : Type} {R : Rd σ α} (hR : Less R) {M : Nat} {Q : α → Prop} (hQ : ∀ s l y s' l', l.length ≤ M → R s l = some (y, s', l') → Q y) : ∀ (n : Nat) (s : σ) (l : List U8) (ys : List α) (s' : σ) (l' : List U8), l.length ≤ M → timesR R n s l = some (ys, s', l') → ys.length = n ∧ ∀ y ∈ ys, Q y
 | 0, s, l, ys, s', l', hl, h => by cases h; exact ⟨rfl, by simp⟩
 | n + 1, s, l, ys, s', l', hl, h => by
  rw [timesR] at h
  split at h
  ·cases h
  ·rename_i a s1 l1 h2
   split at h
   ·cases h
   ·rename_i b s2 l2 h3
    cases h
    have := hR _ _ _ _ _ h2
    obtain ⟨h4, h5⟩ := times_all hR hQ n _ _ _ _ _ (by omega) h3
    refine ⟨by simp [h4], fun y hy => ?_⟩
    rcases List.mem_cons.1 hy with rfl | hy
    ·exact hQ _ _ _ _ _ hl h2
    ·exact h5 y hy
theorem many_le {l : List U8} {n : Nat} {r : List U8} (h : manyR l = some (n, r)) : n ≤ l.length := by
 have h1 := many_less h
 unfold manyR at h
 rcases hq : numberR l with _ | ⟨a, b⟩ <;> rw [hq] at h
 ·cases h
 ·simp only at h
  split at h
  ·cases h; omega
  ·cases h
theorem list_all {σ α : Type} {R : Rd σ α} (hR : Less R) {M : Nat} {Q : α → Prop} (hQ : ∀ s l y s' l', l.length ≤ M → R s l = some (y, s', l') → Q y) {s : σ} {l : List U8} {ys : List α} {s' : σ} {l' : List U8} (hl : l.length ≤ M) (h : listR R s l = some (ys, s', l')) : ys.length ≤ l.length ∧ ∀ y ∈ ys, Q y := by
 unfold listR thenR at h
 split at h
 ·cases h
 ·rename_i n s1 l1 h1
  unfold manyRd at h1
  split at h1
  ·cases h1
  ·rename_i h2
   cases h1
   have h3 := many_less h2
   have h4 := many_le h2
   obtain ⟨h5, h6⟩ := times_all hR hQ n _ _ _ _ _ (by omega) h
   exact ⟨by omega, h6⟩
theorem cls_of {s : Int} {l : List U8} {y : Cls} {s' : Int} {l' : List U8} (h : clsR s l = some (y, s', l')) : l'.length ≤ l.length ∧ y.parents.length ≤ l.length := by
 unfold clsR thenR at h
 split at h
 ·cases h
 ·rename_i ps s1 l1 h1
  have h2 := Less.list Less.num _ _ _ _ _ h1
  have h9 := (list_all (M := l.length) (Q := fun _ => True) Less.num (fun _ _ _ _ _ _ _ => trivial) (Nat.le_refl _) h1).1
  dsimp only at h
  split at h
  ·cases h
  ·rename_i n s2 l2 h3
   unfold numR at h3
   split at h3
   ·cases h3
   ·rename_i k l3 h4
    cases h3
    have h5 := num_less h4
    unfold needR at h
    split at h
    ·dsimp only at h
     split at h
     ·cases h
     ·rename_i is s4 l4 h7
      have h8 := Less.list Less.init _ _ _ _ _ h7
      cases h
      exact ⟨by omega, h9⟩
    ·cases h
theorem prog_small {l l' : List U8} {p : Prog} (hl : l.length ≤ 1048576) (h : progR l = some (p, l')) : p.Small := by
 rcases h1 : listR clsR 0 l with _ | ⟨cs, s, l1⟩
 ·rw [progR, h1] at h; cases h
 ·rw [progR_some h1, progT] at h
  have h2 := list_all (M := 1048576) (Q := fun c : Cls => c.parents.length ≤ 4000000) (fun s l y s' l' e => (cls_of e).1) (fun s l y s' l' hM e => by have := (cls_of e).2; omega) hl h1
  obtain ⟨q, h3, h4⟩ := Option.map_eq_some_iff.1 h
  have h5 : q.1.classes = cs := by
   unfold thenR at h3
   split at h3
   ·cases h3
   ·simp only at h3
    split at h3
    ·cases h3
    ·split at h3
     ·cases h3
     ·split at h3
      ·cases h3
      ·cases h3; rfl
  cases h4
  exact ⟨by rw [h5]; omega, fun c hc => h2.2 c (by rw [← h5]; exact hc)⟩
def readR (b : List U8) : Option (Prog × List Th) := match bodiesR b 79 [1, 2] with
 | some [b1, b2] => match progR b1 with
  | none => none
  | some (p, l1) => if l1 = [] ∧ (sizesP p).isSome = true then (match listR (thR p) () b2 with
   | none => none
   | some (objs, _, l2) => if l2 = [] ∧ checkP p objs = true then some (p, objs) else none) else none
 | _ => none
theorem secs_body : ∀ (f : Nat) (l : List U8) (y : Sec), y ∈ (Im.secsR f l).1 → y.body.length ≤ l.length
 | 0, l, y, h => by simp [Im.secsR] at h
 | f + 1, [], y, h => by simp [Im.secsR] at h
 | f + 1, a :: l, y, h => by
  unfold Im.secsR at h
  split at h
  ·rename_i s r hs
   rcases List.mem_cons.1 h with rfl | h
   ·unfold Im.secR at hs
    simp only at hs
    split at hs
    ·rename_i n r1 hm
     have := many_less hm
     split at hs
     ·cases hs; simp only [List.length_take, List.length_cons]; omega
     ·cases hs
    ·cases hs
   ·have h1 := secs_body f r y h
    have h2 := Im.secR_len hs
    omega
  ·cases h
theorem split_body {b : List U8} {x : U8} {L : List Sec} (h : splitR b = some (x, L)) (y : Sec) (hy : y ∈ L) : y.body.length ≤ b.length := by
 unfold splitR at h
 split at h
 ·split at h
  ·cases h
   have := secs_body _ _ y hy
   simp only [List.length_cons]; omega
  ·cases h
 ·cases h
theorem bodies_len {b : List U8} {s : U8} {kinds : List Int} {ls : List (List U8)} (h : bodiesR b s kinds = some ls) : ls.length = kinds.length ∧ ∀ l ∈ ls, l.length ≤ b.length := by
 unfold bodiesR at h
 split at h
 ·cases h
 ·rename_i x L hq
  split at h
  ·rename_i h1
   cases h
   refine ⟨by rw [List.length_map]; exact h1.2.1, fun l hl => ?_⟩
   obtain ⟨y, hy, rfl⟩ := List.mem_map.1 hl
   exact split_body hq y hy
  ·cases h
theorem two_of {rds : List (Nat × List U8)} {k1 k2 : Int} {b : List U8} {s : U8} (h : bodiesR b s [k1, k2] = some (rds.map (·.2))) : ∃ q1 q2, rds = [q1, q2] ∧ q1.2.length ≤ b.length ∧ q2.2.length ≤ b.length := by
 obtain ⟨h1, h2⟩ := bodies_len h
 match rds, h1 with
 | [q1, q2], _ => exact ⟨q1, q2, rfl, h2 q1.2 (by simp), h2 q2.2 (by simp)⟩
theorem read_no {b b1 b2 : List U8} (h : bodiesR b 79 [1, 2] = some [b1, b2]) (h1 : progR b1 = none) : readR b = none := by rw [readR, h]; simp only [h1]
theorem read_no2 {b b1 b2 l1 : List U8} {p : Prog} (h : bodiesR b 79 [1, 2] = some [b1, b2]) (h1 : progR b1 = some (p, l1)) (h2 : ¬ (l1 = [] ∧ (sizesP p).isSome = true)) : readR b = none := by rw [readR, h]; simp only [h1]; exact if_neg h2
theorem read_go {b b1 b2 : List U8} {p : Prog} (h : bodiesR b 79 [1, 2] = some [b1, b2]) (h1 : progR b1 = some (p, [])) (h2 : (sizesP p).isSome = true) : readR b = match listR (thR p) () b2 with
   | none => none
   | some (objs, _, l2) => if l2 = [] ∧ checkP p objs = true then some (p, objs) else none := by rw [readR, h]; simp only [h1]; exact if_pos ⟨trivial, h2⟩
theorem read_none {b : List U8} (h : bodiesR b 79 [1, 2] = none) : readR b = none := by rw [readR, h]
theorem read1 (b : List U8) (hl : b.length ≤ 1048576) (pb ob : Nat) (Hx : List Ent) : ACall Tryz.prog 67 [.ptr [u8s b], .p pb 0, .p ob 0] (.blk ob 28 [nilA] :: .blk pb 27 [nilA, .val (.int .i64 0), nilA, nilA, nilA, .val (.int .i64 0)] :: Hx) (fun _ H' => ∃ p objs, readR b = some (p, objs) ∧ H' = .blk ob 28 [AV.ths objs] :: .blk pb 27 (progC p) :: Hx) (fun y H' => y = wrongA ∧ readR b = none ∧ H' = Hx) := by
 refine ACall.mk' (n := 33) Tryz.func67 rfl (by kernel_rfl) rfl rfl (fun B I w0 => ?_)
 refine S2 ?_; refine Old ?_
 refine OL.popC rfl rfl rfl (POp.row rfl rfl (by first | rfl | simp_all [strip]) rfl rfl rfl rfl rfl rfl) ?_
 refine OL.bcall rfl rfl (.mk' rfl rfl rfl rfl rfl) (bodiesC b hl 79 [1, 2] (by decide) _).b ?_ ?_
 ·
  rintro y _ ⟨rds, hb, rfl, rfl⟩
  obtain ⟨q1, q2, rfl, hq1, hq2⟩ := two_of hb
  replace hb : bodiesR b 79 [1, 2] = some [q1.2, q2.2] := hb
  refine Oas ?_; refine S3 ?_
  refine CW.eqH (H' := rdr q2.1 q2.2 :: rdr q1.1 q1.2 :: .blk ob 28 [nilA] :: .blk pb 27 [nilA, .val (.int .i64 0), nilA, nilA, nilA, .val (.int .i64 0)] :: Hx) rfl ?_
  refine CW.perm (List.Perm.swap _ _ _) ?_
  refine S1 ?_; refine Omv ?_
  refine OL.popC rfl rfl rfl ((by first | exact POp.ixM rfl rfl rfl rfl rfl (by simp) | exact POp.ixI rfl rfl rfl rfl rfl (by simp))) ?_
  refine Old ?_
  rcases hp : progR q1.2 with _ | ⟨p, l1⟩
  ·
   refine OL.rcallN rfl rfl (.mk' rfl rfl rfl rfl rfl) (by have h := programR q1.2 (by omega) q1.1 (rdr q2.1 q2.2 :: .blk ob 28 [nilA] :: .blk pb 27 [nilA, .val (.int .i64 0), nilA, nilA, nilA, .val (.int .i64 0)] :: Hx); rwa [hp] at h) wrong_c ?_
   exact outP (P := Tryz.prog) (fn := Tryz.f67) wrong_c (.cons _ (.cons _ (.cons _ (.refl _)))) ⟨rfl, read_no hb hp, rfl⟩
  ·
   have hsm := prog_small (by omega) hp
   refine OL.rcallS rfl rfl rfl (.mk' rfl rfl rfl rfl rfl) (by have h := programR q1.2 (by omega) q1.1 (rdr q2.1 q2.2 :: .blk ob 28 [nilA] :: .blk pb 27 [nilA, .val (.int .i64 0), nilA, nilA, nilA, .val (.int .i64 0)] :: Hx); rwa [hp] at h) ?_
   refine Sto ?_; refine S4 ?_; refine Omv ?_
   refine OL.popC rfl rfl rfl ((by first | exact POp.ixM rfl rfl rfl rfl rfl (by simp) | exact POp.ixI rfl rfl rfl rfl rfl (by simp))) ?_
   refine Old ?_
   by_cases hl1 : l1 = []
   ·
    subst hl1
    refine OL.rcallS rfl rfl rfl (.mk' rfl rfl rfl rfl rfl) (by have h := doneC (l := []) q1.1 (rdr q2.1 q2.2 :: .blk ob 28 [nilA] :: .blk pb 27 (progC p) :: Hx); rwa [if_pos rfl] at h) ?_
    refine S4 ?_; refine Ola ?_
    refine OL.popC rfl rfl rfl (POp.call (.mk' rfl rfl rfl rfl rfl) (checkB hsm)) ?_
    refine Ocm ?_
    cases hs : (sizesP p).isSome
    ·
     refine OL.rcallN rfl rfl (.mk' rfl rfl rfl rfl rfl) (q71f (by rfl) _) wrong_c ?_
     exact outP (P := Tryz.prog) (fn := Tryz.f67) wrong_c (.cons _ (.cons _ (.cons _ (.refl _)))) ⟨rfl, read_no2 hb hp (fun h => by rw [hs] at h; cases h.2), rfl⟩
    ·
     have hv := read_go hb hp hs
     refine OL.rcallS rfl rfl rfl (.mk' rfl rfl rfl rfl rfl) (q71t (by rfl) _) ?_
     refine S3 ?_
     refine CW.dp mixed ?_
     refine DP.anyC 0 4 33 rfl (by decide +kernel) rfl rfl (by decide +kernel) ?_
     refine Amv ?_
     refine AD.popC rfl rfl rfl ((by first | exact POp.ixM rfl rfl rfl rfl rfl (by simp) | exact POp.ixI rfl rfl rfl rfl rfl (by simp))) ?_
     refine Ald ?_; refine Ala ?_
     refine AD.nil ?_
     refine DP.tailC 4 (by decide +kernel) rfl ?_
     rcases ht : listR (thR p) () q2.2 with _ | ⟨objs, u, l2⟩
     ·
      refine OL.rcallN rfl rfl (.mk' rfl rfl rfl rfl rfl) (by have h := objectsR hsm () q2.2 q2.1 (.blk ob 28 [nilA] :: .blk pb 27 (progC p) :: Hx); rwa [ht] at h) wrong_c ?_
      exact outP (P := Tryz.prog) (fn := Tryz.f67) wrong_c (.cons _ (.cons _ (.refl _))) ⟨rfl, by rw [hv, ht], rfl⟩
     ·
      rw [ht] at hv
      dsimp only at hv
      refine OL.rcallS rfl rfl rfl (.mk' rfl rfl rfl rfl rfl) (by have h := objectsR hsm () q2.2 q2.1 (.blk ob 28 [nilA] :: .blk pb 27 (progC p) :: Hx); rwa [ht] at h) ?_
      refine Sto ?_; refine S4 ?_; refine Omv ?_
      refine OL.popC rfl rfl rfl ((by first | exact POp.ixM rfl rfl rfl rfl rfl (by simp) | exact POp.ixI rfl rfl rfl rfl rfl (by simp))) ?_
      refine Old ?_
      by_cases hl2 : l2 = []
      ·
       subst hl2
       refine OL.rcallS rfl rfl rfl (.mk' rfl rfl rfl rfl rfl) (by have h := doneC (l := []) q2.1 (.blk ob 28 [AV.ths objs] :: .blk pb 27 (progC p) :: Hx); rwa [if_pos rfl] at h) ?_
       refine S3 ?_; refine Ola ?_; refine Old ?_
       refine OL.popC rfl rfl rfl (POp.call (.mk' rfl rfl rfl rfl rfl) (meanCheck hsm objs)) ?_
       refine Ocm ?_
       cases hc : checkP p objs
       ·
        refine OL.rcallN rfl rfl (.mk' rfl rfl rfl rfl rfl) (q71f (by rfl) _) wrong_c ?_
        exact outP (P := Tryz.prog) (fn := Tryz.f67) wrong_c (.cons _ (.cons _ (.refl _))) ⟨rfl, by rw [hv]; exact if_neg (fun h => by rw [hc] at h; cases h.2), rfl⟩
       ·
        refine OL.rcallS rfl rfl rfl (.mk' rfl rfl rfl rfl rfl) (q71t (by rfl) _) ?_
        refine S1 ?_
        refine Done.norR (rs := []) (H' := .blk ob 28 [AV.ths objs] :: .blk pb 27 (progC p) :: Hx) rfl (.nil) (AVleL.refl _) (by repeat (first | exact List.Sublist.refl _ | refine List.Sublist.cons _ ?_)) ?_
        exact ⟨p, objs, by rw [hv]; exact if_pos ⟨rfl, hc⟩, rfl⟩
      ·
       refine OL.rcallN rfl rfl (.mk' rfl rfl rfl rfl rfl) (by have h := doneC (l := l2) q2.1 (.blk ob 28 [AV.ths objs] :: .blk pb 27 (progC p) :: Hx); rwa [if_neg hl2] at h) wrong_c ?_
       exact outP (P := Tryz.prog) (fn := Tryz.f67) wrong_c (.cons _ (.cons _ (.refl _))) ⟨rfl, by rw [hv]; exact if_neg (fun h => hl2 h.1), rfl⟩
   ·
    refine OL.rcallN rfl rfl (.mk' rfl rfl rfl rfl rfl) (by have h := doneC (l := l1) q1.1 (rdr q2.1 q2.2 :: .blk ob 28 [nilA] :: .blk pb 27 (progC p) :: Hx); rwa [if_neg hl1] at h) wrong_c ?_
    exact outP (P := Tryz.prog) (fn := Tryz.f67) wrong_c (.cons _ (.cons _ (.cons _ (.refl _)))) ⟨rfl, read_no2 hb hp (fun h => hl1 h.1), rfl⟩
 ·
  rintro y _ ⟨hb, rfl, rfl⟩ a w st I v hv
  rw [wrong_c.is _ _ _ hv]
  exact outP (P := Tryz.prog) (fn := Tryz.f67) wrong_c (.cons _ (.cons _ (.refl _))) ⟨rfl, read_none hb, rfl⟩ a w st
def noProg : Prog := ⟨[], 0, [], [], [], 0⟩
def readA (b : List U8) : AV := match readR b with
 | some (p, objs) => .tup [AV.prog p, AV.ths objs, .i 0]
 | none => .tup [AV.prog noProg, AV.ths [], .i 4]
theorem readC (b : List U8) (hl : b.length ≤ 1048576) : PCall Tryz.prog 19 [u8s b] (readA b) := by
 intro H
 refine ACall.mk' (n := 15) Tryz.func19 rfl (by kernel_rfl) rfl rfl (fun B I w0 => ?_)
 refine S2 ?_; refine Obx ?_
 refine OL.alC rfl rfl rfl rfl (fun b2 => ?_)
 refine Oas ?_; refine Oas ?_; refine S4 ?_
 refine OL.alC rfl rfl rfl rfl (fun pb => ?_)
 refine S4 ?_
 refine OL.alC rfl rfl rfl rfl (fun ob => ?_)
 refine S4 ?_; refine Omf ?_
 refine OL.bcallC rfl rfl rfl (.mk' rfl rfl rfl rfl rfl) (tryC (H := .blk ob 28 [nilA] :: .blk pb 27 [nilA, .val (.int .i64 0), nilA, nilA, nilA, .val (.int .i64 0)] :: .blk b2 27 [nilA, .val (.int .i64 0), nilA, nilA, nilA, .val (.int .i64 0)] :: H) (A := fun H1 => ∃ p objs, readR b = some (p, objs) ∧ H1 = .blk ob 28 [AV.ths objs] :: .blk pb 27 (progC p) :: .blk b2 27 [nilA, .val (.int .i64 0), nilA, nilA, nilA, .val (.int .i64 0)] :: H) (Bp := fun Hf => readR b = none ∧ Hf = .blk b2 27 [nilA, .val (.int .i64 0), nilA, nilA, nilA, .val (.int .i64 0)] :: H) (fun B Hy => VCall.fn (ACall.weak (read1 b hl pb ob (.blk b2 27 [nilA, .val (.int .i64 0), nilA, nilA, nilA, .val (.int .i64 0)] :: H ++ Hy)) (fun y H' => ?_) (fun y H' => ?_)))).b ?_
 ·rintro ⟨p, objs, h1, rfl⟩
  exact ⟨_, rfl, p, objs, h1, rfl⟩
 ·rintro ⟨rfl, h1, rfl⟩
  exact ⟨rfl, _, rfl, h1, rfl⟩
 rintro y H1 (⟨rfl, p, objs, hr, rfl⟩ | ⟨rfl, hr, rfl⟩)
 ·
  refine Oas ?_; refine S5 ?_; refine Omv ?_; refine Ont ?_; refine S2 ?_
  refine CW.cond rfl (fun h0 => ?_) (fun h0 => ?_)
  ·
   cases h0
  ·
   refine S3 ?_
   refine CW.dp mixed ?_
   refine DP.anySC (fun sj => match sj with | 0 => .blk ob 28 [AV.ths objs] :: .blk pb 27 (progC p) :: .blk b2 27 [nilA, .val (.int .i64 0), nilA, nilA, nilA, .val (.int .i64 0)] :: H | _ => .blk ob 28 [AV.ths objs] :: .blk pb 27 (progC p) :: .blk b2 27 (progC p) :: H) [2] 0 3 15 rfl (by decide +kernel) rfl rfl rfl (by decide +kernel) rfl ?_
   refine TD.popC 0 0 (by decide +kernel) (by decide +kernel) (by decide +kernel) rfl rfl rfl (fun j hj1 hj2 => by rcases (show j = 0 by omega) with rfl <;> exact ((by first | exact POp.ldA rfl rfl rfl rfl | (apply POp.ldAH rfl rfl rfl; (case hm => repeat (first | exact .head _ | refine .tail _ ?_)); (case hy => rfl); (case hn => rfl))))) ?_
   refine TD.popC 0 1 (by decide +kernel) (by decide +kernel) (by decide +kernel) rfl rfl rfl (fun j hj1 hj2 => by rcases (show j = 0 ∨ j = 1 by omega) with rfl | rfl <;> exact ((by first | exact POp.ld1 rfl rfl rfl rfl | (apply POp.ld1H rfl rfl rfl; (case hm => repeat (first | exact .head _ | refine .tail _ ?_)); (case hy => rfl))))) ?_
   refine TD.stoC 0 (by decide +kernel) (by decide +kernel) (by decide +kernel) rfl rfl (.store rfl rfl rfl rfl rfl rfl rfl rfl (by repeat (first | exact Upd.head _ _ _ | apply Upd.tail)) (by exact rfl) (by exact rfl)) ?_
   refine TD.nil ?_
   refine DP.tailC 3 (by decide +kernel) rfl ?_
   refine Oas ?_; refine Oas ?_; refine S3 ?_
   refine Done.retR (rs := [.cell 2 27, .tmp 3, .tmp 4]) (H' := H) rfl ((by first | exact .cellA inferInstance rfl (by repeat (first | exact .head _ | refine .tail _ ?_)) rfl rfl (.tmp rfl (.tmp rfl (.nil))) | exact .ptrA inferInstance rfl rfl (.tmp rfl (.tmp rfl (.nil))))) (AVleL.refl _) (by repeat (first | exact List.Sublist.refl _ | refine List.Sublist.cons _ ?_)) ?_
   exact ⟨by rw [readA, hr]; rfl, rfl⟩
 ·
  refine Oas ?_; refine S5 ?_; refine Omv ?_; refine Ont ?_; refine S2 ?_
  refine CW.cond rfl (fun h1 => ?_) (fun h1 => ?_)
  ·
   refine S2 ?_; refine Obd ?_; refine Sto ?_; refine Oas ?_; refine Oas ?_; refine S4 ?_
   refine Done.retR (rs := [.cell 2 27, .tmp 3, .tmp 4]) (H' := H) rfl ((by first | exact .cellA inferInstance rfl (by repeat (first | exact .head _ | refine .tail _ ?_)) rfl rfl (.tmp rfl (.tmp rfl (.nil))) | exact .ptrA inferInstance rfl rfl (.tmp rfl (.tmp rfl (.nil))))) (.cons (AVle.agg (.cons (AVle.nil 3) (.cons (.refl _) (.cons (AVle.nil 1) (.cons (AVle.nil 9) (.cons (AVle.nil 3) (.cons (.refl _) .nil))))))) (.cons (AVle.nil 2) (.cons (.refl _) .nil))) (by repeat (first | exact List.Sublist.refl _ | refine List.Sublist.cons _ ?_)) ?_
   exact ⟨by rw [readA, hr]; rfl, rfl⟩
  ·
   cases h1
end Go.Proofs.YtpgnjlngepfanaaGreat
