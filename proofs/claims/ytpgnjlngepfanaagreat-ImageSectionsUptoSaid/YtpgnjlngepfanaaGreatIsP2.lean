/- Part 2 of the proof: contracts of functions of the program and what they need. No condition beyond those that each theorem names. -/
import Derived.Test.YtpgnjlngepfanaaGreatIsP1
import Derived.Maps.Keyed
import Derived.Maps.AppendAt
import Derived.OneCell
import Derived.Scope
import Derived.OpenShut
import Derived.ProofKit
import Derived.Laws.MakeOwn
import Derived.Carry
import Derived.Laws.StructEq
import Derived.ChangeKeysEq
import Derived.Deep.AppendSrc
import Derived.Laws.BytesString
import Derived.RecoverIn
set_option linter.unusedVariables false
set_option linter.unusedSimpArgs false
namespace Go.Eng
open Go.RowKit (Below)
open Go.ChangeShapes Go.WideShapes Go.ChangeAt Go.RowKit
open Go.ChangeShapes Go.WideShapes
def segChk (l : List Oper) (k m : Nat) : Bool :=
 let ms := masks l []
 (l.zipIdx.all fun p => (deps p.1).all fun j => Nat.blt j p.2) &&
 (l.zipIdx.all fun p => Nat.blt p.2 m || (List.range m).all fun j => Nat.blt j k || (ms.getD p.2 0).testBit j) &&
 ((l.take m).zipIdx.all fun p => Nat.blt p.2 k || ((l.take m).zipIdx.all fun q => match q.1.dst with
  | some d => (Nat.beq p.2 q.2 || Nat.blt q.2 k || !(match p.1.dst with | some d' => Nat.beq d d' | none => false)) && (!((looks l p.1).any (Nat.beq d)) || Nat.blt q.2 k || (Nat.blt q.2 p.2 && (ms.getD p.2 0).testBit q.2))
  | none => true))
structure SegOk (l : List Oper) (k m : Nat) : Prop where
 back : ∀ i o, l[i]? = some o → ∀ j ∈ deps o, j < i
 tail : ∀ i, m ≤ i → i < l.length → ∀ j, k ≤ j → j < m → ((masks l []).getD i 0).testBit j = true
 apart : ∀ i oi j oj d, k ≤ i → i < m → l[i]? = some oi → k ≤ j → j < m → l[j]? = some oj → oj.dst = some d → i ≠ j → oi.dst ≠ some d
 looked : ∀ i oi j oj d, k ≤ i → i < m → l[i]? = some oi → k ≤ j → j < m → l[j]? = some oj → oj.dst = some d → d ∈ looks l oi → j < i ∧ ((masks l []).getD i 0).testBit j = true
theorem segOk_of {l : List Oper} {k m : Nat} (h : segChk l k m = true) : SegOk l k m := by
 simp only [segChk, Bool.and_eq_true, List.all_eq_true] at h
 obtain ⟨⟨h1, h2⟩, h3⟩ := h
 have key : ∀ i oi j oj d, k ≤ i → i < m → l[i]? = some oi → k ≤ j → j < m → l[j]? = some oj → oj.dst = some d → (i = j ∨ oi.dst ≠ some d) ∧ (d ∈ looks l oi → j < i ∧ ((masks l []).getD i 0).testBit j = true) := by
  intro i oi j oj d hki hi hoi hkj hj hoj hd
  have hti : (l.take m)[i]? = some oi := by rw [List.getElem?_take, if_pos hi]; exact hoi
  have htj : (l.take m)[j]? = some oj := by rw [List.getElem?_take, if_pos hj]; exact hoj
  have h4 := h3 _ (mem_zipIdx_of hti)
  simp only [Bool.or_eq_true, List.all_eq_true] at h4
  have nk : ∀ x, k ≤ x → ¬ Nat.blt x k = true := fun x hx hb => by
   have := Nat.lt_of_succ_le (by simpa [Nat.blt] using hb); omega
  rcases h4 with h4 | h4
  ·exact absurd h4 (nk i hki)
  have := h4 _ (mem_zipIdx_of htj)
  simp only [hd, Bool.and_eq_true, Bool.or_eq_true, Bool.not_eq_true'] at this
  obtain ⟨ha, hb⟩ := this
  refine ⟨?_, fun hm => ?_⟩
  ·rcases ha with (ha | ha) | ha
   ·exact .inl (Nat.eq_of_beq_eq_true ha)
   ·exact absurd ha (nk j hkj)
   ·refine .inr fun e => ?_
    rw [e] at ha
    simp at ha
  ·rcases hb with (hb | hb) | hb
   ·exfalso
    rw [List.any_eq_false] at hb
    exact hb d hm (by simp)
   ·exact absurd hb (nk j hkj)
   ·exact ⟨Nat.lt_of_succ_le (by simpa [Nat.blt] using hb.1), hb.2⟩
 refine ⟨fun i o ho j hj => ?_, fun i hi hl j hkj hj => ?_, fun i oi j oj d hki hi hoi hkj hj hoj hd hne => ?_, fun i oi j oj d hki hi hoi hkj hj hoj hd hm => (key i oi j oj d hki hi hoi hkj hj hoj hd).2 hm⟩
 ·have := h1 _ (mem_zipIdx_of ho) j hj
  exact Nat.lt_of_succ_le (by simpa [Nat.blt] using this)
 ·have := h2 _ (mem_zipIdx_of (List.getElem?_eq_getElem hl))
  simp only [Bool.or_eq_true] at this
  rcases this with h | h
  ·have : i < m := Nat.lt_of_succ_le (by simpa [Nat.blt] using h)
   omega
  ·rw [List.all_eq_true] at h
   have := h j (by simpa using hj)
   simp only [Bool.or_eq_true] at this
   rcases this with h | h
   ·have : j < k := Nat.lt_of_succ_le (by simpa [Nat.blt] using h)
    omega
   ·exact h
 ·rcases (key i oi j oj d hki hi hoi hkj hj hoj hd).1 with h | h
  ·exact absurd h hne
  ·exact h
theorem masks_len : ∀ (l' : List Oper) (acc : List Nat), (masks l' acc).length = acc.length + l'.length := by
 intro l'; induction l' with
 | nil => intro acc; simp [masks]
 | cons o l' ih => intro acc; rw [masks, ih]; simp; omega
theorem wpIn_mono2 {F : Fence} {n : Nat} {P : Program} {o : Oper} {a : Act} {w : World} {K K' : Act → World → Prop} {Q Q' : Exit → Act → World → Prop} (h : ∀ a w, K a w → K' a w) (hp : ∀ ch a w, Q (.panic ch) a w → Q' (.panic ch) a w) (ho : ∀ a w, Q .outgrown a w → Q' .outgrown a w)
  (hh : o.wpIn F n P a w K Q) : o.wpIn F n P a w K' Q' := by
 have hl : LetsOut Q → LetsOut Q' := fun ⟨a, w, h⟩ => ⟨a, w, ho a w h⟩
 unfold Oper.wpIn at *
 refine ⟨hh.1, ?_⟩
 have hh := hh.2
 generalize (o.semAt F.round a.eval).run P w = r at *
 cases r with
 | ok x w' =>
  cases x <;> simp only [Oper.uponIn] at hh ⊢ <;>
   first
    | exact h _ _ hh
    | exact ⟨hh.1, CallsIn.mono hh.2 (fun e w'' he => by cases e <;> first | exact h _ _ he | exact hp _ _ _ he | exact hl he)⟩
    | exact ⟨hh.1, RowsIn.mono hh.2 (fun _ _ he => h _ _ he)⟩
    | exact ⟨hh.1, RoundIn.mono hh.2 (fun e w'' he => by cases e <;> first | exact h _ _ he | exact hp _ _ _ he | exact hl he)⟩
 | halt x w' => cases x <;> simp only [Oper.uponIn] at hh ⊢ <;> first | exact hp _ _ _ hh | exact hh
section
variable {c : Ctx} {r : Option Nat} {P : Program} {l : List Oper} {st : St} {Q : Exit → Act → World → Prop}
def KD (c : Ctx) (r : Option Nat) (P : Program) (l : List Oper) (Q : Exit → Act → World → Prop) (k : Nat) (a : Act) (w : World) : Prop :=
 ∀ (fuel : Nat) (listed : Array Bool), listed.size = l.length → (∀ i, listed.getD i false = true ↔ i < k) → l.length - k ≤ fuel → wpAnyIn (FW r) 0 P .any l.toArray Q fuel listed a w
def DP (c : Ctx) (r : Option Nat) (P : Program) (l : List Oper) (Q : Exit → Act → World → Prop) (k : Nat) (st : St) : Prop := ∀ a w, Sat c st a w → KD c r P l Q k a w
theorem CW.dp {id : Nat} (hm : P.follows .mixedOrders = true) (h : DP c r P l Q 0 st) : CW c r P (.region id l.toArray true) st Q := by
 intro a w s
 refine wpIn_region_any hm ?_
 show wpAnyIn (FW r) 0 P .any l.toArray Q l.toArray.size (Array.replicate l.toArray.size false) a w.drew
 refine h a w.drew ⟨s.ds, s.size, ?_⟩ _ _ (by simp) (fun i => by simp [Array.getD]) (by simp)
 obtain ⟨I, hw, he, hh, hv⟩ := s.mem
 exact ⟨I, hw.drew, he.drew, hh.drew, hv.keep keeps_drew⟩
theorem Done.dp {k : Nat} (h : DP c r P l Q k st) : Done c st .normal (Exit.then (KD c r P l Q k) Q) := h
theorem DP.done {k : Nat} (hk : k = l.length) (h : Done c st .normal Q) : DP c r P l Q k st := by
 intro a w s fuel listed hsz hli hfu
 have hr : Region.ready .any l.toArray listed = [] := by
  cases hr : Region.ready .any l.toArray listed with
  | nil => rfl
  | cons i rs =>
   exfalso
   have hi : i ∈ Region.ready .any l.toArray listed := by rw [hr]; simp
   obtain ⟨h1, o, h2, _⟩ := mem_ready.1 hi
   have hlt : i < l.length := by
    have := (Array.getElem?_eq_some_iff.1 h2).1
    simpa using this
   rw [getD_true_iff (by omega), (hli i).2 (by omega)] at h1; cases h1
 exact wpAnyIn_done hr (h a w s) fuel
theorem DP.one {k : Nat} {o : Oper} (hchk : segChk l k (k + 1) = true) (ho : l[k]? = some o) (h : OL c r P l.toArray [o] st (Exit.then (KD c r P l Q (k + 1)) Q)) : DP c r P l Q k st := by
 have ok := segOk_of hchk
 intro a w s fuel listed hsz hli hfu
 have hkl : k < l.length := (List.getElem?_eq_some_iff.1 ho).1
 obtain ⟨fuel, rfl⟩ : ∃ f, fuel = f + 1 := ⟨fuel - 1, by omega⟩
 have hmem : ∀ i ∈ Region.ready .any l.toArray listed, i = k := by
  intro i hi
  obtain ⟨h1, oi, h2, h3⟩ := mem_ready.1 hi
  have hlt : i < l.length := by
   have := (Array.getElem?_eq_some_iff.1 h2).1
   simpa using this
  rw [getD_true_iff (by omega)] at h1
  have hge : k ≤ i := by
   rcases Nat.lt_or_ge i k with h | h
   ·rw [(hli i).2 h] at h1; cases h1
   ·exact h
  rcases Nat.lt_or_ge k i with hlt' | hge'
  ·exfalso
   have hoi : l[i]? = some oi := by simpa using h2
   have hcl2 : Closed l (fun j => listed.getD j false = true) := fun j oj hj hoj j' hj' => (hli j').2 (by have := ok.back j oj hoj j' hj'; have := (hli j).1 hj; omega)
   have hms : (masks l [])[i]? = some ((masks l []).getD i 0) := by
    have : i < (masks l []).length := by rw [masks_len]; simpa using hlt
    simp [List.getD, this]
   have := masks_spec l _ hcl2 l [] (by simp) (by simp) (by simp) i _ oi hms hoi (fun j hj => by
    simp only [deps, List.mem_filterMap] at hj
    obtain ⟨e, he, hb⟩ := hj
    split at hb
    ·rename_i hbi; simp at hb; subst hb; exact h3 e (by simpa using he) hbi
    ·cases hb) k (ok.tail i (by omega) hlt k (Nat.le_refl _) (Nat.lt_succ_self _))
   exact Nat.lt_irrefl _ ((hli k).1 this)
  ·omega
 refine ⟨fun h0 => ?_, fun i hi => ?_⟩
 ·exfalso
  have : k ∈ Region.ready .any l.toArray listed := by
   rw [mem_ready]
   refine ⟨?_, o, by simpa using ho, fun e he hb => ?_⟩
   ·rw [getD_true_iff (by omega)]
    cases hx : listed.getD k false with
    | false => rfl
    | true => exact absurd ((hli k).1 hx) (Nat.lt_irrefl _)
   ·exact (hli _).2 (ok.back k _ ho e.on (by simp only [deps, List.mem_filterMap]; exact ⟨e, by simpa using he, by simp [hb]⟩))
  rw [h0] at this; cases this
 ·have hik := hmem i hi
  subst hik
  unfold wpOpIn
  have hio : l.toArray[i]? = some o := by simpa using ho
  simp only [hio]
  have hwp := h a w s
  have next : ∀ a w, KD c r P l Q (i + 1) a w → wpAnyIn (FW r) 0 P .any l.toArray Q fuel (listed.setIfInBounds i true) a w := by
   intro a w hk
   refine hk fuel _ (by simp [hsz]) (fun j => ?_) (by omega)
   rw [getD_set _ _ _ (by omega)]
   by_cases e : i = j
   ·subst e; simp
   ·rw [if_neg e, hli]; omega
  unfold wpListIn at hwp
  split at hwp
  ·rename_i hwant; rw [if_pos hwant]
   exact wpIn_mono2 next (fun _ _ _ h => h) (fun _ _ h => h) hwp
  ·rename_i hwant; rw [if_neg hwant]; exact ⟨hwp.1, next _ _ hwp.2⟩
def tailChk (l : List Oper) (k : Nat) : Bool :=
 let ms := masks l []
 (l.zipIdx.all fun p => (deps p.1).all fun j => Nat.blt j p.2) &&
 (l.zipIdx.all fun p => Nat.blt p.2 k || (List.range p.2).all fun j => Nat.blt j k || (ms.getD p.2 0).testBit j)
theorem DP.tail {k : Nat} (hchk : tailChk l k = true) (hkl : k ≤ l.length) (h : OL c r P l.toArray (l.drop k) st Q) : DP c r P l Q k st := by
 simp only [tailChk, Bool.and_eq_true, List.all_eq_true] at hchk
 obtain ⟨h1, h2⟩ := hchk
 have back : ∀ i o, l[i]? = some o → ∀ j ∈ deps o, j < i := fun i o ho j hj => by
  have := h1 _ (mem_zipIdx_of ho) j hj
  exact Nat.lt_of_succ_le (by simpa [Nat.blt] using this)
 have tail : ∀ i, k ≤ i → i < l.length → ∀ j, k ≤ j → j < i → ((masks l []).getD i 0).testBit j = true := fun i hi hl j hkj hj => by
  have := h2 _ (mem_zipIdx_of (List.getElem?_eq_getElem hl))
  simp only [Bool.or_eq_true] at this
  rcases this with h | h
  ·have : i < k := Nat.lt_of_succ_le (by simpa [Nat.blt] using h)
   omega
  ·rw [List.all_eq_true] at h
   have := h j (by simpa using hj)
   simp only [Bool.or_eq_true] at this
   rcases this with h | h
   ·have : j < k := Nat.lt_of_succ_le (by simpa [Nat.blt] using h)
    omega
   ·exact h
 intro a w s fuel listed hsz hli hfu
 have key : ∀ (p fuel : Nat) (listed : Array Bool) (a : Act) (w : World), listed.size = l.length → p ≤ l.length → k ≤ p → (∀ i, listed.getD i false = true ↔ i < p) → l.length - p ≤ fuel →
   wpListIn (FW r) 0 P l.toArray Q (l.drop p) a w → wpAnyIn (FW r) 0 P .any l.toArray Q fuel listed a w := by
  intro p
  induction hp : l.length - p generalizing p with
  | zero =>
   intro fuel listed a w hsz hpl hkp hli hfu hwp
   have hpl' : p = l.length := by omega
   rw [show l.drop p = [] by rw [hpl']; simp] at hwp
   ·have hr : Region.ready .any l.toArray listed = [] := by
     cases hr : Region.ready .any l.toArray listed with
     | nil => rfl
     | cons i rs =>
      exfalso
      have hi : i ∈ Region.ready .any l.toArray listed := by rw [hr]; simp
      obtain ⟨h1, o, h2, _⟩ := mem_ready.1 hi
      have hlt : i < l.length := by
       have := (Array.getElem?_eq_some_iff.1 h2).1
       simpa using this
      rw [getD_true_iff (by omega), (hli i).2 (by omega)] at h1; cases h1
    exact wpAnyIn_done hr hwp fuel
  | succ q ihk =>
   intro fuel listed a w hsz hpl hkp hli hfu hwp
   obtain ⟨fuel, rfl⟩ : ∃ f, fuel = f + 1 := ⟨fuel - 1, by omega⟩
   have hpl' : p < l.length := by omega
   have hok : l[p]? = some l[p] := List.getElem?_eq_getElem hpl'
   have hmem : ∀ i ∈ Region.ready .any l.toArray listed, i = p := by
    intro i hi
    obtain ⟨h1, o, h2, h3⟩ := mem_ready.1 hi
    have hlt : i < l.length := by
     have := (Array.getElem?_eq_some_iff.1 h2).1
     simpa using this
    rw [getD_true_iff (by omega)] at h1
    have hge : p ≤ i := by
     rcases Nat.lt_or_ge i p with h | h
     ·rw [(hli i).2 h] at h1; cases h1
     ·exact h
    rcases Nat.lt_or_ge p i with hlt' | hge'
    ·exfalso
     have ho : l[i]? = some o := by simpa using h2
     have hcl2 : Closed l (fun j => listed.getD j false = true) := fun j oj hj hoj j' hj' => (hli j').2 (by have := back j oj hoj j' hj'; have := (hli j).1 hj; omega)
     have hms : (masks l [])[i]? = some ((masks l []).getD i 0) := by
      have : i < (masks l []).length := by rw [masks_len]; simpa using hlt
      simp [List.getD, this]
     have := masks_spec l _ hcl2 l [] (by simp) (by simp) (by simp) i _ o hms ho (fun j hj => by
      simp only [deps, List.mem_filterMap] at hj
      obtain ⟨e, he, hb⟩ := hj
      split at hb
      ·rename_i hbi; simp at hb; subst hb; exact h3 e (by simpa using he) hbi
      ·cases hb) p (tail i (by omega) hlt p hkp hlt')
     exact Nat.lt_irrefl _ ((hli p).1 this)
    ·omega
   rw [List.drop_eq_getElem_cons hpl'] at hwp
   refine ⟨fun h0 => ?_, fun i hi => ?_⟩
   ·exfalso
    have : p ∈ Region.ready .any l.toArray listed := by
     rw [mem_ready]
     refine ⟨?_, l[p], by simp, fun e he hb => ?_⟩
     ·rw [getD_true_iff (by omega)]
      cases hx : listed.getD p false with
      | false => rfl
      | true => exact absurd ((hli p).1 hx) (Nat.lt_irrefl _)
     ·exact (hli _).2 (back p _ hok e.on (by simp only [deps, List.mem_filterMap]; exact ⟨e, by simpa using he, by simp [hb]⟩))
    rw [h0] at this; cases this
   ·have hik := hmem i hi
    subst hik
    unfold wpOpIn
    have hio : l.toArray[i]? = some l[i] := by simp
    simp only [hio]
    have next : ∀ a w, wpListIn (FW r) 0 P l.toArray Q (l.drop (i + 1)) a w → wpAnyIn (FW r) 0 P .any l.toArray Q fuel (listed.setIfInBounds i true) a w := by
     intro a w hwp
     refine ihk (i + 1) (by omega) fuel _ a w (by simp [hsz]) (by omega) (by omega) (fun j => ?_) (by omega) hwp
     rw [getD_set _ _ _ (by omega)]
     by_cases e : i = j
     ·subst e; simp
     ·rw [if_neg e, hli]; omega
    unfold wpListIn at hwp
    split at hwp
    ·rename_i hwant; rw [if_pos hwant]; exact Oper.wpIn_mono next hwp
    ·rename_i hwant; rw [if_neg hwant]; exact ⟨hwp.1, next _ _ hwp.2⟩
 exact key k fuel listed a w hsz hkl (Nat.le_refl _) hli hfu (h a w s)
theorem DP.any {k m : Nat} (hchk : segChk l k m = true) (hkm : k ≤ m) (hml : m ≤ l.length) (hlk : (l.all fun o => (looks l o).all fun t => Nat.blt t c.n) = true)
  (h : AD P st.H l c.n ((l.drop k).take (m - k)) st.env fun env => DP c r P l Q m ⟨env, st.H⟩) : DP c r P l Q k st := by
 have ok := segOk_of hchk
 obtain ⟨xs, hxl, htail, hspec⟩ := AD_spec _ _ _ h
 have hxm : xs.length = m - k := by rw [hxl, List.length_take, List.length_drop]; omega
 generalize hS : (l.drop k).take (m - k) = S at *
 have takeAt : ∀ (i : Nat) (o : Oper), S[i]? = some o ↔ i < m - k ∧ l[k + i]? = some o := by
  intro i o
  rw [← hS, List.getElem?_take]
  by_cases hi : i < m - k
  ·rw [if_pos hi, List.getElem?_drop]; simp [hi]
  ·rw [if_neg hi]; simp [hi]
 generalize hF : puts st.env S xs = envF at htail
 have hlook : ∀ (i : Nat) (o : Oper), l[i]? = some o → ∀ t ∈ looks l o, t < c.n := by
  intro i o ho t ht
  simp only [List.all_eq_true] at hlk
  have := hlk o (List.mem_of_getElem? ho) t ht
  exact Nat.lt_of_succ_le (by simpa [Nat.blt] using this)
 have fin : ∀ (i : Nat) (o : Oper) (x : AV), i < m - k → l[k + i]? = some o → xs[i]? = some x → AOk P st.H l envF o x ∧ dstOk c.n o.dst = true := by
  intro i o x hi ho hx
  obtain ⟨h1, h2⟩ := hspec i o x ((takeAt i o).2 ⟨hi, ho⟩) hx
  refine ⟨?_, h2⟩
  have same : ∀ t ∈ looks l o, envGet (puts st.env (S.take i) (xs.take i)) t = envGet envF t := by
   intro t ht
   rw [← hF, puts_split i S xs st.env hxl]
   symm
   apply puts_other
   intro j o' ho' e
   rw [List.getElem?_drop] at ho'
   obtain ⟨hj, hoj⟩ := (takeAt _ _).1 ho'
   have := (ok.looked (k + i) o (k + (i + j)) o' t (by omega) (by omega) ho (by omega) (by omega) hoj e ht).1
   omega
  rcases h1 with ⟨hg, hp⟩ | ⟨j, want, d, G, y, hg, hj, hG, hp, rfl⟩
  ·exact .inl ⟨hg, hp.congr fun t ht => same t (mem_looks ht)⟩
  ·have hdl : d ∈ looks l o := List.mem_append_right _ (by simp [hg, hj])
   exact .inr ⟨j, want, d, G, y, hg, hj, by rw [← same d hdl]; exact hG, fun e => (hp e).congr fun t ht => same t (mem_looks ht), rfl⟩
 have finAt : ∀ (i : Nat) (o : Oper) (x : AV) (t : Nat), i < m - k → l[k + i]? = some o → xs[i]? = some x → o.dst = some t → envGet envF t = some x := by
  intro i o x t hi ho hx hd
  rw [← hF]
  refine puts_at S xs st.env i t o x ((takeAt i o).2 ⟨hi, ho⟩) hx hd (fun j o' ho' e => ?_)
  obtain ⟨hj, hoj⟩ := (takeAt _ _).1 ho'
  rcases Nat.decEq j i with hne | he
  ·exact absurd hd (ok.apart (k + i) o (k + j) o' t (by omega) (by omega) ho (by omega) (by omega) hoj e (by omega))
  ·exact he
 have finOther : ∀ t, (∀ (i : Nat) (o : Oper), i < m - k → l[k + i]? = some o → o.dst ≠ some t) → envGet envF t = envGet st.env t := by
  intro t ht
  rw [← hF]
  exact puts_other _ _ _ _ fun i o ho => let ⟨h1, h2⟩ := (takeAt i o).1 ho; ht i o h1 h2
 have main : ∀ (cnt fuel : Nat) (listed : Array Bool) (a : Act) (w : World) (I : Imm), listed.size = l.length → (cnt = (List.range m).countP fun i => !listed.getD i false) → cnt + (l.length - m) ≤ fuel → Closed l (fun i => listed.getD i false = true) →
   (∀ i, i < k → listed.getD i false = true) → (∀ i, listed.getD i false = true → i < m) → a.defers = c.ds → a.tmps.size = c.n → WOk c.B I w → Ext c.B c.I0 c.w0 I w → HeapOk c.B I w st.H →
   (∀ t x, envGet envF t = some x → (∀ (i : Nat) (o : Oper), i < m - k → l[k + i]? = some o → o.dst = some t → listed.getD (k + i) false = true) → Rel I w x (a.tmps.getD t undef)) →
   wpAnyIn (FW r) 0 P .any l.toArray Q fuel listed a w := by
  intro cnt
  induction cnt with
  | zero =>
   intro fuel listed a w I hsz hf hfu hcl hlk' hlm hd hts hw he hh hv
   have hall : ∀ i, i < m → listed.getD i false = true := by
    intro i hi
    have := List.countP_eq_zero.1 hf.symm i (by simpa using hi)
    simpa using this
   have hs : Sat c ⟨envF, st.H⟩ a w := ⟨hd, hts, I, hw, he, hh, fun t x hx => hv t x hx (fun i o hi _ _ => hall (k + i) (by omega))⟩
   exact htail a w hs fuel listed hsz (fun i => ⟨hlm i, hall i⟩) (by omega)
  | succ cnt ih =>
   intro fuel listed a w I hsz hf hfu hcl hlk' hlm hd hts hw he hh hv
   obtain ⟨fuel, rfl⟩ : ∃ f, fuel = f + 1 := ⟨fuel - 1, by omega⟩
   have hex : ∃ i, i < m ∧ listed.getD i false = false ∧ ∀ j, j < i → listed.getD j false = true := by
    have : ∃ i, i < m ∧ listed.getD i false = false := by
     refine Classical.byContradiction fun hn => ?_
     have : (List.range m).countP (fun i => !listed.getD i false) = 0 := by
      rw [List.countP_eq_zero]
      intro i hi
      simp only [List.mem_range] at hi
      cases hx : listed.getD i false with
      | true => simp
      | false => exact absurd ⟨i, hi, hx⟩ hn
     omega
    obtain ⟨i, hi⟩ := this
    induction i using Nat.strongRecOn with
    | _ i ihi =>
     by_cases hx : ∃ j, j < i ∧ listed.getD j false = false
     ·obtain ⟨j, hj, hj2⟩ := hx
      exact ihi j hj ⟨by omega, hj2⟩
     ·exact ⟨i, hi.1, hi.2, fun j hj => by
       cases hy : listed.getD j false with
       | true => rfl
       | false => exact absurd ⟨j, hj, hy⟩ hx⟩
   obtain ⟨i0, hi0m, hi0, hi0b⟩ := hex
   have hi0k : k ≤ i0 := by
    rcases Nat.lt_or_ge i0 k with h | h
    ·rw [hlk' i0 h] at hi0; cases hi0
    ·exact h
   refine ⟨fun h0 => ?_, fun i hi => ?_⟩
   ·exfalso
    have hok : l[i0]? = some l[i0] := List.getElem?_eq_getElem (by omega)
    have : i0 ∈ Region.ready .any l.toArray listed := by
     rw [mem_ready]
     refine ⟨by rw [getD_true_iff (by omega)]; exact hi0, l[i0], by simp, fun e he hb => ?_⟩
     exact hi0b _ (ok.back i0 _ hok e.on (by simp only [deps, List.mem_filterMap]; exact ⟨e, by simpa using he, by simp [hb]⟩))
    rw [h0] at this; cases this
   ·obtain ⟨h1, o, h2, h3⟩ := mem_ready.1 hi
    have ho : l[i]? = some o := by simpa using h2
    have hlt : i < l.length := (List.getElem?_eq_some_iff.1 ho).1
    rw [getD_true_iff (by omega)] at h1
    have hdeps : ∀ k ∈ deps o, listed.getD k false = true := by
     intro k hk
     simp only [deps, List.mem_filterMap] at hk
     obtain ⟨e, he, hb⟩ := hk
     split at hb
     ·rename_i hbi; simp at hb; subst hb; exact h3 e (by simpa using he) hbi
     ·cases hb
    have hms : (masks l [])[i]? = some ((masks l []).getD i 0) := by
     have : i < (masks l []).length := by rw [masks_len]; simpa using hlt
     simp [List.getD, this]
    have hanc := masks_spec l _ hcl l [] (by simp) (by simp) (by simp) i _ o hms ho hdeps
    have hik : k ≤ i := by
     rcases Nat.lt_or_ge i k with h | h
     ·rw [hlk' i h] at h1; cases h1
     ·exact h
    have him : i < m := by
     rcases Nat.lt_or_ge i m with h | h
     ·exact h
     ·have := hanc i0 (ok.tail i h hlt i0 hi0k hi0m)
      rw [hi0] at this; cases this
    obtain ⟨q, rfl⟩ : ∃ q, i = k + q := ⟨i - k, by omega⟩
    have hq : q < m - k := by omega
    have hxi : xs[q]? = some xs[q] := List.getElem?_eq_getElem (by omega)
    obtain ⟨hA, hdst⟩ := fin q o _ hq ho hxi
    have avail : ∀ t ∈ looks l o, ∀ (i' : Nat) (o' : Oper), i' < m - k → l[k + i']? = some o' → o'.dst = some t → listed.getD (k + i') false = true := fun t ht i' o' hi' ho' hd' => hanc _ (ok.looked (k + q) o (k + i') o' t hik him ho (by omega) (by omega) ho' hd' ht).2
    refine hA.run (c := c) ho hw hh (fun t ht z hz => hv t z hz (avail t ht)) (fun t ht => by rw [hts]; exact hlook _ o ho t ht) ?_
    intro v w' I' hw' he' hh' hx
    have hset : ∀ j, (listed.setIfInBounds (k + q) true).getD j false = if k + q = j then true else listed.getD j false := fun j => getD_set _ _ _ (by omega)
    refine ih fuel (listed.setIfInBounds (k + q) true) _ w' I' (by simp [hsz]) ?_ (by omega) ?_ ?_ ?_ (by rw [put_defers]; exact hd) (by rw [tmps_put_size]; exact hts) hw' (he.trans he') hh' ?_
    ·have : (List.range m).countP (fun j => !listed.getD j false) = (List.range m).countP (fun j => !(listed.setIfInBounds (k + q) true).getD j false) + 1 := by
      have key : ∀ (n : Nat), (List.range n).countP (fun j => !listed.getD j false) = (List.range n).countP (fun j => !(listed.setIfInBounds (k + q) true).getD j false) + (if k + q < n then 1 else 0) := by
       intro n
       induction n with
       | zero => simp
       | succ n ihn =>
        rw [List.range_succ, List.countP_append, List.countP_append, ihn]
        simp only [List.countP_cons, List.countP_nil, Nat.zero_add, hset n]
        by_cases e : k + q = n
        ·subst e
         rw [if_neg (Nat.lt_irrefl _), if_pos (Nat.lt_succ_self _), if_pos rfl, h1]
         simp
        ·rw [if_neg e]
         by_cases hlt' : k + q < n
         ·rw [if_pos hlt', if_pos (Nat.lt_succ_of_lt hlt')]; omega
         ·rw [if_neg hlt', if_neg (show ¬ k + q < n + 1 by omega)]; omega
      rw [key, if_pos him]
     omega
    ·intro j oj hj hoj k' hk
     rw [hset]
     by_cases e : k + q = k'
     ·rw [if_pos e]
     ·rw [if_neg e]
      rw [hset] at hj
      by_cases e' : k + q = j
      ·subst e'
       rw [ho] at hoj; cases hoj
       exact hdeps k' hk
      ·rw [if_neg e'] at hj
       exact hcl j oj hj hoj k' hk
    ·intro j hj
     rw [hset, if_neg (by omega)]
     exact hlk' j hj
    ·intro j hj
     rw [hset] at hj
     by_cases e : k + q = j
     ·omega
     ·rw [if_neg e] at hj; exact hlm j hj
    ·intro t x hxt hav
     by_cases hdt : o.dst = some t
     ·rw [hdt]
      have : x = xs[q] := by
       have := finAt q o _ t hq ho hxi hdt
       rw [this] at hxt; exact (Option.some.inj hxt).symm
      subst this
      rw [tmps_put_same (by rw [hts]; rw [hdt] at hdst; exact Nat.lt_of_succ_le (by simpa [dstOk, Nat.blt] using hdst))]
      exact hx
     ·have hold : Rel I w x (a.tmps.getD t undef) := hv t x hxt fun i' o' hi' ho' hd' => by
       have := hav i' o' hi' ho' hd'
       rw [hset] at this
       by_cases e : k + q = k + i'
       ·have e2 : q = i' := by omega
        subst e2
        rw [ho] at ho'; cases ho'
        exact absurd hd' hdt
       ·rw [if_neg e] at this; exact this
      have hget : (a.put o.dst v).tmps.getD t undef = a.tmps.getD t undef := by
       cases hod : o.dst with
       | none => rfl
       | some d => exact tmps_put_other (fun e => hdt (by rw [hod, e]))
      rw [hget]
      exact hold.keep he'.keeps
 intro a w s fuel listed hsz hli hfu
 obtain ⟨I, hw, he, hh, hv⟩ := s.mem
 refine main _ fuel listed a w I hsz rfl ?_ (fun i o hi ho j hj => (hli j).2 (by have := ok.back i o ho j hj; have := (hli i).1 hi; omega)) (fun i hi => (hli i).2 hi) (fun i hi => by have := (hli i).1 hi; omega) s.ds s.size hw he hh ?_
 ·have : (List.range m).countP (fun i => !listed.getD i false) ≤ m - k := by
   have e : List.range m = List.range k ++ (List.range (m - k)).map (k + ·) := by
    rw [← List.range_add]; congr 1; omega
   rw [e, List.countP_append]
   have z : (List.range k).countP (fun i => !listed.getD i false) = 0 := by
    rw [List.countP_eq_zero]; intro i hi; simp only [List.mem_range] at hi; simp [(hli i).2 hi]
   rw [z]
   have := List.countP_le_length (p := fun i => !listed.getD i false) (l := (List.range (m - k)).map (k + ·))
   simpa using this
  omega
 ·intro t x hx hav
  have : envGet st.env t = some x := by
   rw [← finOther t (fun i o hi ho hd => ?_)]
   ·exact hx
   ·have := hav i o hi ho hd
    have := (hli (k + i)).1 this
    omega
  exact hv t x this
theorem DP.anyC {env : List (Nat × AV)} {H : List Ent} (k m n : Nat) (hn : c.n = n) (hchk : segChk l k m = true) (hkm : Nat.ble k m = true) (hml : Nat.ble m l.length = true) (hlk : (l.all fun o => (looks l o).all fun t => Nat.blt t n) = true)
  (h : AD P H l c.n ((l.drop k).take (m - k)) env fun env => DP c r P l Q m ⟨env, H⟩) : DP c r P l Q k ⟨env, H⟩ :=
 DP.any hchk (Nat.le_of_ble_eq_true hkm) (Nat.le_of_ble_eq_true hml) (by rw [hn]; exact hlk) h
theorem DP.tailC (k : Nat) (hchk : tailChk l k = true) (hkl : Nat.ble k l.length = true) (h : OL c r P l.toArray (l.drop k) st Q) : DP c r P l Q k st := DP.tail hchk (Nat.le_of_ble_eq_true hkl) h
end
section
variable {c : Ctx} {r : Option Nat} {P : Program} {ops : Array Oper} {l rest : List Oper} {o : Oper} {env : List (Nat × AV)} {H : List Ent} {Q : Exit → Act → World → Prop} {x : AV} {d n : Nat}
def CallR (B : Nat) (I : Imm) (w : World) (Φ : AV → List Ent → Prop) : Value → World → Prop := fun v w' => ∃ I' H' x, WOk B I' w' ∧ Ext B I w I' w' ∧ HeapOk B I' w' H' ∧ Rel I' w' x v ∧ Φ x H'
theorem bcall_runs {a : Act} {w : World} {I : Imm} {f : FuncId} {xs : List AV} {Φ : AV → List Ent → Prop} {ρ : Nat → Option AV} (hc : CallOk P ρ o f xs) (h : BCall c.B P f xs H Φ (fun _ _ => False)) (hw : WOk c.B I w) (hh : HeapOk c.B I w H) (ho : OpsOk I w ρ a o) :
  Runs P r o a w (CallR c.B I w Φ) (fun _ _ => False) := by
 obtain ⟨vs, h1, h2⟩ := hc.run I w a ho
 obtain ⟨hok, hcall⟩ := h
 refine Runs.of_enter hc.nodefer (h2 hok) ((hcall I w vs hw hh h1).mono fun e w' hr => ?_)
 obtain ⟨I', H', hw', he', hh', hr⟩ := hr
 rcases hr with ⟨v, x, rfl, hx, hΦ⟩ | ⟨v, x, rfl, hx, hE⟩
 ·exact ⟨I', H', x, hw', he', hh', hx, hΦ⟩
 ·exact hE.elim
end
class HasMap (P : Program) (t : Nat) (x : outParam (Nat × Nat)) : Prop where
 h : P.underlying t = some (.map x.1 x.2)
 key : Go.Maps.Keyed P x.1
 zero : ((P.info? x.2).bind (·.zero)) = some (.pointer none)
theorem rel_vals {I : Imm} {w : World} : ∀ {vs us : List Value}, RelL I w (vs.map .val) us → us = vs
 | [], _, .nil => rfl
 | v :: vs, _, .cons _ _ _ _ h t => by rw [rel_val h, rel_vals t]
section
variable {c : Ctx} {r : Option Nat} {P : Program} {ops : Array Oper} {l rest : List Oper} {o : Oper} {env : List (Nat × AV)} {H : List Ent} {Q : Exit → Act → World → Prop} {d : Nat}
end
def Borrow (H : List Ent) (xs ys : List AV) : Prop :=
 ∀ (B : Nat) (I : Imm) (w : World) (Hc : List Ent) (vs : List Value), WOk B I w → HeapOk B I w Hc → (∀ e ∈ H, e ∈ Hc) → RelL I w xs vs →
  ∃ J : Imm, (∀ b o, J b o → ∃ c, w.cell? ⟨b, o, none⟩ = some c) ∧ RelL J w ys vs
section
variable {P : Program} {H : List Ent} {ρ : Nat → Option AV} {o : Oper}
theorem RelL.append_inv {I : Imm} {w : World} : ∀ {xs ys : List AV} {vs : List Value}, RelL I w (xs ++ ys) vs → ∃ us zs, vs = us ++ zs ∧ RelL I w xs us ∧ RelL I w ys zs
 | [], _, vs, h => ⟨[], vs, rfl, .nil, h⟩
 | x :: xs, ys, _, .cons _ v _ vs hx ht => by
  obtain ⟨us, zs, rfl, h1, h2⟩ := RelL.append_inv ht
  exact ⟨v :: us, zs, rfl, .cons _ _ _ _ hx h1, h2⟩
theorem els_of_row {I : Imm} {w : World} {k b : Nat} {els : List (List AV)} (hk : ∀ e ∈ els, e.length = k) (h : Cells I w b 0 els.flatten) : Els I w k b 0 els := els_of_cells els 0 hk h
theorem row_rel {B : Nat} {I : Imm} {w : World} {t k : Nat} {v : Value} {els : List (List AV)} (h : Ent.ok B I w (.row t k v els.length els.flatten)) (hk : ∀ e ∈ els, e.length = k) :
  ∃ J : Imm, (∀ b o, I b o → J b o) ∧ (∀ b o, J b o → I b o ∨ v.ownBlock = some b) ∧ (∀ b o, J b o → I b o ∨ ∃ c, w.cell? ⟨b, o, none⟩ = some c) ∧ Rel J w (.sl k els) v := by
 obtain ⟨xs, hrow, hr, hni⟩ := h
 rcases hrow.2 with ⟨rfl, hn⟩ | ⟨g, cap, cur, rfl, hBg, hg, hnc, hcm, hcs, htk⟩
 ·have : els = [] := List.eq_nil_of_length_eq_zero hn
  subst this
  exact ⟨I, fun _ _ h => h, fun _ _ h => .inl h, fun _ _ h => .inl h, .sl0 _ _ _⟩
 ·have hlen : xs.length = els.length * k := hrow.1
  have hsz : els.length * k ≤ cur.size := by rw [hcs]; exact Nat.mul_le_mul_right k hnc
  let J : Imm := fun b o => I b o ∨ (b = g ∧ o < els.length * k)
  have hJ : Keeps I w J w := ⟨fun _ _ x => .inl x, fun _ _ _ => rfl⟩
  refine ⟨J, fun _ _ x => .inl x, fun b o x => x.elim .inl (fun x => .inr (by rw [x.1]; rfl)), fun b o x => ?_, ?_⟩
  ·rcases x with x | ⟨rfl, x⟩
   ·exact .inl x
   ·exact .inr ⟨cur[o]'(by omega), by rw [cell_of_blk hg]; exact Array.getElem?_eq_getElem (by omega)⟩
  ·refine .sl _ _ _ _ _ _ rfl hnc hcm (els_of_row hk (cells_of hg _ xs 0 (hr.keep hJ) (fun j u hu => ?_) (fun j hj => .inr ⟨rfl, ?_⟩)))
   ·rw [← htk, List.getElem?_take] at hu
    split at hu
    ·simpa using hu
    ·cases hu
   ·rw [flatten_len hk] at hj; omega
theorem Borrow.row {t k : Nat} {v : Value} {els : List (List AV)} {pre post : List AV} (hm : Ent.row t k v els.length els.flatten ∈ H) (hk : ∀ e ∈ els, e.length = k) : Borrow H (pre ++ .val v :: post) (pre ++ .sl k els :: post) := by
 intro B I w Hc vs hw hh hs hr
 obtain ⟨J, h1, h2, h3, h4⟩ := row_rel (hh.ok _ (hs _ hm)) hk
 have kk : Keeps I w J w := ⟨h1, fun _ _ _ => rfl⟩
 refine ⟨J, fun b o hb => (h3 b o hb).elim (fun x => hw.there b o x) id, ?_⟩
 obtain ⟨us, zs, rfl, r1, r2⟩ := hr.append_inv
 cases r2 with
 | cons _ u _ zs hx ht =>
  have := rel_val hx
  subst this
  exact (r1.keep kk).append (.cons _ _ _ _ h4 (ht.keep kk))
theorem Borrow.refl (xs : List AV) : Borrow H xs xs := fun B I w Hc vs hw _ _ hr => ⟨I, hw.there, hr⟩
theorem Borrow.le {xs ys zs : List AV} (h : Borrow H xs ys) (hl : AVleL ys zs) : Borrow H xs zs := fun B I w Hc vs hw hh hs hr =>
 let ⟨J, h1, h2⟩ := h B I w Hc vs hw hh hs hr; ⟨J, h1, hl.rel h2⟩
end
section
variable {c : Ctx} {r : Option Nat} {P : Program} {ops : Array Oper} {l rest : List Oper} {o : Oper} {env : List (Nat × AV)} {H : List Ent} {Q : Exit → Act → World → Prop} {d : Nat}
theorem appendRow_runs {B : Nat} {I : Imm} {w : World} {a : Act} {ρ : Nat → Option AV} {s z : Operand} {t e k by_ n : Nat} {cs : List AV} {news : List (List AV)} {v : Value} {y : AV} {g1 g2 : Bool} {H' : Value → List Ent} [hA : HasApp P t (e, k, by_)]
  (h : o.op = .call { callee := .builtin .append, args := #[s, z], argTypes := #[t, t] }) (hs : aev ρ s = some (g1, .val v)) (hg1 : g1 = true) (hz : aev ρ z = some (g2, y)) (hg2 : g2 = true) (hy : AVle y (.sl k news)) (hne : news ≠ [])
  (h1 : news.all allOne = true) (hu : ∀ v', Upd H (.row e k v n cs) (.row e k v' (n + news.length) (cs ++ news.flatten)) (H' v')) (hb : (n + news.length) * by_ ≤ 140737488355328) (hb' : n + news.length ≤ 9223372036854775807)
  (hw : WOk B I w) (hh : HeapOk B I w H) (ho : OpsOk I w ρ a o) : Runs P r o a w (fun x w' => ∃ I', WOk B I' w' ∧ Ext B I w I' w' ∧ HeapOk B I' w' (H' x)) (fun _ _ => False) := by
 obtain ⟨i, zv, hut, hi, hzz, hsz, hby, hzs, hk0⟩ := appInfo_spec hA.h
 have hsv := rel_val (ho.get (by simp [h, Op.operands, Call.operands]) hs hg1)
 have hzr := hy _ _ _ (ho.get (by simp [h, Op.operands, Call.operands]) hz hg2)
 have hnl := hzr.elsLen
 obtain ⟨xs, hrow, hrx, hni⟩ := hh.ok _ (hu v).mem
 generalize hzv : a.eval z = zval at hzr
 cases hzr with
 | sl0 => exact absurd rfl hne
 | sl _ _ b off len cap hl hc hm hels =>
  obtain ⟨us, r1, r2, r3⟩ := hels.values
  have hlu : us.length = news.length * k := r2
  obtain ⟨v', w', e1, e2, e3, _, e5⟩ := run_append_own_at (P := P) w B t o.type e i zv k by_ hut hi hzz hsz hby hzs hk0 v n xs hrow ⟨b, off, none⟩ news.length cap us hlu r3 (relL_one r1 (all_one_flatten h1)) (by simp only [maxLen]; omega) hb hw.base
  have hbel : Below B w w' := (Below.refl B w).grown e3 hw.base (fun j hj => by
   rcases hrow.2 with ⟨rfl, _⟩ | ⟨g, cap, cur, rfl, hBg, _⟩
   ·simp [Value.ownBlock] at hj
   ·simp [Value.ownBlock] at hj; omega)
  have hcell : ∀ b i, I b i → w'.cell? ⟨b, i, none⟩ = w.cell? ⟨b, i, none⟩ := fun b i hI =>
   World.cell?_of_block (a := ⟨b, i, none⟩) (e3.block b (hw.lt hI) (fun e => hni b e.symm i hI))
  have hkk : Keeps I w I w' := ⟨fun _ _ x => x, hcell⟩
  subst hl
  have hr : (Builtin.append_ #[t, t] o.type #[a.eval s, a.eval z]).run P w = .ok v' w' := by rw [hsv, hzv]; exact e1
  have hf' : ∀ b, (Value.ownBlock v') = some b → (Value.ownBlock v) = some b ∨ w.heap.size ≤ b := fun b hb => by
   rcases e5 with e | e
   ·exact .inl (by rw [← e]; exact hb)
   ·rw [hb] at e; cases e; exact .inr (Nat.le_refl _)
  refine Runs.of_value (by simp [h]) (run_appendOp h a w hr) ⟨I, ⟨Nat.le_trans hw.base hbel.size, fun b o hI => by rw [hcell b o hI]; exact hw.there b o hI⟩, ⟨hkk.imm, hkk.cell, hbel⟩, ?_⟩
  refine hh.upd (hu v') hkk (fun b hlt hne => e3.block b hlt (fun e => hne e.symm)) (fun b o hx => .inl hx) ⟨_, e2, (hrx.append r1).keep hkk, fun g hg o hI => ?_⟩ hf'
  rcases hf' g hg with hx | hx
  ·exact hni g hx o hI
  ·have := hw.lt hI; omega
theorem run_newMap {t : TypeId} (h : o.op = .makeMap t none) (a : Act) (w : World) : (execOp a.eval o).run P w = .ok (.value (.map (some w.heap.size))) (w.alloc (.map #[] 0)) := by
 simp [execOp, h, Instr.makeMap]
end
def SOk (P : Program) (H0 H1 : List Ent) (ρ : Nat → Option AV) (o : Oper) : Prop :=
 ∀ (B : Nat) (I : Imm) (w : World) (r : Option Nat) (a : Act), WOk B I w → HeapOk B I w H0 → OpsOk I w ρ a o → Runs P r o a w (fun v w' => ∃ I', WOk B I' w' ∧ Ext B I w I' w' ∧ HeapOk B I' w' H1) (fun _ _ => False)
abbrev Mem := Nat → Act → Imm → World → Prop
def EOk (P : Program) (M0 M1 : Mem) (ops : List Oper) (env : List (Nat × AV)) (o : Oper) (y : AV) : Prop :=
 o.guard = none ∧ ∀ (B : Nat) (I : Imm) (w : World) (r : Option Nat) (a : Act), WOk B I w → M0 B a I w → OpsOk I w (envGet env) a o → (∀ d, o.dst = some d → d < a.tmps.size) →
  Runs P r o a w (fun v w' => ∃ I', WOk B I' w' ∧ Ext B I w I' w' ∧ M1 B (a.put o.dst v) I' w' ∧ Rel I' w' y v) (fun _ _ => False)
theorem SOk.congr {P : Program} {H H1 : List Ent} {ρ ρ' : Nat → Option AV} {o : Oper} (h : SOk P H H1 ρ o) (he : ∀ t, .tmp t ∈ o.op.operands.toList → ρ t = ρ' t) : SOk P H H1 ρ' o := by
 intro B I w r a hw hh ho
 refine h B I w r a hw hh (fun y hy z hz => ho y hy z ?_)
 cases y with
 | tmp t => rw [← hz]; exact (he t (by simpa using hy)).symm
 | const v => exact hz
 | global g => exact hz
 | func f => exact hz
theorem OpsOk.congr {I : Imm} {w : World} {ρ ρ' : Nat → Option AV} {a : Act} {o : Oper} (ho : OpsOk I w ρ' a o) (he : ∀ t, .tmp t ∈ o.op.operands.toList → ρ t = ρ' t) : OpsOk I w ρ a o := fun y hy z hz => ho y hy z (by
 cases y with
 | tmp t => rw [← hz]; exact (he t (by simpa using hy)).symm
 | const v => exact hz
 | global g => exact hz
 | func f => exact hz)
theorem EOk.congr {P : Program} {H0 H1 : Mem} {ops : List Oper} {env env' : List (Nat × AV)} {o : Oper} {y : AV} (h : EOk P H0 H1 ops env o y) (same : ∀ t ∈ looks ops o, envGet env t = envGet env' t) : EOk P H0 H1 ops env' o y :=
 ⟨h.1, fun B I w r a hw hm ho hz => h.2 B I w r a hw hm (ho.congr fun t ht => same t (mem_looks ht)) hz⟩
theorem EOk.run {c : Ctx} {r : Option Nat} {P : Program} {l : List Oper} {H H1 : Mem} {env : List (Nat × AV)} {o : Oper} {y : AV} {Q : Exit → Act → World → Prop} (h : EOk P H H1 l env o y) {i : Nat} (hi : l[i]? = some o)
  {a : Act} {w : World} {I : Imm} (hw : WOk c.B I w) (hh : H c.B a I w) (hv : ∀ t ∈ looks l o, ∀ z, envGet env t = some z → Rel I w z (a.tmps.getD t undef)) (hn : ∀ t ∈ looks l o, t < a.tmps.size) (hz : ∀ d, o.dst = some d → d < a.tmps.size)
  {K : Act → World → Prop} (hK : ∀ v w' I', WOk c.B I' w' → Ext c.B I w I' w' → H1 c.B (a.put o.dst v) I' w' → Rel I' w' y v → K (a.put o.dst v) w') : wpOpIn (FW r) 0 P l.toArray Q i K a w := by
 obtain ⟨hg, hs⟩ := h
 have hops : OpsOk I w (envGet env) a o := fun x hx z hz => by
  cases x with
  | tmp t => exact hv t (mem_looks (by simpa using hx)) z hz
  | const v => simp [aeval] at hz; subst hz; exact rel_const v
  | global g => simp [aeval] at hz; subst hz; exact .val _
  | func f => simp [aeval] at hz; subst hz; exact .fn _ _ _ _ _ .nil .nil
 have hio : l.toArray[i]? = some o := by simpa using hi
 unfold wpOpIn
 simp only [hio]
 have hwant : Region.wanted o (yielded l.toArray a.tmps) = true := by simp [Region.wanted, hg]
 rw [if_pos hwant]
 exact hs c.B I w r a hw hh hops hz K Q (fun v w' ⟨I', h1, h2, h3, h4⟩ => hK v w' I' h1 h2 h3 h4) (fun _ _ h => h.elim)
def loOf (l : List Oper) (ss : List Nat) (i : Nat) : Nat := ss.countP fun s => ((masks l []).getD i 0).testBit s
def hiOf (l : List Oper) (ss : List Nat) (i : Nat) : Nat := ss.countP fun s => !((masks l []).getD s 0).testBit i && !Nat.beq s i
def stp (ss : List Nat) (i : Nat) : Nat := ss.countP fun s => Nat.beq s i
def TOk (P : Program) (Hs : Nat → Mem) (l : List Oper) (ss : List Nat) (i : Nat) (env : List (Nat × AV)) (o : Oper) (x : AV) : Prop :=
 ∀ j, loOf l ss i ≤ j → j ≤ hiOf l ss i → EOk P (Hs j) (Hs (j + stp ss i)) l env o x
def TD (P : Program) (Hs : Nat → Mem) (l : List Oper) (ss : List Nat) (n : Nat) : Nat → List Oper → List (Nat × AV) → (List (Nat × AV) → Prop) → Prop
 | _, [], env, K => K env
 | i, o :: rest, env, K => ∃ x, TOk P Hs l ss i env o x ∧ dstOk n o.dst = true ∧ TD P Hs l ss n (i + 1) rest (putEnv o.dst x env) K
theorem TD.mono {P : Program} {Hs : Nat → Mem} {ops : List Oper} {ss : List Nat} {n : Nat} {K K' : List (Nat × AV) → Prop} (hk : ∀ env, K env → K' env) : ∀ {k : Nat} {l : List Oper} {env : List (Nat × AV)}, TD P Hs ops ss n k l env K → TD P Hs ops ss n k l env K'
 | _, [], _, h => hk _ h
 | _, _ :: _, _, ⟨x, h1, h2, h3⟩ => ⟨x, h1, h2, h3.mono hk⟩
section
variable {c : Ctx} {r : Option Nat} {P : Program} {l : List Oper} {st : St} {Q : Exit → Act → World → Prop}
abbrev HM (Hs : Nat → List Ent) : Nat → Mem := fun j B _ I w => HeapOk B I w (Hs j)
abbrev GM (H0 : List Ent) (Hg : Value → List Ent) (de : Nat) : Nat → Mem := fun j B a I w => match j with
 | 0 => HeapOk B I w H0
 | _ => HeapOk B I w (Hg (a.tmps.getD de undef))
end
section
variable {P : Program} {L rest : List Oper} {ss : List Nat} {n i d : Nat} {o : Oper} {env : List (Nat × AV)} {K : List (Nat × AV) → Prop} {x : AV} {M : Nat → Mem} {Hs : Nat → List Ent}
theorem TD.nil (h : K env) : TD P M L ss n i [] env K := h
theorem TD.popC (lo hi : Nat) (hl : loOf L ss i = lo) (hh : hiOf L ss i = hi) (hs : stp ss i = 0) (hg : o.guard = none) (hd : o.dst = some d) (hn : Nat.blt d n = true) (h : ∀ j, lo ≤ j → j ≤ hi → POp P (Hs j) (envGet env) o x) (next : TD P (HM Hs) L ss n (i + 1) rest ((d, x) :: env) K) : TD P (HM Hs) L ss n i (o :: rest) env K :=
 ⟨x, fun j h1 h2 => by
  rw [hs]
  exact ⟨hg, fun B I w r a hw hm ho hz => h j (by omega) (by omega) B I w r a _ hw hm (fun _ h => h) ho⟩, dstOk_of hd hn, by rw [hd]; exact next⟩
theorem TD.stoC (q : Nat) (hl : loOf L ss i = q) (hh : hiOf L ss i = q) (hs : stp ss i = 1) (hg : o.guard = none) (hd : o.dst = none) (h : SOk P (Hs q) (Hs (q + 1)) (envGet env) o) (next : TD P (HM Hs) L ss n (i + 1) rest env K) : TD P (HM Hs) L ss n i (o :: rest) env K :=
 ⟨.any, fun j h1 h2 => by
  obtain rfl : j = q := by omega
  rw [hs]
  exact ⟨hg, fun B I w r a hw hm ho hz => (h B I w r a hw hm ho).mono (fun v w' ⟨I', a1, a2, a3⟩ => ⟨I', a1, a2, a3, .any _⟩) (fun _ _ h => h)⟩, by rw [hd]; rfl, by rw [hd]; exact next⟩
variable {H : List Ent} {Hg : Value → List Ent} {de : Nat}
theorem TD.popG (hs : stp ss i = 0) (hg : o.guard = none) (hd : o.dst = some d) (hn : Nat.blt d n = true) (hde : Nat.beq d de = false) (h : ∀ H, POp P H (envGet env) o x) (next : TD P (GM H Hg de) L ss n (i + 1) rest ((d, x) :: env) K) : TD P (GM H Hg de) L ss n i (o :: rest) env K :=
 ⟨x, fun j h1 h2 => by
  rw [hs]
  refine ⟨hg, fun B I w r a hw hm ho hz => ?_⟩
  cases j with
  | zero => exact h H B I w r a _ hw hm (fun _ h => h) ho
  | succ j =>
   refine (h (Hg (a.tmps.getD de undef)) B I w r a _ hw hm (fun _ h => h) ho).mono (fun v w' ⟨I', a1, a2, a3, a4⟩ => ⟨I', a1, a2, ?_, a4⟩) (fun _ _ h => h)
   have e : (a.put o.dst v).tmps.getD de undef = a.tmps.getD de undef := by
    rw [hd]; exact tmps_put_other (fun e => by subst e; simp at hde)
   show HeapOk B I' w' (Hg ((a.put o.dst v).tmps.getD de undef))
   rw [e]; exact a3, dstOk_of hd hn, by rw [hd]; exact next⟩
theorem TD.effG (hh : hiOf L ss i = 0) (hs : stp ss i = 1) (hg : o.guard = none) (hd : o.dst = some de) (hn : Nat.blt de n = true)
  (h : ∀ (B : Nat) (I : Imm) (w : World) (r : Option Nat) (a : Act), WOk B I w → HeapOk B I w H → OpsOk I w (envGet env) a o → Runs P r o a w (fun x w' => ∃ I', WOk B I' w' ∧ Ext B I w I' w' ∧ HeapOk B I' w' (Hg x)) (fun _ _ => False))
  (next : TD P (GM H Hg de) L ss n (i + 1) rest ((de, .any) :: env) K) : TD P (GM H Hg de) L ss n i (o :: rest) env K :=
 ⟨.any, fun j h1 h2 => by
  obtain rfl : j = 0 := by omega
  rw [hs]
  refine ⟨hg, fun B I w r a hw hm ho hz => (h B I w r a hw hm ho).mono (fun v w' ⟨I', a1, a2, a3⟩ => ⟨I', a1, a2, ?_, .any _⟩) (fun _ _ h => h)⟩
  show HeapOk B I' w' (Hg ((a.put o.dst v).tmps.getD de undef))
  rw [hd, tmps_put_same (hz de hd)]; exact a3, dstOk_of hd hn, by rw [hd]; exact next⟩
theorem SOk.store {H H' : List Ent} {ρ : Nat → Option AV} {t tb : TypeId} {p z : Operand} {y : AV} {gp g : Bool} {b off m : Nat} {cs ds : List AV} {agg : Bool} [ht : HasTy P t (agg, m)] (h : o.op = .store t p z)
  (hp : aev ρ p = some (gp, .p b off)) (hgp : gp = true) (hz : aev ρ z = some (g, y)) (hg : g = true) (hb : bOk y = true) (h1 : allOne (bcells y) = true)
  (hm : Nat.beq (bcells y).length m = true) (hu : Upd H (.blk b tb cs) (.blk b tb ds) H') (hfit : Nat.ble (off + (bcells y).length) cs.length = true) (hds : cs.take off ++ bcells y ++ cs.drop (off + (bcells y).length) = ds) : SOk P H H' ρ o := by
 intro B I w r a hw hh ho
 subst hds
 have ht' : tyInfo P t = some (agg, (bcells y).length) := by rw [Nat.eq_of_beq_eq_true hm]; exact ht.h
 have hpv := rel_val (ho.get (by simp [h, Op.operands]) hp hgp)
 have hzv := bcells_rel (ho.get (by simp [h, Op.operands]) hz hg) hb
 obtain ⟨hB, vs, hblk, hrel, hni⟩ := hh.ok _ hu.mem
 have hone := relL_one hzv h1
 have hlen : (a.eval z).cells.toList.length = (bcells y).length := hzv.length
 have hcl : vs.size = cs.length := by have := hrel.length; simpa using this
 have hfit' : off + 0 + (a.eval z).cells.toList.length ≤ vs.size := by
  have := Nat.le_of_ble_eq_true hfit
  rw [hlen, hcl]; omega
 have hrun := run_storeCells_at P b off tb (a.eval z).cells.toList 0 vs w hblk hfit' hone
 obtain ⟨_, hsz⟩ := tyInfo_run ht' w
 generalize hcur : (vs.toList.take (off + 0) ++ (a.eval z).cells.toList ++ vs.toList.drop (off + 0 + (a.eval z).cells.toList.length)).toArray = cur at hrun
 have hsize : (a.eval z).cells.size = (bcells y).length := by simpa using hlen
 have hexec : (execOp a.eval o).run P w = .ok .skip (w.setRow b cur) := by
  simp [execOp, h, Instr.storeAt, hpv, Instr.sureAddr, storeVar, hsz, hsize, hrun]
 have hkeep : Keeps I w I (w.setRow b cur) := ⟨fun _ _ x => x, fun b' o' hI => by
  have hne : b' ≠ b := fun e => by subst e; exact hni o' hI
  exact World.cell?_of_block (a := ⟨b', o', none⟩) (setRow_other w b b' cur hne)⟩
 have hext : Ext B I w I (w.setRow b cur) := ⟨hkeep.imm, hkeep.cell, ⟨rfl, rfl, rfl, by simp, fun k hk => setRow_other w b k cur (by omega)⟩⟩
 have hw' : WOk B I (w.setRow b cur) := ⟨by simpa using hw.base, fun b' o' hI => by rw [hkeep.cell b' o' hI]; exact hw.there b' o' hI⟩
 have hrel' : RelL I w (cs.take off ++ bcells y ++ cs.drop (off + (bcells y).length)) cur.toList := by
  rw [← hcur]
  simp only [Nat.add_zero, hlen]
  exact ((hrel.take off).append hzv).append (hrel.drop _)
 have hh' : HeapOk B I (w.setRow b cur) H' := by
  refine hh.upd hu hkeep (fun k hk hne => setRow_other w b k cur (fun e => hne (by subst e; rfl))) (fun _ _ x => .inl x) ?_ (fun k hk => .inl hk)
  exact ⟨hB, cur, setRow_heap w b vs cur tb (0, 0) hblk, hrel'.keep hkeep, hni⟩
 exact Runs.of_skip (by simp [h]) hexec ⟨I, hw', hext, hh'⟩
end
section
variable {P : Program}
theorem enter_sat {B : Nat} {I : Imm} {w : World} {n : Nat} {fn : Func} {xs : List AV} {vs : List Value} {H : List Ent} (hn : fn.ntmps = n) (hl : Nat.ble xs.length n = true) (hw : WOk B I w) (hh : HeapOk B I w H) (hv : RelL I w xs vs) :
  Sat ⟨B, I, w, n, []⟩ ⟨envOf 0 xs, H⟩ { tmps := vs.toArray ++ Array.replicate (fn.ntmps - vs.toArray.size) undef, defers := [] } w := by
 refine ⟨rfl, ?_, I, hw, Ext.refl _ _ _, hh, fun t y hy => ?_⟩
 ·have := hv.length
  have := Nat.le_of_ble_eq_true hl
  simp; omega
 ·obtain ⟨v, h1, h2⟩ := hv.get (by have := (envOf_get xs 0 t y hy).2; simpa using this)
  have : (vs.toArray ++ Array.replicate (fn.ntmps - vs.toArray.size) undef).getD t undef = v := by
   have hlt := (List.getElem?_eq_some_iff.1 h1).1
   simp only [Array.getD_eq_getD_getElem?]
   rw [Array.getElem?_append_left (by simpa using hlt)]
   simp [h1]
  rw [this]; exact h2
theorem ACall.mkD {f : FuncId} {fn : Func} {code : Code} {xs : List AV} {H : List Ent} {Φ : AV → List Ent → Prop} {E : AV → List Ent → Prop} {n : Nat} (hf : P.funcs[f]? = some fn) (hb : fn.body = some code) (hnm : (fn.name == "runtime.NumGoroutine") = false)
  (hn : fn.ntmps = n) (hl : Nat.ble xs.length n = true) (h : ∀ B I w, CW ⟨B, I, w, n, []⟩ none P code ⟨envOf 0 xs, H⟩ (bodyPostDIn (FW none) 0 P fn (RetP B I w Φ E))) : ACall P f xs H Φ E :=
 ⟨by simp [fnOk, hf, hb, hnm], fun B I w vs hw hh hv => calls_of_FW (n := 0) (callsIn_of_wp_defers hf hb trivial (h B I w _ w (enter_sat hn hl hw hh hv)) rfl)⟩
variable {c : Ctx} {r : Option Nat} {ops : Array Oper} {l rest : List Oper} {o : Oper} {env : List (Nat × AV)} {H : List Ent} {Q : Exit → Act → World → Prop} {d : Nat}
def ifaceOk (P : Program) (t : TypeId) : Bool := match P.underlying t with
 | some (.interface _) => false
 | some _ => true
 | none => false
theorem POp.makeIface {ρ : Nat → Option AV} {t : TypeId} {x : Operand} {y : AV} {g : Bool} (h : o.op = .makeInterface t x) (hx : aev ρ x = some (g, y)) (hg : g = true) (ht : ifaceOk P t = true) : POp P H ρ o (.iface t y) := by
 intro B I w r a Hc hw hh hs ho
 have hr : (execOp a.eval o).run P w = .ok (.value (.iface t (a.eval x))) w := by
  unfold ifaceOk at ht
  cases hu : P.underlying t with
  | none => simp [hu] at ht
  | some u => cases u <;> simp [hu] at ht <;> simp [execOp, h, Instr.makeInterface, run_underlying hu]
 exact Runs.of_value (by simp [h]) hr ⟨I, hw, Ext.refl _ _ _, hh, .iface _ _ _ (ho.get (by simp [h, Op.operands]) hx hg)⟩
def AV.is (y : AV) (v : Value) : Prop := ∀ (I : Imm) (w : World) (u : Value), Rel I w y u → u = v
theorem OL.panicX {x : Operand} {y : AV} {g : Bool} {t : TypeId} {v : Value} (hgd : o.guard = none) (h : o.op = .panic x) (hx : aev (envGet env) x = some (g, y)) (hg : g = true) (hy : y.is (.iface t v))
  (next : Done c ⟨env, H⟩ (.panic [{ v := .iface t v, recovered := false }]) Q) : OL c r P ops (o :: rest) ⟨env, H⟩ Q := by
 intro a w s
 refine wpListIn_plain hgd fun K hK => ?_
 obtain ⟨I, hw, he, hh, hv⟩ := s.mem
 have hxv := hy _ _ _ ((hv.ops o).get (by simp [h, Op.operands]) hx hg)
 have hr : (execOp a.eval o).run P w = .halt (.panic (.iface t v)) w := by
  simp [execOp, h, hxv, Instr.panic]
 refine Runs.of_panic (R := fun _ _ => False) (E := fun ch w' => ch = [{ v := .iface t v, recovered := false }] ∧ w' = w) (by simp [h]) hr ⟨rfl, rfl⟩ K Q (fun _ _ h => h.elim) ?_
 rintro ch w' ⟨rfl, rfl⟩
 exact next a w' s
theorem OL.deferC {x : Operand} {ts : Array TypeId} {k : FuncId} {vs : List Value} {g : Bool} (hr0 : r = none) (hgd : o.guard = none) (hd : o.dst = none) (h : o.op = .defer { callee := .value x, args := #[], argTypes := ts }) (hx : aev (envGet env) x = some (g, .fn (.func k) [] (vs.map .val))) (hg : g = true)
  (next : OL ⟨c.B, c.I0, c.w0, c.n, { target := .fn (.func k) vs.toArray, args := #[] } :: c.ds⟩ r P ops rest ⟨env, H⟩ Q) : OL c r P ops (o :: rest) ⟨env, H⟩ Q := by
 intro a w s
 refine wpListIn_plain hgd fun K hK => ?_
 obtain ⟨I, hw, he, hh, hv⟩ := s.mem
 have hxv : a.eval x = .func (.func k) #[] vs.toArray := by
  have h0 := (hv.ops o).get (by simp [h, Op.operands, Call.operands]) hx hg
  generalize a.eval x = u at h0
  cases h0 with
  | fn _ _ _ vf vc hf hc =>
   have h1 := rel_vals hc
   have h2 : vf.toList = [] := by
    have := hf.length
    exact List.eq_nil_of_length_eq_zero this
   rw [← h1]
   congr
   exact Array.toList_eq_nil_iff.1 h2
 have hr : (execOp a.eval o).run P w = .ok (.defer { target := .fn (.func k) vs.toArray, args := #[] }) w := by
  simp [execOp, h, resolve, Deferred.ofValue, hxv]
 unfold Oper.wpIn
 refine ⟨fun _ _ => trivial, ?_⟩
 subst hr0
 have hs : o.semAt (FW none).round a.eval = execOp a.eval o := rfl
 rw [hs, hr, Oper.uponIn_defer]
 refine hK _ _ ?_
 rw [hd]
 exact next _ _ ⟨by show _ :: a.defers = _; rw [s.ds], s.size, I, hw, he, hh, fun t y hy => hv t y hy⟩
theorem CW.scope {st : St} {p : Code} (h : CW c none P p st (Exit.noGoto Q)) : CW c none P (.scope p) st Q := fun a w s =>
 (wpIn_wide (n := 0)).2 (wp_scope_straight ((wpIn_wide (n := 0)).1 (h a w s)))
theorem CW.label {st : St} {k : Nat} (h : Done c st .normal Q) : CW c r P (.label k) st Q := fun a w s => wpIn_label (h a w s)
end
section
variable {P : Program} {H : List Ent} {ρ : Nat → Option AV} {o : Oper}
theorem Borrow.blk {t b k cap : Nat} {els : List (List AV)} {more : List AV} {pre post : List AV} (hm : Ent.blk b t (els.flatten ++ more) ∈ H) (hk : ∀ e ∈ els, e.length = k) (hc : els.length ≤ cap) (hcm : cap ≤ maxLen) : Borrow H (pre ++ .val (.slice (some ⟨b, 0, none⟩) els.length cap) :: post) (pre ++ .sl k els :: post) := by
 intro B I w Hc vs hw hh hs hr
 obtain ⟨hB, us, hb, hrel, hni⟩ := hh.ok _ (hs _ hm)
 let J : Imm := fun b' o' => I b' o' ∨ (b' = b ∧ o' < us.size)
 have kk : Keeps I w J w := ⟨fun _ _ h => .inl h, fun _ _ _ => rfl⟩
 refine ⟨J, fun b' o' h => ?_, ?_⟩
 ·rcases h with h | ⟨rfl, h⟩
  ·exact hw.there b' o' h
  ·exact ⟨us[o'], by rw [cell_of_blk hb]; exact Array.getElem?_eq_getElem h⟩
 obtain ⟨as, zs, rfl, r1, r2⟩ := hr.append_inv
 cases r2 with
 | cons _ u _ zs hx ht =>
  have := rel_val hx
  subst this
  have hlen := hrel.length
  rw [List.length_append, flatten_len hk] at hlen
  have hsz : us.size = els.length * k + more.length := by simpa using hlen
  have hcells : Cells J w b 0 (els.flatten ++ more) := cells_of hb _ us.toList 0 (hrel.keep kk) (fun j u hu => by simpa using hu) (fun j hj => .inr ⟨rfl, by rw [List.length_append, flatten_len hk] at hj; omega⟩)
  have hc2 := hcells.take els.flatten.length
  rw [List.take_left] at hc2
  exact (r1.keep kk).append (.cons _ _ _ _ (.sl _ _ _ _ _ _ rfl hc hcm (els_of_cells els 0 hk hc2)) (ht.keep kk))
end
section
variable {c : Ctx} {r : Option Nat} {P : Program} {ops : Array Oper} {l rest : List Oper} {o : Oper} {env : List (Nat × AV)} {H : List Ent} {Q : Exit → Act → World → Prop} {d : Nat}
end
section
variable {c : Ctx} {r : Option Nat} {P : Program} {l : List Oper} {Q : Exit → Act → World → Prop}
end
section
variable {P : Program} {L rest : List Oper} {ss : List Nat} {n i d : Nat} {o : Oper} {env : List (Nat × AV)} {K : List (Nat × AV) → Prop} {x : AV} {H : List Ent} {Hb : Nat → Nat → List Ent} {de : Nat}
end
theorem post_of_below {H : Type} {enc : TypeId × Value → H} {P : Program} {f : Func} {s : ChangeSpec} {apart fresh handsOn again : Bool} {W W' : World} {args : Array Value} {v : Value} {ds gs : List (DataW H)} {before pa pv : List MemPlace}
  (hW : DataW.Whole enc P f.params.toList s.vars apart W args.toList ds gs before)
  (hres : ∀ (b : Nat) (sp : Nat → Bool) (hd : Bool), DataW.TrodAll enc P W' b sp hd f.resultTypes.toList (v.resultList f.resultTypes.size) (s.fn H (ds ++ gs)).results [])
  (hargs : ∀ sp : Nat → Bool, (∀ p ∈ before, sp p.block = true) → DataW.TrodAll enc P W' 0 sp true f.params.toList args.toList (s.fn H (ds ++ gs)).args pa)
  (hvars : ∀ sp : Nat → Bool, (∀ p ∈ before, sp p.block = true) → DataW.TrodVars enc P W' sp s.vars (s.fn H (ds ++ gs)).vars pv)
  (hps : before = pa ++ pv) (hb : Below W.heap.size W W')
  (hok : ∀ (j : Nat) (t : TypeId) (r : Value), f.resultTypes[j]? = some t → (v.resultList f.resultTypes.size)[j]? = some r → Value.okWide P W' .any 0 t r) :
  s.post enc P f apart fresh handsOn again W args v W' := by
 have hold : ∀ p ∈ before, (fun b => decide (b < W.heap.size)) p.block = true := fun p hp => by simpa using hW.lt p hp
 have hlt : ∀ p ∈ before, p.block < W.heap.size := fun p hp => hW.lt p hp
 refine ⟨ds, gs, before, [], pa, pv, hW, hres _ _ _, hargs _ hold, hvars _ hold, hb.frame _, fun _ => ?_⟩
 obtain ⟨_, _, _, _, _, hz, hn⟩ := hW
 refine ⟨hok, _, _, ([] ++ pa) ++ pv, ⟨[] ++ pa, pv, trodAll_append (hargs _ (fun _ _ => rfl)) (hres _ _ _), hvars _ (fun _ _ => rfl), rfl, ?_, ?_⟩, ?_⟩
 ·intro b off hp
  have hp' : MemPlace.cell b off ∈ before := by rw [hps]; simpa using hp
  rw [hb.frozen (p := ⟨b, off, none⟩) (hlt _ hp')]
  exact hz b off hp'
 ·intro ha
  have := hn ha
  rw [hps] at this
  simpa using this
 ·intro p hp _
  rw [hps]
  simpa using hp
def mkInfo (P : Program) (t : TypeId) : Option (TypeId × Nat × Value) :=
 match P.underlying t with
 | some (.slice e) => match P.info? e with
  | some i => match i.zero with
   | some z => match z.cells.toList with
    | [v] => bif Nat.beq i.size 1 then some (e, i.bytes, v) else none
    | _ => none
   | none => none
  | none => none
 | _ => none
class HasMk (P : Program) (t : Nat) (x : outParam (Nat × Nat × Value)) : Prop where h : mkInfo P t = some x
section
variable {P : Program} {c : Ctx} {r : Option Nat} {ops : Array Oper} {rest : List Oper} {env : List (Nat × AV)} {H : List Ent} {Q : Exit → Act → World → Prop} {o : Oper} {d : Nat}
end
def allI (w : World) : Imm := fun b o => ∃ c, w.cell? ⟨b, o, none⟩ = some c
theorem allI_ok (w : World) : WOk w.heap.size (allI w) w := ⟨Nat.le_refl _, fun _ _ h => h⟩
section
variable {H : Type} {enc : TypeId × Value → H} {P : Program} {w : World} {base : Nat} {spare : Nat → Bool} {held : Bool}
def Reads (enc : TypeId × Value → H) (P : Program) (w : World) (base : Nat) (spare : Nat → Bool) (held : Bool) (n : Nat) (t : TypeId) {α : Type} (e : α → List AV) : Prop :=
 ∀ fuel, fuel ≤ n → ∀ cs x, DataW.trod enc P w base spare held fuel t cs = some x → ∃ y : α, RelL (allI w) w (e y) cs
theorem Reads.le {n m : Nat} {t : TypeId} {α : Type} {e : α → List AV} (h : Reads enc P w base spare held n t e) (hm : m ≤ n) : Reads enc P w base spare held m t e := fun f hf => h f (Nat.le_trans hf hm)
theorem cells_all {b o : Nat} : ∀ {xs : List AV} {cs : List Value}, RelL (allI w) w xs cs → (∀ i, i < cs.length → w.cell? ⟨b, o + i, none⟩ = cs[i]?) → Cells (allI w) w b o xs
 | [], cs, _, _ => .nil _ _
 | x :: xs, cs, h, hc => by
  cases h with
  | cons _ v _ vs hx ht =>
   have h0 := hc 0 (by simp)
   simp at h0
   exact .cons _ _ _ _ _ h0 ⟨v, h0⟩ hx (cells_all ht fun i hi => by
    have := hc (i + 1) (by simp; omega)
    rw [Nat.add_assoc, Nat.add_comm 1 i]; simpa using this)
theorem reads_slice {n k : Nat} {t e : TypeId} {α : Type} {en : α → List AV} (ht : P.underlying t = some (.slice e)) (hk : P.cellsOf e = k) (hk0 : 0 < k) (hen : ∀ y, (en y).length = k) (he : Reads enc P w base spare held n e en) :
  Reads enc P w base spare held (n + 1) t (fun l : List α => [AV.sl k (l.map en)]) := fun fuel hf cs x h => by
 rcases DataW.trod_slice ht h with ⟨rfl, _⟩ | ⟨a, len, cap, elems, rest, m, rfl, rfl, rfl, hb, hc, hm, hl, hget, _⟩
 ·exact ⟨[], .cons _ _ _ _ (.sl0 _ _ _) .nil⟩
 ·have key : ∀ j, j ≤ len → ∃ l : List α, l.length = j ∧ (j = 0 ∨ a.spot = none) ∧ Els (allI w) w k a.block a.off (l.map en) := by
   intro j
   induction j with
   | zero => intro _; exact ⟨[], rfl, .inl rfl, .nil _ _ _⟩
   | succ j ih =>
    intro hj
    obtain ⟨l, h1, h2, h3⟩ := ih (by omega)
    have hg := hget j (by omega)
    rw [List.getElem?_eq_getElem (by omega)] at hg
    obtain ⟨cs', h4, h5⟩ := Option.bind_eq_some_iff.1 hg
    obtain ⟨h6, h7, h8⟩ := World.cells?_some h4
    obtain ⟨y, hy⟩ := he m (by omega) cs' _ h5
    have hlen : cs'.length = k := by rw [h7, hk]
    have hsp : a.spot = none := by
     by_cases hj0 : j = 0
     ·have h9 := h8 0 (by omega)
      rw [List.getElem?_eq_getElem (by omega), hj0, Nat.zero_mul] at h9
      have e3 : (a.add 0).add 0 = a := by simp [Addr.add]
      rw [e3] at h9
      cases hs : a.spot with
      | none => rfl
      | some q =>
       exfalso
       unfold World.cell? at h9
       rw [hs] at h9
       split at h9 <;> simp at h9
     ·exact h2.resolve_left (by omega)
    refine ⟨l ++ [y], by simp [h1], .inr hsp, ?_⟩
    rw [List.map_append]
    have hcl : Cells (allI w) w a.block (a.off + j * k) (en y) := cells_all hy fun i hi => by
     have h9 := h8 i (by omega)
     have e2 : (a.add (j * P.cellsOf e)).add i = ⟨a.block, a.off + j * k + i, none⟩ := by
      rw [Addr.add_add, hk]
      unfold Addr.add
      split
      ·obtain ⟨ab, ao, asp⟩ := a
       simp at hsp; subst hsp; simp; omega
      ·simp <;> omega
     rw [e2] at h9; exact h9
    exact h3.append (.cons _ _ _ _ _ (hen y) (by rw [List.length_map, h1]; exact hcl) (.nil _ _ _))
  obtain ⟨l, h1, h2, h3⟩ := key len (Nat.le_refl _)
  refine ⟨l, .cons _ _ _ _ ?_ .nil⟩
  rcases h2 with h2 | h2
  ·have : l = [] := List.eq_nil_of_length_eq_zero (by omega)
   subst this h2
   exact .sl0 _ _ _
  ·obtain ⟨b, o, sp⟩ := a
   simp at h2; subst h2
   exact .sl _ _ _ _ _ _ (by simp [h1]) hc hm h3
end
theorem args_stay {H : Type} {enc : TypeId × Value → H} {P : Program} (hl : laidOutB P = true) {W W' : World} (hb : Below W.heap.size W W') {sp : Nat → Bool} :
  ∀ {ts : List TypeId} {vs : List Value} {ds : List (DataW H)} {ps : List MemPlace}, (∀ t ∈ ts, P.readableRec t = true ∧ t < P.types.size) → DataW.TrodAll enc P W 0 (fun _ => true) true ts vs ds ps →
   (∀ p ∈ ps, p.block < W.heap.size) → (∀ p ∈ ps, sp p.block = true) → DataW.TrodAll enc P W' 0 sp true ts vs ds ps
 | [], vs, ds, ps, _, h, _, _ => by
  obtain ⟨rfl, rfl, rfl⟩ := trodAll_nil h
  exact h
 | t :: ts, vs, ds, ps, ht, h, h1, h2 => by
  obtain ⟨v, vs1, d, ds1, a, b, rfl, rfl, rfl, h3, h4⟩ := trodAll_cons h
  have hr := ht t (.head _)
  exact ⟨a, b, Go.WideElems.Trod_stays hl hr.1 hr.2 h3 (fun p hp => hb.same (h1 p (List.mem_append_left _ hp))) (fun p hp => h2 p (List.mem_append_left _ hp)),
   args_stay hl hb (fun t' ht' => ht t' (.tail _ ht')) h4 (fun p hp => h1 p (List.mem_append_right _ hp)) (fun p hp => h2 p (List.mem_append_right _ hp)), rfl⟩
section
variable {P : Program} {r : Option Nat} {o : Oper} {H : List Ent}
theorem appendRow_runs0 {B : Nat} {I : Imm} {w : World} {a : Act} {ρ : Nat → Option AV} {s z : Operand} {t e k by_ n : Nat} {cs : List AV} {news : List (List AV)} {v : Value} {y : AV} {g1 g2 : Bool} {H' : Value → List Ent} [hA : HasApp P t (e, k, by_)]
  (h : o.op = .call { callee := .builtin .append, args := #[s, z], argTypes := #[t, t] }) (hs : aev ρ s = some (g1, .val v)) (hg1 : g1 = true) (hz : aev ρ z = some (g2, y)) (hg2 : g2 = true) (hy : AVle y (.sl k news))
  (h1 : news.all allOne = true) (hu : ∀ v', Upd H (.row e k v n cs) (.row e k v' (n + news.length) (cs ++ news.flatten)) (H' v')) (hb : (n + news.length) * by_ ≤ 140737488355328) (hb' : n + news.length ≤ 9223372036854775807)
  (hw : WOk B I w) (hh : HeapOk B I w H) (ho : OpsOk I w ρ a o) : Runs P r o a w (fun x w' => ∃ I', WOk B I' w' ∧ Ext B I w I' w' ∧ HeapOk B I' w' (H' x)) (fun _ _ => False) := by
 by_cases hne : news = []
 ·subst hne
  obtain ⟨i, zv, hut, hi, hzz, hsz, hby, hzs, hk0⟩ := appInfo_spec hA.h
  have hsv := rel_val (ho.get (by simp [h, Op.operands, Call.operands]) hs hg1)
  have hzr := hy _ _ _ (ho.get (by simp [h, Op.operands, Call.operands]) hz hg2)
  obtain ⟨xs, hrow, hrx, hni⟩ := hh.ok _ (hu v).mem
  obtain ⟨us, r1, r2⟩ := src_of (P := P) (tx := t) hut hzr (by simp)
  have hus : us = [] := by cases r1; rfl
  subst hus
  rw [← hsz] at r2
  have hv : ∃ ad m cp, v = .slice ad m cp ∧ m ≤ cp := by
   rcases hrow.2 with ⟨rfl, _⟩ | ⟨g, cap, cur, rfl, _, _, hc, _⟩
   ·exact ⟨none, 0, 0, rfl, Nat.le_refl _⟩
   ·exact ⟨_, _, _, rfl, hc⟩
  obtain ⟨ad, m, cp, rfl, hle⟩ := hv
  have hr := run_append_nothing (P := P) w t t o.type e i hut hi ad m cp hle (a.eval z) r2
  refine Runs.of_value (by simp [h]) (run_appendOp h a w (by rw [hsv]; exact hr)) ⟨I, hw, Ext.refl _ _ _, ?_⟩
  refine hh.upd (hu _) ⟨fun _ _ x => x, fun _ _ _ => rfl⟩ (fun b _ _ => rfl) (fun b o hx => .inl hx) ⟨xs, by simpa using hrow, by simpa using hrx, hni⟩ (fun b hb => .inl hb)
 ·exact appendRow_runs h hs hg1 hz hg2 hy hne h1 hu hb hb' hw hh ho
end
abbrev CM (e k : Nat) (H : List Ent) (E1 E2 : List (List AV)) (d1 d2 : Nat) : Nat → Mem := fun j B a I w => match j with
 | 0 => HeapOk B I w (.row e k (.slice none 0 0) 0 [] :: H)
 | 1 => HeapOk B I w (.row e k (a.tmps.getD d1 undef) E1.length E1.flatten :: H)
 | _ => HeapOk B I w (.row e k (a.tmps.getD d2 undef) (E1 ++ E2).length (E1 ++ E2).flatten :: H)
section
variable {c : Ctx} {r : Option Nat} {P : Program} {l : List Oper} {Q : Exit → Act → World → Prop}
end
section
variable {P : Program} {L rest : List Oper} {ss : List Nat} {n i d : Nat} {o : Oper} {env : List (Nat × AV)} {K : List (Nat × AV) → Prop} {x : AV} {H : List Ent} {e k : Nat} {E1 E2 : List (List AV)} {d1 d2 : Nat}
theorem TD.app2 {s z : Operand} {t by_ : Nat} {y : AV} {g2 : Bool} [hA : HasApp P t (e, k, by_)] (hl : loOf L ss i = 1) (hh : hiOf L ss i = 1) (hs : stp ss i = 1) (hg : o.guard = none) (hd : o.dst = some d2) (hn : Nat.blt d2 n = true)
  (h : o.op = .call { callee := .builtin .append, args := #[s, z], argTypes := #[t, t] }) (hsv : s = .tmp d1) (hz : ∀ γ, aev (envGet ((d1, .val γ) :: env)) z = some (g2, y)) (hg2 : g2 = true) (hy : AVle y (.sl k E2))
  (h1 : E2.all allOne = true) (hb : (E1.length + E2.length) * by_ ≤ 140737488355328) (hb' : E1.length + E2.length ≤ 9223372036854775807)
  (next : TD P (CM e k H E1 E2 d1 d2) L ss n (i + 1) rest ((d2, .any) :: env) K) : TD P (CM e k H E1 E2 d1 d2) L ss n i (o :: rest) env K :=
 ⟨.any, fun j q1 q2 => by
  obtain rfl : j = 1 := by omega
  rw [hs]
  refine ⟨hg, fun B I w r a hw hm ho hzz => ?_⟩
  have ho' : OpsOk I w (envGet ((d1, .val (a.tmps.getD d1 undef)) :: env)) a o := fun x hx y hy => by
   cases x with
   | tmp t =>
    simp only [aeval] at hy
    rw [envGet_cons] at hy
    split at hy
    ·rename_i e
     subst e
     cases hy
     exact .val _
    ·exact ho _ hx y hy
   | const v => exact ho _ hx y hy
   | global g => exact ho _ hx y hy
   | func f => exact ho _ hx y hy
  refine (appendRow_runs0 (news := E2) (v := a.tmps.getD d1 undef) (g1 := true) (H' := fun v => .row e k v (E1 ++ E2).length (E1 ++ E2).flatten :: H) h (by subst hsv; simp [aev, aeval, envGet_cons, strip]) rfl (hz _) hg2 hy h1 (fun v' => by rw [List.length_append, List.flatten_append]; exact .head _ _ _) hb hb' hw hm ho').mono (fun v w' ⟨I', a1, a2, a3⟩ => ⟨I', a1, a2, ?_, .any _⟩) (fun _ _ h => h)
  show HeapOk B I' w' (.row e k ((a.put o.dst v).tmps.getD d2 undef) (E1 ++ E2).length (E1 ++ E2).flatten :: H)
  rw [hd, tmps_put_same (hzz d2 hd)]; exact a3, dstOk_of hd hn, by rw [hd]; exact next⟩
end
def fldV (P : Program) (t : TypeId) (f : Nat) : Option Nat :=
 match P.underlying t with
 | some (.struct fs) => match fs[f]? with
  | some fd => match tyInfo P fd.type with
   | some (false, _) => some fd.offset
   | _ => none
  | none => none
 | _ => none
class HasFldV (P : Program) (t f : Nat) (x : outParam Nat) : Prop where h : fldV P t f = some x
section
variable {P : Program} {H : List Ent} {ρ : Nat → Option AV} {o : Oper}
end
structure SegOkW (l : List Oper) (k m dW : Nat) : Prop where
 back : ∀ i o, l[i]? = some o → ∀ j ∈ deps o, j < i
 tail : ∀ i, m ≤ i → i < l.length → ∀ j, k ≤ j → j < m → ((masks l []).getD i 0).testBit j = true
 apart : ∀ i oi j oj d, k ≤ i → i < m → l[i]? = some oi → k ≤ j → j < m → l[j]? = some oj → oj.dst = some d → i ≠ j → oi.dst ≠ some d
 looked : ∀ i oi j oj d, d ≠ dW → k ≤ i → i < m → l[i]? = some oi → k ≤ j → j < m → l[j]? = some oj → oj.dst = some d → d ∈ looks l oi → j < i ∧ ((masks l []).getD i 0).testBit j = true
section
variable {c : Ctx} {r : Option Nat} {P : Program} {l : List Oper} {st : St} {Q : Exit → Act → World → Prop}
end
section
variable {c : Ctx} {r : Option Nat} {P : Program} {l : List Oper} {Q : Exit → Act → World → Prop}
end
section
variable {P : Program} {L rest : List Oper} {n i d e : Nat} {o : Oper} {env : List (Nat × AV)} {K : List (Nat × AV) → Prop} {x : AV} {H : List Ent} {x0 x1 : AV} {dW : Nat}
end
theorem buildSlice_run' {P : Program} {t e : TypeId} {n k : Nat} {zs : List Value} (hue : P.underlying t = some (.slice e)) (hr : rowInfo P t = some (k, zs)) (parts : Array (Nat × Value)) (us : Array Value) (hsm : n * k ≤ 16777216) (hpos : 0 < n * k)
  (h : Instr.fill (fun i => some (i * k, k)) (rowZero n k zs).toArray parts.toList = some us) (w : World) :
  (Instr.buildSlice t n parts).run P w = .ok (.slice (some ⟨w.heap.size, 0, none⟩) n n) (w.alloc (.cells us e)) := by
 obtain ⟨e', i, z, hu, hi, hz, hk, hzs⟩ := rowInfo_spec hr
 obtain rfl : e' = e := by rw [hu] at hue; cases hue; rfl
 have hsm' : ¬ n * i.size > 2 ^ 24 := by rw [hk]; omega
 have hpos' : ¬ n * i.size = 0 := by rw [hk]; omega
 have hf : Instr.fill (fun j => some (j * i.size, i.size)) ((Array.range (n * i.size)).map (z.cells[· % z.cells.size]!)) parts.toList = some us := ?_
 ·simp [Instr.buildSlice, run_underlying hu, sizeOf, typeInfo, zeroValue, hi, hz, hsm', hpos', hf, newRow]
 rw [hk, ← h]
 congr 1
 apply Array.ext'
 simp only [rowZero, Array.toList_map, Array.toList_range, ← hzs]
 refine List.map_congr_left fun j _ => ?_
 simp [Array.getElem!_eq_getD, Array.getD_eq_getD_getElem?, List.getD_eq_getElem?_getD]
section
variable {c : Ctx} {r : Option Nat} {P : Program} {ops : Array Oper} {l rest : List Oper} {o : Oper} {env : List (Nat × AV)} {H : List Ent} {Q : Exit → Act → World → Prop} {d : Nat}
theorem OL.rowOwn {t e by_ : Nat} {n k : Nat} {ps : Array (Nat × Operand)} {zs : List Value} {ys : List (Bool × AV)} {els : List (List AV)} [hA : HasApp P t (e, k, by_)] [hR : HasRow P t (k, zs)] (hgd : o.guard = none) (hd : o.dst = some d) (hn : Nat.blt d c.n = true) (h : o.op = .buildSlice t n ps)
  (hy : aevs (envGet env) (ps.toList.map (·.2)) = some ys) (hg : ys.all (·.1) = true) (hels : (partsOf ps.toList ys).map (fun x => bcells x.2) = els) (hlen : Nat.beq els.length n = true) (hk : els.all (fun e => Nat.beq e.length k) = true)
  (hsm : Nat.ble (n * k) 16777216 = true) (hpos : Nat.blt 0 (n * k) = true)
  (hf : bfill (fun i => some (i * k, k)) ((rowZero n k zs).map .val) (partsOf ps.toList ys) = some els.flatten)
  (next : ∀ v, OL c r P ops rest ⟨(d, .as (.sl k els) v) :: env, .own e k v :: H⟩ Q) : OL c r P ops (o :: rest) ⟨env, H⟩ Q := by
 intro a w s
 refine wpListIn_plain hgd fun K hK => ?_
 obtain ⟨I, hw, he, hh, hv⟩ := s.mem
 have ho := hv.ops o
 obtain ⟨e1, e2⟩ := parts_rel ho ps (by simp [h, Op.operands]) hy hg
 obtain ⟨us, h1, h2⟩ := bfill_rel _ _ ((rowZero n k zs).map .val) (rowZero n k zs).toArray els.flatten (by simpa using relL_val _) e1 e2 hf
 have hsm := Nat.le_of_ble_eq_true hsm
 have hpos : 0 < n * k := Nat.le_of_ble_eq_true hpos
 obtain ⟨i, z, hu, hi, hz, hki, hby, hzs, hk0⟩ := appInfo_spec hA.h
 have hrun := buildSlice_run' hu hR.h (ps.map fun (i, x) => (i, a.eval x)) us hsm hpos h1 w
 obtain ⟨a1, a2, a3, a4⟩ := Imm.add_new hw e us
 have hn' := Nat.eq_of_beq_eq_true hlen
 have hnk : n ≤ n * k := by
  rcases Nat.eq_zero_or_pos k with rfl | hk'
  ·simp at hpos
  ·exact Nat.le_mul_of_pos_right n hk'
 have hkl : ∀ x ∈ els, x.length = k := fun x hx => Nat.eq_of_beq_eq_true (List.all_eq_true.1 hk x hx)
 have hus : us.size = n * k := by
  have := h2.length
  rw [flatten_len hkl, hn'] at this
  simpa using this
 refine Runs.of_value (R := fun v w' => v = .slice (some ⟨w.heap.size, 0, none⟩) n n ∧ w' = w.alloc (.cells us e)) (E := fun _ _ => False) (v := .slice (some ⟨w.heap.size, 0, none⟩) n n) (w' := w.alloc (.cells us e)) (by simp [h]) (by simp [execOp, h, hrun]) ⟨rfl, rfl⟩ K Q ?_ (fun _ _ h => h.elim)
 rintro v w' ⟨rfl, rfl⟩
 have hrow : (w.alloc (.cells us e)).ownsRow c.B e k (.slice (some ⟨w.heap.size, 0, none⟩) n n) n us.toList := ⟨by simpa using hus, .inr ⟨w.heap.size, n, us, rfl, hw.base, heap_alloc_new w _, Nat.le_refl _, by simp only [maxLen]; omega, hus, by rw [← hus, ← Array.length_toList]; exact List.take_length⟩⟩
 have h3 := a3 _ hh
 refine hK _ _ (next (.slice (some ⟨w.heap.size, 0, none⟩) n n) _ _ ⟨by rw [put_defers]; exact s.ds, by rw [tmps_put_size]; exact s.size, _, a1, he.trans a2, ⟨fun f hf => ?_, List.pairwise_cons.2 ⟨fun f hf b hb e => ?_, h3.apart⟩⟩, ?_⟩)
 ·rcases List.mem_cons.1 hf with rfl | hf
  ·refine ⟨n, us.toList, hrow, fun g hg o hgo ho => ?_⟩
   simp [Value.ownBlock] at hg; subst hg
   rcases ho with ho | ⟨_, ho⟩
   ·exact absurd (hw.lt ho) (Nat.lt_irrefl _)
   ·omega
  ·exact h3.ok f hf
 ·simp [Ent.foot, Value.ownBlock] at hb; subst hb
  exact absurd (Ent.foot_lt (hh.ok f hf) e).2 (Nat.lt_irrefl _)
 ·rw [hd]
  refine (hv.keep a2.keeps).put (dst := some d) (by rw [s.size]; exact hn) (.as _ _ (.sl _ _ _ _ _ _ hn' (Nat.le_refl _) (by simp only [maxLen]; omega) ?_))
  exact els_of_cells els 0 hkl (a4 _ h2)
end
def OCall (P : Program) (f : FuncId) (xs : List AV) (e k : Nat) (y : AV) : Prop := ∀ H, ACall P f xs H (fun x H' => ∃ v, x = .as y v ∧ H' = .own e k v :: H) (fun _ _ => False)
section
variable {c : Ctx} {r : Option Nat} {P : Program} {l : List Oper} {Q : Exit → Act → World → Prop}
end
section
variable {P : Program} {L rest : List Oper} {ss : List Nat} {n i d : Nat} {o : Oper} {env : List (Nat × AV)} {K : List (Nat × AV) → Prop} {x : AV} {H : List Ent} {e1 k1 e2 k2 d1 d2 : Nat}
theorem OCall.runs {f : FuncId} {xs : List AV} {e k : Nat} {y : AV} {ρ : Nat → Option AV} (hc : CallOk P ρ o f xs) (h : OCall P f xs e k y) (H : List Ent) {B : Nat} {I : Imm} {w : World} {r : Option Nat} {a : Act} (hw : WOk B I w) (hh : HeapOk B I w H) (ho : OpsOk I w ρ a o) :
  Runs P r o a w (fun v w' => ∃ I', WOk B I' w' ∧ Ext B I w I' w' ∧ HeapOk B I' w' (.own e k v :: H) ∧ Rel I' w' y v) (fun _ _ => False) := by
 obtain ⟨vs, h1, h2⟩ := hc.run I w a ho
 obtain ⟨hok, hcall⟩ := h H
 refine Runs.of_enter hc.nodefer (h2 hok) ((hcall B I w vs hw hh h1).mono fun e w' hr => ?_)
 obtain ⟨I', H', hw', he', hh', hr⟩ := hr
 rcases hr with ⟨v, x, rfl, hx, u, rfl, rfl⟩ | ⟨v, x, rfl, _, hE⟩
 ·cases hx with
  | as _ _ hx => exact ⟨I', hw', he', hh', hx⟩
 ·exact hE.elim
end
section
variable {c : Ctx} {r : Option Nat} {P : Program} {ops : Array Oper} {l rest : List Oper} {o : Oper} {st : St} {Q : Exit → Act → World → Prop} {x : AV}
end
section
variable {c : Ctx} {r : Option Nat} {P : Program} {ops : Array Oper} {rest : List Oper} {o : Oper} {env : List (Nat × AV)} {H : List Ent} {Q : Exit → Act → World → Prop} {d : Nat}
end
section
variable {c : Ctx} {r : Option Nat} {P : Program} {ops : Array Oper} {rest L : List Oper} {o : Oper} {env : List (Nat × AV)} {H : List Ent} {Q : Exit → Act → World → Prop} {x : AV} {d n j k : Nat} {want g : Bool} {K : List (Nat × AV) → Prop}
theorem Omv (next : OL c r P ops rest ⟨(d, x) :: env, H⟩ Q) (s : o.guard = none ∧ o.dst = some d ∧ Nat.blt d c.n = true ∧ POp P H (envGet env) o x := by exact ⟨rfl, rfl, rfl, POp.move rfl rfl rfl⟩) : OL c r P ops (o :: rest) ⟨env, H⟩ Q := OL.popC s.1 s.2.1 s.2.2.1 s.2.2.2 next
theorem Pmv (next : OL c r P ops rest ⟨(d, .opt g x) :: env, H⟩ Q) (s : o.guard = some (j, want) ∧ (ops[j]?).bind (·.dst) = some k ∧ Nat.blt k c.n = true ∧ mkG (envGet env k) want = some g ∧ o.dst = some d ∧ Nat.blt d c.n = true ∧ (g = true → POp P H (envGet env) o x) := by exact ⟨rfl, rfl, rfl, rfl, rfl, rfl, fun hg => POp.move rfl rfl (by first | rfl | exact hg | exact (Bool.and_eq_true_iff.1 hg).1 | exact (Bool.and_eq_true_iff.1 (Bool.and_eq_true_iff.1 hg).1).1 | simp_all)⟩) : OL c r P ops (o :: rest) ⟨env, H⟩ Q := OL.guardC s.1 s.2.1 s.2.2.1 s.2.2.2.1 s.2.2.2.2.1 s.2.2.2.2.2.1 s.2.2.2.2.2.2 next
theorem Amv (next : AD P H L n rest ((d, x) :: env) K) (s : o.guard = none ∧ o.dst = some d ∧ Nat.blt d n = true ∧ POp P H (envGet env) o x := by exact ⟨rfl, rfl, rfl, POp.move rfl rfl rfl⟩) : AD P H L n (o :: rest) env K := AD.popC s.1 s.2.1 s.2.2.1 s.2.2.2 next
theorem Oas (next : OL c r P ops rest ⟨(d, x) :: env, H⟩ Q) (s : o.guard = none ∧ o.dst = some d ∧ Nat.blt d c.n = true ∧ POp P H (envGet env) o x := by exact ⟨rfl, rfl, rfl, POp.assign rfl rfl rfl⟩) : OL c r P ops (o :: rest) ⟨env, H⟩ Q := OL.popC s.1 s.2.1 s.2.2.1 s.2.2.2 next
theorem Ola (next : OL c r P ops rest ⟨(d, x) :: env, H⟩ Q) (s : o.guard = none ∧ o.dst = some d ∧ Nat.blt d c.n = true ∧ POp P H (envGet env) o x := by exact ⟨rfl, rfl, rfl, (by first | exact POp.ldA rfl rfl rfl rfl | (apply POp.ldAH rfl rfl rfl; (case hm => repeat (first | exact .head _ | refine .tail _ ?_)); (case hy => rfl); (case hn => rfl)))⟩) : OL c r P ops (o :: rest) ⟨env, H⟩ Q := OL.popC s.1 s.2.1 s.2.2.1 s.2.2.2 next
theorem Old (next : OL c r P ops rest ⟨(d, x) :: env, H⟩ Q) (s : o.guard = none ∧ o.dst = some d ∧ Nat.blt d c.n = true ∧ POp P H (envGet env) o x := by exact ⟨rfl, rfl, rfl, (by first | exact POp.ld1 rfl rfl rfl rfl | (apply POp.ld1H rfl rfl rfl; (case hm => repeat (first | exact .head _ | refine .tail _ ?_)); (case hy => rfl)))⟩) : OL c r P ops (o :: rest) ⟨env, H⟩ Q := OL.popC s.1 s.2.1 s.2.2.1 s.2.2.2 next
theorem Pld (next : OL c r P ops rest ⟨(d, .opt g x) :: env, H⟩ Q) (s : o.guard = some (j, want) ∧ (ops[j]?).bind (·.dst) = some k ∧ Nat.blt k c.n = true ∧ mkG (envGet env k) want = some g ∧ o.dst = some d ∧ Nat.blt d c.n = true ∧ (g = true → POp P H (envGet env) o x) := by exact ⟨rfl, rfl, rfl, rfl, rfl, rfl, fun hg => (by first | exact POp.ld1 rfl rfl (by first | rfl | exact hg | exact (Bool.and_eq_true_iff.1 hg).1 | exact (Bool.and_eq_true_iff.1 (Bool.and_eq_true_iff.1 hg).1).1 | simp_all) rfl | (apply POp.ld1H rfl rfl (by first | rfl | exact hg | exact (Bool.and_eq_true_iff.1 hg).1 | exact (Bool.and_eq_true_iff.1 (Bool.and_eq_true_iff.1 hg).1).1 | simp_all); (case hm => repeat (first | exact .head _ | refine .tail _ ?_)); (case hy => rfl)))⟩) : OL c r P ops (o :: rest) ⟨env, H⟩ Q := OL.guardC s.1 s.2.1 s.2.2.1 s.2.2.2.1 s.2.2.2.2.1 s.2.2.2.2.2.1 s.2.2.2.2.2.2 next
theorem Ald (next : AD P H L n rest ((d, x) :: env) K) (s : o.guard = none ∧ o.dst = some d ∧ Nat.blt d n = true ∧ POp P H (envGet env) o x := by exact ⟨rfl, rfl, rfl, (by first | exact POp.ld1 rfl rfl rfl rfl | (apply POp.ld1H rfl rfl rfl; (case hm => repeat (first | exact .head _ | refine .tail _ ?_)); (case hy => rfl)))⟩) : AD P H L n (o :: rest) env K := AD.popC s.1 s.2.1 s.2.2.1 s.2.2.2 next
theorem Ofa (next : OL c r P ops rest ⟨(d, x) :: env, H⟩ Q) (s : o.guard = none ∧ o.dst = some d ∧ Nat.blt d c.n = true ∧ POp P H (envGet env) o x := by exact ⟨rfl, rfl, rfl, (by first | exact POp.fa rfl rfl rfl rfl | exact POp.faP rfl rfl rfl rfl)⟩) : OL c r P ops (o :: rest) ⟨env, H⟩ Q := OL.popC s.1 s.2.1 s.2.2.1 s.2.2.2 next
theorem Pfa (next : OL c r P ops rest ⟨(d, .opt g x) :: env, H⟩ Q) (s : o.guard = some (j, want) ∧ (ops[j]?).bind (·.dst) = some k ∧ Nat.blt k c.n = true ∧ mkG (envGet env k) want = some g ∧ o.dst = some d ∧ Nat.blt d c.n = true ∧ (g = true → POp P H (envGet env) o x) := by exact ⟨rfl, rfl, rfl, rfl, rfl, rfl, fun hg => (by first | exact POp.fa rfl rfl (by first | rfl | exact hg | exact (Bool.and_eq_true_iff.1 hg).1 | exact (Bool.and_eq_true_iff.1 (Bool.and_eq_true_iff.1 hg).1).1 | simp_all) rfl | exact POp.faP rfl rfl (by first | rfl | exact hg | exact (Bool.and_eq_true_iff.1 hg).1 | exact (Bool.and_eq_true_iff.1 (Bool.and_eq_true_iff.1 hg).1).1 | simp_all) rfl)⟩) : OL c r P ops (o :: rest) ⟨env, H⟩ Q := OL.guardC s.1 s.2.1 s.2.2.1 s.2.2.2.1 s.2.2.2.2.1 s.2.2.2.2.2.1 s.2.2.2.2.2.2 next
theorem Afa (next : AD P H L n rest ((d, x) :: env) K) (s : o.guard = none ∧ o.dst = some d ∧ Nat.blt d n = true ∧ POp P H (envGet env) o x := by exact ⟨rfl, rfl, rfl, (by first | exact POp.fa rfl rfl rfl rfl | exact POp.faP rfl rfl rfl rfl)⟩) : AD P H L n (o :: rest) env K := AD.popC s.1 s.2.1 s.2.2.1 s.2.2.2 next
theorem Ocm (next : OL c r P ops rest ⟨(d, x) :: env, H⟩ Q) (s : o.guard = none ∧ o.dst = some d ∧ Nat.blt d c.n = true ∧ POp P H (envGet env) o x := by exact ⟨rfl, rfl, rfl, POp.cmp rfl rfl rfl rfl rfl rfl⟩) : OL c r P ops (o :: rest) ⟨env, H⟩ Q := OL.popC s.1 s.2.1 s.2.2.1 s.2.2.2 next
theorem Pcm (next : OL c r P ops rest ⟨(d, .opt g x) :: env, H⟩ Q) (s : o.guard = some (j, want) ∧ (ops[j]?).bind (·.dst) = some k ∧ Nat.blt k c.n = true ∧ mkG (envGet env k) want = some g ∧ o.dst = some d ∧ Nat.blt d c.n = true ∧ (g = true → POp P H (envGet env) o x) := by exact ⟨rfl, rfl, rfl, rfl, rfl, rfl, fun hg => POp.cmp rfl rfl rfl (by first | rfl | exact hg | exact (Bool.and_eq_true_iff.1 hg).1 | exact (Bool.and_eq_true_iff.1 (Bool.and_eq_true_iff.1 hg).1).1 | simp_all) (by first | rfl | exact hg | exact (Bool.and_eq_true_iff.1 hg).1 | exact (Bool.and_eq_true_iff.1 (Bool.and_eq_true_iff.1 hg).1).1 | simp_all) rfl⟩) : OL c r P ops (o :: rest) ⟨env, H⟩ Q := OL.guardC s.1 s.2.1 s.2.2.1 s.2.2.2.1 s.2.2.2.2.1 s.2.2.2.2.2.1 s.2.2.2.2.2.2 next
theorem Oex (next : OL c r P ops rest ⟨(d, x) :: env, H⟩ Q) (s : o.guard = none ∧ o.dst = some d ∧ Nat.blt d c.n = true ∧ POp P H (envGet env) o x := by exact ⟨rfl, rfl, rfl, POp.extract rfl rfl rfl rfl⟩) : OL c r P ops (o :: rest) ⟨env, H⟩ Q := OL.popC s.1 s.2.1 s.2.2.1 s.2.2.2 next
theorem Ont (next : OL c r P ops rest ⟨(d, x) :: env, H⟩ Q) (s : o.guard = none ∧ o.dst = some d ∧ Nat.blt d c.n = true ∧ POp P H (envGet env) o x := by exact ⟨rfl, rfl, rfl, POp.not rfl rfl rfl⟩) : OL c r P ops (o :: rest) ⟨env, H⟩ Q := OL.popC s.1 s.2.1 s.2.2.1 s.2.2.2 next
theorem Pnt (next : OL c r P ops rest ⟨(d, .opt g x) :: env, H⟩ Q) (s : o.guard = some (j, want) ∧ (ops[j]?).bind (·.dst) = some k ∧ Nat.blt k c.n = true ∧ mkG (envGet env k) want = some g ∧ o.dst = some d ∧ Nat.blt d c.n = true ∧ (g = true → POp P H (envGet env) o x) := by exact ⟨rfl, rfl, rfl, rfl, rfl, rfl, fun hg => POp.not rfl rfl (by first | rfl | exact hg | exact (Bool.and_eq_true_iff.1 hg).1 | exact (Bool.and_eq_true_iff.1 (Bool.and_eq_true_iff.1 hg).1).1 | simp_all)⟩) : OL c r P ops (o :: rest) ⟨env, H⟩ Q := OL.guardC s.1 s.2.1 s.2.2.1 s.2.2.2.1 s.2.2.2.2.1 s.2.2.2.2.2.1 s.2.2.2.2.2.2 next
theorem Oar (next : OL c r P ops rest ⟨(d, x) :: env, H⟩ Q) (s : o.guard = none ∧ o.dst = some d ∧ Nat.blt d c.n = true ∧ POp P H (envGet env) o x := by exact ⟨rfl, rfl, rfl, POp.arith rfl rfl rfl rfl rfl rfl (wrap64 (by omega))⟩) : OL c r P ops (o :: rest) ⟨env, H⟩ Q := OL.popC s.1 s.2.1 s.2.2.1 s.2.2.2 next
theorem Par (next : OL c r P ops rest ⟨(d, .opt g x) :: env, H⟩ Q) (s : o.guard = some (j, want) ∧ (ops[j]?).bind (·.dst) = some k ∧ Nat.blt k c.n = true ∧ mkG (envGet env k) want = some g ∧ o.dst = some d ∧ Nat.blt d c.n = true ∧ (g = true → POp P H (envGet env) o x) := by exact ⟨rfl, rfl, rfl, rfl, rfl, rfl, fun hg => POp.arith rfl rfl rfl (by first | rfl | exact hg | exact (Bool.and_eq_true_iff.1 hg).1 | exact (Bool.and_eq_true_iff.1 (Bool.and_eq_true_iff.1 hg).1).1 | simp_all) (by first | rfl | exact hg | exact (Bool.and_eq_true_iff.1 hg).1 | exact (Bool.and_eq_true_iff.1 (Bool.and_eq_true_iff.1 hg).1).1 | simp_all) rfl (wrap64 (by omega))⟩) : OL c r P ops (o :: rest) ⟨env, H⟩ Q := OL.guardC s.1 s.2.1 s.2.2.1 s.2.2.2.1 s.2.2.2.2.1 s.2.2.2.2.2.1 s.2.2.2.2.2.2 next
theorem Aar (next : AD P H L n rest ((d, x) :: env) K) (s : o.guard = none ∧ o.dst = some d ∧ Nat.blt d n = true ∧ POp P H (envGet env) o x := by exact ⟨rfl, rfl, rfl, POp.arith rfl rfl rfl rfl rfl rfl (wrap64 (by omega))⟩) : AD P H L n (o :: rest) env K := AD.popC s.1 s.2.1 s.2.2.1 s.2.2.2 next
theorem Oln (next : OL c r P ops rest ⟨(d, x) :: env, H⟩ Q) (s : o.guard = none ∧ o.dst = some d ∧ Nat.blt d c.n = true ∧ POp P H (envGet env) o x := by exact ⟨rfl, rfl, rfl, (by first | exact POp.lenM rfl rfl rfl | exact POp.lenA rfl rfl rfl | exact POp.lenV rfl rfl rfl | exact POp.len' rfl rfl rfl)⟩) : OL c r P ops (o :: rest) ⟨env, H⟩ Q := OL.popC s.1 s.2.1 s.2.2.1 s.2.2.2 next
theorem Pln (next : OL c r P ops rest ⟨(d, .opt g x) :: env, H⟩ Q) (s : o.guard = some (j, want) ∧ (ops[j]?).bind (·.dst) = some k ∧ Nat.blt k c.n = true ∧ mkG (envGet env k) want = some g ∧ o.dst = some d ∧ Nat.blt d c.n = true ∧ (g = true → POp P H (envGet env) o x) := by exact ⟨rfl, rfl, rfl, rfl, rfl, rfl, fun hg => (by first | exact POp.lenM rfl rfl (by first | rfl | exact hg | exact (Bool.and_eq_true_iff.1 hg).1 | exact (Bool.and_eq_true_iff.1 (Bool.and_eq_true_iff.1 hg).1).1 | simp_all) | exact POp.lenA rfl rfl (by first | rfl | exact hg | exact (Bool.and_eq_true_iff.1 hg).1 | exact (Bool.and_eq_true_iff.1 (Bool.and_eq_true_iff.1 hg).1).1 | simp_all) | exact POp.lenV rfl rfl (by first | rfl | exact hg | exact (Bool.and_eq_true_iff.1 hg).1 | exact (Bool.and_eq_true_iff.1 (Bool.and_eq_true_iff.1 hg).1).1 | simp_all) | exact POp.len' rfl rfl (by first | rfl | exact hg | exact (Bool.and_eq_true_iff.1 hg).1 | exact (Bool.and_eq_true_iff.1 (Bool.and_eq_true_iff.1 hg).1).1 | simp_all))⟩) : OL c r P ops (o :: rest) ⟨env, H⟩ Q := OL.guardC s.1 s.2.1 s.2.2.1 s.2.2.2.1 s.2.2.2.2.1 s.2.2.2.2.2.1 s.2.2.2.2.2.2 next
theorem Aln (next : AD P H L n rest ((d, x) :: env) K) (s : o.guard = none ∧ o.dst = some d ∧ Nat.blt d n = true ∧ POp P H (envGet env) o x := by exact ⟨rfl, rfl, rfl, (by first | exact POp.lenM rfl rfl rfl | exact POp.lenA rfl rfl rfl | exact POp.lenV rfl rfl rfl | exact POp.len' rfl rfl rfl)⟩) : AD P H L n (o :: rest) env K := AD.popC s.1 s.2.1 s.2.2.1 s.2.2.2 next
theorem Onc (next : OL c r P ops rest ⟨(d, x) :: env, H⟩ Q) (s : o.guard = none ∧ o.dst = some d ∧ Nat.blt d c.n = true ∧ POp P H (envGet env) o x := by exact ⟨rfl, rfl, rfl, (by first | exact POp.nilCheck rfl rfl rfl | exact POp.nilCheckP rfl rfl rfl | exact POp.nilCheckF rfl rfl rfl)⟩) : OL c r P ops (o :: rest) ⟨env, H⟩ Q := OL.popC s.1 s.2.1 s.2.2.1 s.2.2.2 next
theorem Pnc (next : OL c r P ops rest ⟨(d, .opt g x) :: env, H⟩ Q) (s : o.guard = some (j, want) ∧ (ops[j]?).bind (·.dst) = some k ∧ Nat.blt k c.n = true ∧ mkG (envGet env k) want = some g ∧ o.dst = some d ∧ Nat.blt d c.n = true ∧ (g = true → POp P H (envGet env) o x) := by exact ⟨rfl, rfl, rfl, rfl, rfl, rfl, fun hg => (by first | exact POp.nilCheck rfl rfl (by first | rfl | exact hg | exact (Bool.and_eq_true_iff.1 hg).1 | exact (Bool.and_eq_true_iff.1 (Bool.and_eq_true_iff.1 hg).1).1 | simp_all) | exact POp.nilCheckP rfl rfl (by first | rfl | exact hg | exact (Bool.and_eq_true_iff.1 hg).1 | exact (Bool.and_eq_true_iff.1 (Bool.and_eq_true_iff.1 hg).1).1 | simp_all) | exact POp.nilCheckF rfl rfl (by first | rfl | exact hg | exact (Bool.and_eq_true_iff.1 hg).1 | exact (Bool.and_eq_true_iff.1 (Bool.and_eq_true_iff.1 hg).1).1 | simp_all))⟩) : OL c r P ops (o :: rest) ⟨env, H⟩ Q := OL.guardC s.1 s.2.1 s.2.2.1 s.2.2.2.1 s.2.2.2.2.1 s.2.2.2.2.2.1 s.2.2.2.2.2.2 next
theorem Anc (next : AD P H L n rest ((d, x) :: env) K) (s : o.guard = none ∧ o.dst = some d ∧ Nat.blt d n = true ∧ POp P H (envGet env) o x := by exact ⟨rfl, rfl, rfl, (by first | exact POp.nilCheck rfl rfl rfl | exact POp.nilCheckP rfl rfl rfl | exact POp.nilCheckF rfl rfl rfl)⟩) : AD P H L n (o :: rest) env K := AD.popC s.1 s.2.1 s.2.2.1 s.2.2.2 next
theorem Obd (next : OL c r P ops rest ⟨(d, x) :: env, H⟩ Q) (s : o.guard = none ∧ o.dst = some d ∧ Nat.blt d c.n = true ∧ POp P H (envGet env) o x := by exact ⟨rfl, rfl, rfl, POp.build' rfl rfl (by first | rfl | simp_all [strip]) rfl⟩) : OL c r P ops (o :: rest) ⟨env, H⟩ Q := OL.popC s.1 s.2.1 s.2.2.1 s.2.2.2 next
theorem Opk (next : OL c r P ops rest ⟨(d, x) :: env, H⟩ Q) (s : o.guard = none ∧ o.dst = some d ∧ Nat.blt d c.n = true ∧ POp P H (envGet env) o x := by exact ⟨rfl, rfl, rfl, POp.pick rfl rfl rfl rfl rfl (by first | exact fun _ => rfl | exact fun h => h | (intro h; rw [h]; rfl) | (intro h; simp_all)) (by first | exact fun _ => rfl | exact fun h => h | (intro h; rw [h]; rfl) | (intro h; simp_all))⟩) : OL c r P ops (o :: rest) ⟨env, H⟩ Q := OL.popC s.1 s.2.1 s.2.2.1 s.2.2.2 next
theorem Ppk (next : OL c r P ops rest ⟨(d, .opt g x) :: env, H⟩ Q) (s : o.guard = some (j, want) ∧ (ops[j]?).bind (·.dst) = some k ∧ Nat.blt k c.n = true ∧ mkG (envGet env k) want = some g ∧ o.dst = some d ∧ Nat.blt d c.n = true ∧ (g = true → POp P H (envGet env) o x) := by exact ⟨rfl, rfl, rfl, rfl, rfl, rfl, fun hg => POp.pick rfl rfl (by first | rfl | exact hg | exact (Bool.and_eq_true_iff.1 hg).1 | exact (Bool.and_eq_true_iff.1 (Bool.and_eq_true_iff.1 hg).1).1 | simp_all) rfl rfl (by first | exact fun _ => rfl | exact fun h => h | (intro h; rw [h]; rfl) | (intro h; simp_all)) (by first | exact fun _ => rfl | exact fun h => h | (intro h; rw [h]; rfl) | (intro h; simp_all))⟩) : OL c r P ops (o :: rest) ⟨env, H⟩ Q := OL.guardC s.1 s.2.1 s.2.2.1 s.2.2.2.1 s.2.2.2.2.1 s.2.2.2.2.2.1 s.2.2.2.2.2.2 next
theorem Obx (next : OL c r P ops rest ⟨(d, x) :: env, H⟩ Q) (s : o.guard = none ∧ o.dst = some d ∧ Nat.blt d c.n = true ∧ POp P H (envGet env) o x := by exact ⟨rfl, rfl, rfl, POp.boxI rfl rfl rfl rfl⟩) : OL c r P ops (o :: rest) ⟨env, H⟩ Q := OL.popC s.1 s.2.1 s.2.2.1 s.2.2.2 next
theorem Oix (next : OL c r P ops rest ⟨(d, x) :: env, H⟩ Q) (s : o.guard = none ∧ o.dst = some d ∧ Nat.blt d c.n = true ∧ POp P H (envGet env) o x := by exact ⟨rfl, rfl, rfl, (by first | exact POp.ixM rfl rfl rfl rfl rfl (by omega) | exact POp.ixI rfl rfl rfl rfl rfl (by omega))⟩) : OL c r P ops (o :: rest) ⟨env, H⟩ Q := OL.popC s.1 s.2.1 s.2.2.1 s.2.2.2 next
theorem Omf (next : OL c r P ops rest ⟨(d, x) :: env, H⟩ Q) (s : o.guard = none ∧ o.dst = some d ∧ Nat.blt d c.n = true ∧ POp P H (envGet env) o x := by exact ⟨rfl, rfl, rfl, POp.makeFunc rfl rfl rfl (by first | rfl | simp_all [strip]) (by first | rfl | simp_all [strip])⟩) : OL c r P ops (o :: rest) ⟨env, H⟩ Q := OL.popC s.1 s.2.1 s.2.2.1 s.2.2.2 next
end
structure Hid (p : Prop) : Prop where
 out : p
theorem S1 {goal next : Prop} (k : next) (h : Hid next → goal := by
  intro k
  first
   | with_reducible refine Done.seq ?_
   | with_reducible refine CW.seq ?_
   | with_reducible refine CW.region ?_
   | with_reducible refine OL.nil ?_
   | with_reducible refine CW.skip ?_
   | with_reducible refine CW.ret ?_
   | with_reducible refine CW.block ?_
   | with_reducible refine CW.exit ?_
   | with_reducible refine Done.thenRet ?_
   | with_reducible refine Done.thenExit ?_
   | with_reducible refine Done.blkNormal ?_
   | with_reducible refine Done.blkRet ?_
   | with_reducible refine Done.blkExit ?_
   | refine Done.blkOther rfl ?_
  exact k.out) : goal := h ⟨k⟩
theorem S2 {goal next : Prop} (k : next) (h : Hid next → goal := by
  intro k
  iterate 2 refine S1 ?_
  exact k.out) : goal := h ⟨k⟩
theorem S3 {goal next : Prop} (k : next) (h : Hid next → goal := by
  intro k
  iterate 3 refine S1 ?_
  exact k.out) : goal := h ⟨k⟩
theorem S4 {goal next : Prop} (k : next) (h : Hid next → goal := by
  intro k
  iterate 4 refine S1 ?_
  exact k.out) : goal := h ⟨k⟩
theorem S5 {goal next : Prop} (k : next) (h : Hid next → goal := by
  intro k
  iterate 5 refine S1 ?_
  exact k.out) : goal := h ⟨k⟩
theorem S6 {goal next : Prop} (k : next) (h : Hid next → goal := by
  intro k
  iterate 6 refine S1 ?_
  exact k.out) : goal := h ⟨k⟩
theorem S7 {goal next : Prop} (k : next) (h : Hid next → goal := by
  intro k
  iterate 7 refine S1 ?_
  exact k.out) : goal := h ⟨k⟩
theorem S8 {goal next : Prop} (k : next) (h : Hid next → goal := by
  intro k
  iterate 8 refine S1 ?_
  exact k.out) : goal := h ⟨k⟩
theorem S9 {goal next : Prop} (k : next) (h : Hid next → goal := by
  intro k
  iterate 9 refine S1 ?_
  exact k.out) : goal := h ⟨k⟩
theorem S10 {goal next : Prop} (k : next) (h : Hid next → goal := by
  intro k
  iterate 10 refine S1 ?_
  exact k.out) : goal := h ⟨k⟩
theorem S11 {goal next : Prop} (k : next) (h : Hid next → goal := by
  intro k
  iterate 11 refine S1 ?_
  exact k.out) : goal := h ⟨k⟩
theorem S12 {goal next : Prop} (k : next) (h : Hid next → goal := by
  intro k
  iterate 12 refine S1 ?_
  exact k.out) : goal := h ⟨k⟩
theorem S13 {goal next : Prop} (k : next) (h : Hid next → goal := by
  intro k
  iterate 13 refine S1 ?_
  exact k.out) : goal := h ⟨k⟩
theorem S14 {goal next : Prop} (k : next) (h : Hid next → goal := by
  intro k
  iterate 14 refine S1 ?_
  exact k.out) : goal := h ⟨k⟩
theorem S15 {goal next : Prop} (k : next) (h : Hid next → goal := by
  intro k
  iterate 15 refine S1 ?_
  exact k.out) : goal := h ⟨k⟩
theorem Sto {goal next : Prop} (k : next) (h : Hid next → goal := by
  intro k
  apply OL.stoC rfl rfl rfl rfl rfl rfl rfl rfl rfl rfl; (case hu => repeat (first | exact Upd.head _ _ _ | apply Upd.tail)); (case hfit => rfl); (case hds => rfl)
  exact k.out) : goal := h ⟨k⟩
theorem gd {G p : Prop} (hg : G) (h : G → p := by
  intro hg
  first | rfl | exact hg | exact (Bool.and_eq_true_iff.1 hg).1 | exact (Bool.and_eq_true_iff.1 (Bool.and_eq_true_iff.1 hg).1).1 | simp_all) : p := h hg
theorem nm {p q : Prop} (h : p) (s : p → q := by
  intro h
  first
   | (simp only [decide_eq_true_eq, decide_eq_false_iff_not, beq_iff_eq, bne_iff_ne, ne_eq, Int.not_lt, Int.not_le, beq_eq_false_iff_ne, gt_iff_lt, ge_iff_le, Bool.not_eq_true, Bool.not_eq_false, Bool.not_eq_false', bne_eq_false_iff_eq] at h; exact h)
   | exact h) : q := s h
section
variable {c : Ctx} {r : Option Nat} {P : Program} {Q : Exit → Act → World → Prop} {st : St}
theorem lj (J : Nat → Go.Eng.St → Prop) {p : Code} {m : Nat} {st' : Go.Eng.St} (hJ : J m st')
  (round : ∀ m st', J m st' → CW c r P p st' (Exit.then (fun a w => ∃ m' st'', m' < m ∧ J m' st'' ∧ Sat c st'' a w) Q))
  (he : envLe st'.env st.env := by repeat (first | exact trivial | refine ⟨rfl, ?_⟩))
  (hH : st'.H.Sublist st.H := by repeat (first | exact List.Sublist.refl _ | refine List.Sublist.cons _ ?_)) : CW c r P (.loop p) st Q :=
 CW.loopJ J ⟨m, st', hJ, he, hH⟩ round
theorem ag {J : Nat → Go.Eng.St → Prop} {m m' : Nat} {st' : Go.Eng.St} (hJ : J m' st') (hm : m' < m := by omega) (he : envLe st'.env st.env := by repeat (first | exact trivial | refine ⟨rfl, ?_⟩))
  (hH : st'.H.Sublist st.H := by repeat (first | exact List.Sublist.refl _ | refine List.Sublist.cons _ ?_)) : Done c st .normal (Exit.then (fun a w => ∃ m' st'', m' < m ∧ J m' st'' ∧ Sat c st'' a w) Q) :=
 Done.againJ hJ hm he hH
theorem r1 {fn : Func} {B : Nat} {I0 : Imm} {w0 : World} {n : Nat} {Φ : AV → List Ent → Prop} {E : AV → List Ent → Prop} (t : Nat) (H' : List Ent) {y : AV} (hΦ : Φ (tupOf [y]) H') (hr : fn.results = #[.tmp t] := by exact rfl) (hy : ResOk P st [.tmp t] [y] := by exact .tmp rfl .nil)
  (hH : H'.Sublist st.H := by repeat (first | exact List.Sublist.refl _ | refine List.Sublist.cons _ ?_)) : Done ⟨B, I0, w0, n, []⟩ st .ret (bodyPost P fn (RetP B I0 w0 Φ E)) :=
 Done.retR (rs := [.tmp t]) (H' := H') hr hy (AVleL.refl _) hH hΦ
end
def ShutS (l : List Oper) (S : Nat → Bool) : Prop := ∀ i oi, l[i]? = some oi → S i = true → ∀ j, ((masks l []).getD i 0).testBit j = true → S j = true
def addS (S : Nat → Bool) (i : Nat) : Nat → Bool := fun j => if j = i then true else S j
abbrev PX := Nat → Imm → World → List PanicEntry → World → Prop
abbrev noX : PX := fun _ _ _ _ _ => False
def EOkX (X : PX) (P : Program) (M0 M1 : Mem) (ops : List Oper) (env : List (Nat × AV)) (o : Oper) (y : AV) : Prop :=
 o.guard = none ∧ ∀ (B : Nat) (I : Imm) (w : World) (r : Option Nat) (a : Act), WOk B I w → M0 B a I w → OpsOk I w (envGet env) a o → (∀ d, o.dst = some d → d < a.tmps.size) →
  Runs P r o a w (fun v w' => ∃ I', WOk B I' w' ∧ Ext B I w I' w' ∧ M1 B (a.put o.dst v) I' w' ∧ Rel I' w' y v) (X B I w)
theorem EOkX.congr {X : PX} {P : Program} {H0 H1 : Mem} {ops : List Oper} {env env' : List (Nat × AV)} {o : Oper} {y : AV} (h : EOkX X P H0 H1 ops env o y) (same : ∀ t ∈ looks ops o, envGet env t = envGet env' t) : EOkX X P H0 H1 ops env' o y :=
 ⟨h.1, fun B I w r a hw hm ho hz => h.2 B I w r a hw hm (ho.congr fun t ht => same t (mem_looks ht)) hz⟩
theorem EOkX.run {X : PX} {c : Ctx} {r : Option Nat} {P : Program} {l : List Oper} {H H1 : Mem} {env : List (Nat × AV)} {o : Oper} {y : AV} {Q : Exit → Act → World → Prop} (h : EOkX X P H H1 l env o y) {i : Nat} (hi : l[i]? = some o)
  {a : Act} {w : World} {I : Imm} (hw : WOk c.B I w) (hh : H c.B a I w) (hv : ∀ t ∈ looks l o, ∀ z, envGet env t = some z → Rel I w z (a.tmps.getD t undef)) (hn : ∀ t ∈ looks l o, t < a.tmps.size) (hz : ∀ d, o.dst = some d → d < a.tmps.size)
  {K : Act → World → Prop} (hK : ∀ v w' I', WOk c.B I' w' → Ext c.B I w I' w' → H1 c.B (a.put o.dst v) I' w' → Rel I' w' y v → K (a.put o.dst v) w') (hX : ∀ ch w', X c.B I w ch w' → Q (.panic ch) a w') : wpOpIn (FW r) 0 P l.toArray Q i K a w := by
 obtain ⟨hg, hs⟩ := h
 have hops : OpsOk I w (envGet env) a o := fun x hx z hz => by
  cases x with
  | tmp t => exact hv t (mem_looks (by simpa using hx)) z hz
  | const v => simp [aeval] at hz; subst hz; exact rel_const v
  | global g => simp [aeval] at hz; subst hz; exact .val _
  | func f => simp [aeval] at hz; subst hz; exact .fn _ _ _ _ _ .nil .nil
 have hio : l.toArray[i]? = some o := by simpa using hi
 unfold wpOpIn
 simp only [hio]
 have hwant : Region.wanted o (yielded l.toArray a.tmps) = true := by simp [Region.wanted, hg]
 rw [if_pos hwant]
 exact hs c.B I w r a hw hh hops hz K Q (fun v w' ⟨I', h1, h2, h3, h4⟩ => hK v w' I' h1 h2 h3 h4) hX
def UOkX (X : PX) (P : Program) (M : (Nat → Bool) → Mem) (l : List Oper) (i : Nat) (env : List (Nat × AV)) (o : Oper) (x : AV) : Prop :=
 ∀ S, ShutS l S → (∀ j, ((masks l []).getD i 0).testBit j = true → S j = true) → S i = false → EOkX X P (M S) (M (addS S i)) l env o x
def UDX (X : PX) (P : Program) (M : (Nat → Bool) → Mem) (l : List Oper) (n : Nat) : Nat → List Oper → List (Nat × AV) → (List (Nat × AV) → Prop) → Prop
 | _, [], env, K => K env
 | i, o :: rest, env, K => ∃ x, UOkX X P M l i env o x ∧ dstOk n o.dst = true ∧ UDX X P M l n (i + 1) rest (putEnv o.dst x env) K
abbrev UD := UDX noX
theorem UD_spec {X : PX} {P : Program} {M : (Nat → Bool) → Mem} {ops : List Oper} {n : Nat} : ∀ (k : Nat) (l : List Oper) (env : List (Nat × AV)) (K : List (Nat × AV) → Prop), UDX X P M ops n k l env K →
  ∃ xs : List AV, xs.length = l.length ∧ K (puts env l xs) ∧ ∀ i o x, l[i]? = some o → xs[i]? = some x → UOkX X P M ops (k + i) (puts env (l.take i) (xs.take i)) o x ∧ dstOk n o.dst = true
 | k, [], env, K, h => ⟨[], rfl, h, by simp⟩
 | k, o :: l, env, K, ⟨x, h1, h2, h3⟩ => by
  obtain ⟨xs, hl, hK, hx⟩ := UD_spec (k + 1) l _ K h3
  refine ⟨x :: xs, by simp [hl], hK, fun i o' x' ho' hx' => ?_⟩
  cases i with
  | zero =>
   simp at ho' hx'
   subst ho'; subst hx'
   exact ⟨h1, h2⟩
  | succ i =>
   simp at ho' hx'
   have := hx i o' x' ho' hx'
   rw [show k + 1 + i = k + (i + 1) by omega] at this
   exact this
theorem UDX.mono {X : PX} {P : Program} {M : (Nat → Bool) → Mem} {ops : List Oper} {n : Nat} {K K' : List (Nat × AV) → Prop} (hk : ∀ env, K env → K' env) : ∀ {k : Nat} {l : List Oper} {env : List (Nat × AV)}, UDX X P M ops n k l env K → UDX X P M ops n k l env K'
 | _, [], _, h => hk _ h
 | _, _ :: _, _, ⟨x, h1, h2, h3⟩ => ⟨x, h1, h2, h3.mono hk⟩
section
variable {c : Ctx} {r : Option Nat} {P : Program} {l : List Oper} {st : St} {Q : Exit → Act → World → Prop}
theorem DP.anyUX {X : PX} {k m : Nat} {M : (Nat → Bool) → Mem} (hchk : segChk l k m = true) (hkm : k ≤ m) (hml : m ≤ l.length) (hlk : (l.all fun o => (looks l o).all fun t => Nat.blt t c.n) = true) (hH : ∀ B a I w, HeapOk B I w st.H → M (fun i => Nat.blt i k) B a I w)
  (pan : ∀ (I : Imm) (w : World) (a : Act) ch w', a.defers = c.ds → a.tmps.size = c.n → WOk c.B I w → Ext c.B c.I0 c.w0 I w → X c.B I w ch w' → Q (.panic ch) a w')
  (h : UDX X P M l c.n k ((l.drop k).take (m - k)) st.env fun env => ∀ a w I, a.defers = c.ds → a.tmps.size = c.n → WOk c.B I w → Ext c.B c.I0 c.w0 I w → M (fun i => Nat.blt i m) c.B a I w → EnvOk I w (envGet env) a → KD c r P l Q m a w) : DP c r P l Q k st := by
 have ok := segOk_of hchk
 obtain ⟨xs, hxl, htail, hspec⟩ := UD_spec _ _ _ _ h
 have hxm : xs.length = m - k := by rw [hxl, List.length_take, List.length_drop]; omega
 generalize hS : (l.drop k).take (m - k) = S at *
 have takeAt : ∀ (i : Nat) (o : Oper), S[i]? = some o ↔ i < m - k ∧ l[k + i]? = some o := by
  intro i o
  rw [← hS, List.getElem?_take]
  by_cases hi : i < m - k
  ·rw [if_pos hi, List.getElem?_drop]; simp [hi]
  ·rw [if_neg hi]; simp [hi]
 generalize hF : puts st.env S xs = envF at htail
 have hlook : ∀ (i : Nat) (o : Oper), l[i]? = some o → ∀ t ∈ looks l o, t < c.n := by
  intro i o ho t ht
  simp only [List.all_eq_true] at hlk
  have := hlk o (List.mem_of_getElem? ho) t ht
  exact Nat.lt_of_succ_le (by simpa [Nat.blt] using this)
 have fin : ∀ (i : Nat) (o : Oper) (x : AV), i < m - k → l[k + i]? = some o → xs[i]? = some x → UOkX X P M l (k + i) envF o x ∧ dstOk c.n o.dst = true := by
  intro i o x hi ho hx
  obtain ⟨h1, h2⟩ := hspec i o x ((takeAt i o).2 ⟨hi, ho⟩) hx
  refine ⟨?_, h2⟩
  have same : ∀ t ∈ looks l o, envGet (puts st.env (S.take i) (xs.take i)) t = envGet envF t := by
   intro t ht
   rw [← hF, puts_split i S xs st.env hxl]
   symm
   apply puts_other
   intro j o' ho' e
   rw [List.getElem?_drop] at ho'
   obtain ⟨hj, hoj⟩ := (takeAt _ _).1 ho'
   have := (ok.looked (k + i) o (k + (i + j)) o' t (by omega) (by omega) ho (by omega) (by omega) hoj e ht).1
   omega
  exact fun S hS1 hS2 hS3 => (h1 S hS1 hS2 hS3).congr same
 have finAt : ∀ (i : Nat) (o : Oper) (x : AV) (t : Nat), i < m - k → l[k + i]? = some o → xs[i]? = some x → o.dst = some t → envGet envF t = some x := by
  intro i o x t hi ho hx hd
  rw [← hF]
  refine puts_at S xs st.env i t o x ((takeAt i o).2 ⟨hi, ho⟩) hx hd (fun j o' ho' e => ?_)
  obtain ⟨hj, hoj⟩ := (takeAt _ _).1 ho'
  rcases Nat.decEq j i with hne | he
  ·exact absurd hd (ok.apart (k + i) o (k + j) o' t (by omega) (by omega) ho (by omega) (by omega) hoj e (by omega))
  ·exact he
 have finOther : ∀ t, (∀ (i : Nat) (o : Oper), i < m - k → l[k + i]? = some o → o.dst ≠ some t) → envGet envF t = envGet st.env t := by
  intro t ht
  rw [← hF]
  exact puts_other _ _ _ _ fun i o ho => let ⟨h1, h2⟩ := (takeAt i o).1 ho; ht i o h1 h2
 have main : ∀ (cnt fuel : Nat) (listed : Array Bool) (a : Act) (w : World) (I : Imm), listed.size = l.length → (cnt = (List.range m).countP fun i => !listed.getD i false) → cnt + (l.length - m) ≤ fuel → Closed l (fun i => listed.getD i false = true) →
   (∀ i, i < k → listed.getD i false = true) → (∀ i, listed.getD i false = true → i < m) → a.defers = c.ds → a.tmps.size = c.n → WOk c.B I w → Ext c.B c.I0 c.w0 I w → M (fun s => listed.getD s false) c.B a I w →
   (∀ t x, envGet envF t = some x → (∀ (i : Nat) (o : Oper), i < m - k → l[k + i]? = some o → o.dst = some t → listed.getD (k + i) false = true) → Rel I w x (a.tmps.getD t undef)) →
   wpAnyIn (FW r) 0 P .any l.toArray Q fuel listed a w := by
  intro cnt
  induction cnt with
  | zero =>
   intro fuel listed a w I hsz hf hfu hcl hlk' hlm hd hts hw he hh hv
   have hall : ∀ i, i < m → listed.getD i false = true := by
    intro i hi
    have := List.countP_eq_zero.1 hf.symm i (by simpa using hi)
    simpa using this
   have hst : (fun s => listed.getD s false) = fun i => Nat.blt i m := funext fun i => by
    rw [Bool.eq_iff_iff]
    exact ⟨fun h => by have := hlm i h; exact Nat.ble_eq_true_of_le this, fun h => hall i (Nat.lt_of_succ_le (by simpa [Nat.blt] using h))⟩
   rw [hst] at hh
   exact htail a w I hd hts hw he hh (fun t x hx => hv t x hx (fun i o hi _ _ => hall (k + i) (by omega))) fuel listed hsz (fun i => ⟨hlm i, hall i⟩) (by omega)
  | succ cnt ih =>
   intro fuel listed a w I hsz hf hfu hcl hlk' hlm hd hts hw he hh hv
   obtain ⟨fuel, rfl⟩ : ∃ f, fuel = f + 1 := ⟨fuel - 1, by omega⟩
   have hex : ∃ i, i < m ∧ listed.getD i false = false ∧ ∀ j, j < i → listed.getD j false = true := by
    have : ∃ i, i < m ∧ listed.getD i false = false := by
     refine Classical.byContradiction fun hn => ?_
     have : (List.range m).countP (fun i => !listed.getD i false) = 0 := by
      rw [List.countP_eq_zero]
      intro i hi
      simp only [List.mem_range] at hi
      cases hx : listed.getD i false with
      | true => simp
      | false => exact absurd ⟨i, hi, hx⟩ hn
     omega
    obtain ⟨i, hi⟩ := this
    induction i using Nat.strongRecOn with
    | _ i ihi =>
     by_cases hx : ∃ j, j < i ∧ listed.getD j false = false
     ·obtain ⟨j, hj, hj2⟩ := hx
      exact ihi j hj ⟨by omega, hj2⟩
     ·exact ⟨i, hi.1, hi.2, fun j hj => by
       cases hy : listed.getD j false with
       | true => rfl
       | false => exact absurd ⟨j, hj, hy⟩ hx⟩
   obtain ⟨i0, hi0m, hi0, hi0b⟩ := hex
   have hi0k : k ≤ i0 := by
    rcases Nat.lt_or_ge i0 k with h | h
    ·rw [hlk' i0 h] at hi0; cases hi0
    ·exact h
   refine ⟨fun h0 => ?_, fun i hi => ?_⟩
   ·exfalso
    have hok : l[i0]? = some l[i0] := List.getElem?_eq_getElem (by omega)
    have : i0 ∈ Region.ready .any l.toArray listed := by
     rw [mem_ready]
     refine ⟨by rw [getD_true_iff (by omega)]; exact hi0, l[i0], by simp, fun e he hb => ?_⟩
     exact hi0b _ (ok.back i0 _ hok e.on (by simp only [deps, List.mem_filterMap]; exact ⟨e, by simpa using he, by simp [hb]⟩))
    rw [h0] at this; cases this
   ·obtain ⟨h1, o, h2, h3⟩ := mem_ready.1 hi
    have ho : l[i]? = some o := by simpa using h2
    have hlt : i < l.length := (List.getElem?_eq_some_iff.1 ho).1
    rw [getD_true_iff (by omega)] at h1
    have hdeps : ∀ k ∈ deps o, listed.getD k false = true := by
     intro k hk
     simp only [deps, List.mem_filterMap] at hk
     obtain ⟨e, he, hb⟩ := hk
     split at hb
     ·rename_i hbi; simp at hb; subst hb; exact h3 e (by simpa using he) hbi
     ·cases hb
    have hms : (masks l [])[i]? = some ((masks l []).getD i 0) := by
     have : i < (masks l []).length := by rw [masks_len]; simpa using hlt
     simp [List.getD, this]
    have hanc := masks_spec l _ hcl l [] (by simp) (by simp) (by simp) i _ o hms ho hdeps
    have hik : k ≤ i := by
     rcases Nat.lt_or_ge i k with h | h
     ·rw [hlk' i h] at h1; cases h1
     ·exact h
    have him : i < m := by
     rcases Nat.lt_or_ge i m with h | h
     ·exact h
     ·have := hanc i0 (ok.tail i h hlt i0 hi0k hi0m)
      rw [hi0] at this; cases this
    obtain ⟨q, rfl⟩ : ∃ q, i = k + q := ⟨i - k, by omega⟩
    have hq : q < m - k := by omega
    have hxi : xs[q]? = some xs[q] := List.getElem?_eq_getElem (by omega)
    obtain ⟨hA, hdst⟩ := fin q o _ hq ho hxi
    have avail : ∀ t ∈ looks l o, ∀ (i' : Nat) (o' : Oper), i' < m - k → l[k + i']? = some o' → o'.dst = some t → listed.getD (k + i') false = true := fun t ht i' o' hi' ho' hd' => hanc _ (ok.looked (k + q) o (k + i') o' t hik him ho (by omega) (by omega) ho' hd' ht).2
    have hshut : ShutS l fun s => listed.getD s false := fun s os hos hs j hj => by
     have hsl : s < l.length := (List.getElem?_eq_some_iff.1 hos).1
     have hms2 : (masks l [])[s]? = some ((masks l []).getD s 0) := by
      have : s < (masks l []).length := by rw [masks_len]; simpa using hsl
      simp [List.getD, this]
     exact masks_spec l _ hcl l [] (by simp) (by simp) (by simp) s _ _ hms2 hos (fun j hj => hcl s _ hs hos j hj) j hj
    refine (hA _ hshut hanc h1).run (c := c) ho hw hh (fun t ht z hz => hv t z hz (avail t ht)) (fun t ht => by rw [hts]; exact hlook _ o ho t ht) (fun d' hd' => by rw [hts]; rw [hd'] at hdst; exact Nat.lt_of_succ_le (by simpa [dstOk, Nat.blt] using hdst)) ?_ (fun ch w' hx => pan I w a ch w' hd hts hw he hx)
    intro v w' I' hw' he' hh' hx
    have hset : ∀ j, (listed.setIfInBounds (k + q) true).getD j false = if k + q = j then true else listed.getD j false := fun j => getD_set _ _ _ (by omega)
    have hsetS : (fun s => (listed.setIfInBounds (k + q) true).getD s false) = addS (fun s => listed.getD s false) (k + q) := by
     funext j
     rw [hset]
     unfold addS
     by_cases e : k + q = j
     ·rw [if_pos e, if_pos e.symm]
     ·rw [if_neg e, if_neg fun h => e h.symm]
    refine ih fuel (listed.setIfInBounds (k + q) true) _ w' I' (by simp [hsz]) ?_ (by omega) ?_ ?_ ?_ (by rw [put_defers]; exact hd) (by rw [tmps_put_size]; exact hts) hw' (he.trans he') (by rw [hsetS]; exact hh') ?_
    ·have : (List.range m).countP (fun j => !listed.getD j false) = (List.range m).countP (fun j => !(listed.setIfInBounds (k + q) true).getD j false) + 1 := by
      have key : ∀ (n : Nat), (List.range n).countP (fun j => !listed.getD j false) = (List.range n).countP (fun j => !(listed.setIfInBounds (k + q) true).getD j false) + (if k + q < n then 1 else 0) := by
       intro n
       induction n with
       | zero => simp
       | succ n ihn =>
        rw [List.range_succ, List.countP_append, List.countP_append, ihn]
        simp only [List.countP_cons, List.countP_nil, Nat.zero_add, hset n]
        by_cases e : k + q = n
        ·subst e
         rw [if_neg (Nat.lt_irrefl _), if_pos (Nat.lt_succ_self _), if_pos rfl, h1]
         simp
        ·rw [if_neg e]
         by_cases hlt' : k + q < n
         ·rw [if_pos hlt', if_pos (Nat.lt_succ_of_lt hlt')]; omega
         ·rw [if_neg hlt', if_neg (show ¬ k + q < n + 1 by omega)]; omega
      rw [key, if_pos him]
     omega
    ·intro j oj hj hoj k' hk
     rw [hset]
     by_cases e : k + q = k'
     ·rw [if_pos e]
     ·rw [if_neg e]
      rw [hset] at hj
      by_cases e' : k + q = j
      ·subst e'
       rw [ho] at hoj; cases hoj
       exact hdeps k' hk
      ·rw [if_neg e'] at hj
       exact hcl j oj hj hoj k' hk
    ·intro j hj
     rw [hset, if_neg (by omega)]
     exact hlk' j hj
    ·intro j hj
     rw [hset] at hj
     by_cases e : k + q = j
     ·omega
     ·rw [if_neg e] at hj; exact hlm j hj
    ·intro t x hxt hav
     by_cases hdt : o.dst = some t
     ·rw [hdt]
      have : x = xs[q] := by
       have := finAt q o _ t hq ho hxi hdt
       rw [this] at hxt; exact (Option.some.inj hxt).symm
      subst this
      rw [tmps_put_same (by rw [hts]; rw [hdt] at hdst; exact Nat.lt_of_succ_le (by simpa [dstOk, Nat.blt] using hdst))]
      exact hx
     ·have hold : Rel I w x (a.tmps.getD t undef) := hv t x hxt fun i' o' hi' ho' hd' => by
       have := hav i' o' hi' ho' hd'
       rw [hset] at this
       by_cases e : k + q = k + i'
       ·have e2 : q = i' := by omega
        subst e2
        rw [ho] at ho'; cases ho'
        exact absurd hd' hdt
       ·rw [if_neg e] at this; exact this
      have hget : (a.put o.dst v).tmps.getD t undef = a.tmps.getD t undef := by
       cases hod : o.dst with
       | none => rfl
       | some d => exact tmps_put_other (fun e => hdt (by rw [hod, e]))
      rw [hget]
      exact hold.keep he'.keeps
 intro a w s fuel listed hsz hli hfu
 obtain ⟨I, hw, he, hh, hv⟩ := s.mem
 have hst0 : (fun s => listed.getD s false) = fun i => Nat.blt i k := funext fun i => by
  rw [Bool.eq_iff_iff]
  exact ⟨fun h => Nat.ble_eq_true_of_le ((hli i).1 h), fun h => (hli i).2 (Nat.lt_of_succ_le (by simpa [Nat.blt] using h))⟩
 refine main _ fuel listed a w I hsz rfl ?_ (fun i o hi ho j hj => (hli j).2 (by have := ok.back i o ho j hj; have := (hli i).1 hi; omega)) (fun i hi => (hli i).2 hi) (fun i hi => by have := (hli i).1 hi; omega) s.ds s.size hw he (by rw [hst0]; exact hH _ _ _ _ hh) ?_
 ·have : (List.range m).countP (fun i => !listed.getD i false) ≤ m - k := by
   have e : List.range m = List.range k ++ (List.range (m - k)).map (k + ·) := by
    rw [← List.range_add]; congr 1; omega
   rw [e, List.countP_append]
   have z : (List.range k).countP (fun i => !listed.getD i false) = 0 := by
    rw [List.countP_eq_zero]; intro i hi; simp only [List.mem_range] at hi; simp [(hli i).2 hi]
   rw [z]
   have := List.countP_le_length (p := fun i => !listed.getD i false) (l := (List.range (m - k)).map (k + ·))
   simpa using this
  omega
 ·intro t x hx hav
  have : envGet st.env t = some x := by
   rw [← finOther t (fun i o hi ho hd => ?_)]
   ·exact hx
   ·have := hav i o hi ho hd
    have := (hli (k + i)).1 this
    omega
  exact hv t x this
theorem DP.anyU {k m : Nat} {M : (Nat → Bool) → Mem} (hchk : segChk l k m = true) (hkm : k ≤ m) (hml : m ≤ l.length) (hlk : (l.all fun o => (looks l o).all fun t => Nat.blt t c.n) = true) (hH : ∀ B a I w, HeapOk B I w st.H → M (fun i => Nat.blt i k) B a I w)
  (h : UD P M l c.n k ((l.drop k).take (m - k)) st.env fun env => ∀ a w I, a.defers = c.ds → a.tmps.size = c.n → WOk c.B I w → Ext c.B c.I0 c.w0 I w → M (fun i => Nat.blt i m) c.B a I w → EnvOk I w (envGet env) a → KD c r P l Q m a w) : DP c r P l Q k st :=
 DP.anyUX hchk hkm hml hlk hH (fun _ _ _ _ _ _ _ _ _ h => h.elim) h
end
structure VS where
 e : Nat
 d : Nat
 t : TypeId
 zs : List Value
 s : Nat
 ys : List AV
theorem nodup_at {α : Type} (f : α → Nat) {l pre post : List α} {v u : α} (h : (l.map f).Nodup) (hl : l = pre ++ v :: post) (hu : u ∈ pre ∨ u ∈ post) : f u ≠ f v := by
 subst hl
 rw [List.map_append, List.map_cons] at h
 have h2 := List.nodup_append.1 h
 rcases hu with hu | hu
 ·exact fun e => h2.2.2 (f u) (List.mem_map_of_mem hu) (f v) (by simp) e
 ·exact fun e => (List.nodup_cons.1 h2.2.1).1 (by rw [← e]; exact List.mem_map_of_mem hu)
theorem Upd.under {e e' : Ent} {H : List Ent} : ∀ (X : List Ent), Upd (X ++ e :: H) e e' (X ++ e' :: H)
 | [] => .head _ _ _
 | f :: X => .tail _ _ _ _ _ (Upd.under X)
section
variable {c : Ctx} {r : Option Nat} {P : Program} {l : List Oper} {Q : Exit → Act → World → Prop}
theorem EnvOk.vars {I : Imm} {w : World} {a : Act} {env : List (Nat × AV)} {bs : Nat → Nat} (h : EnvOk I w (envGet env) a) : ∀ (vs : List VS), (∀ v ∈ vs, a.tmps.getD v.d undef = .pointer (some ⟨bs v.d, 0, none⟩)) → EnvOk I w (envGet (vs.map (fun v => (v.d, AV.p (bs v.d) 0)) ++ env)) a
 | [], _ => h
 | v :: r, hv => fun t x hx => by
  rw [List.map_cons, List.cons_append, envGet_cons] at hx
  split at hx
  ·rename_i e
   cases hx
   subst e
   rw [hv v (.head _)]; exact .val _
  ·exact EnvOk.vars h r (fun u hu => hv u (.tail _ hu)) t x hx
end
section
variable {P : Program} {L rest : List Oper} {vs : List VS} {n i d : Nat} {o : Oper} {env : List (Nat × AV)} {K : List (Nat × AV) → Prop} {x : AV} {H : List Ent}
theorem UD.nil {X : PX} {M : (Nat → Bool) → Mem} (h : K env) : UDX X P M L n i [] env K := h
theorem addS_other {S : Nat → Bool} {i j : Nat} (h : j ≠ i) : addS S i j = S j := if_neg h
theorem addS_same {S : Nat → Bool} {i : Nat} : addS S i i = true := if_pos rfl
end
section
variable {P : Program} {H : List Ent} {ρ : Nat → Option AV} {o : Oper}
end
def blkOf : Value → Nat
 | .pointer (some a) => a.block
 | _ => 0
inductive ES where
 | own (i d e k : Nat) (y : AV)
 | al (i d : Nat) (t : TypeId) (zs : List Value)
def ES.i : ES → Nat
 | .own i _ _ _ _ => i
 | .al i _ _ _ => i
def ES.d : ES → Nat
 | .own _ d _ _ _ => d
 | .al _ d _ _ => d
def ES.en : ES → Value → Ent
 | .own _ _ e k _, v => .own e k v
 | .al _ _ t zs, v => .blk (blkOf v) t (zs.map .val)
def ES.okE : ES → Value → Prop
 | .own _ _ _ _ _, _ => True
 | .al _ _ _ _, v => v = .pointer (some ⟨blkOf v, 0, none⟩)
def ES.av : ES → Value → AV
 | .own _ _ _ _ y, v => .as y v
 | .al _ _ _ _, v => .p (blkOf v) 0
def ES.y : ES → AV
 | .own _ _ _ _ y => y
 | .al _ _ _ _ => .any
def ES.mem (S : Nat → Bool) (f : Nat → Value) (es : List ES) : List Ent := es.filterMap fun s => if S s.i then some (s.en (f s.d)) else none
structure LS where
 i : Nat
 d : Nat
 ds : List Nat
 x : List Value → AV
theorem EnvOk.made {I : Imm} {w : World} {a : Act} {env : List (Nat × AV)} (h : EnvOk I w (envGet env) a) : ∀ (es : List ES), (∀ s ∈ es, s.okE (a.tmps.getD s.d undef) ∧ envGet env s.d = some s.y) → EnvOk I w (envGet (es.map (fun s => (s.d, s.av (a.tmps.getD s.d undef))) ++ env)) a
 | [], _ => h
 | s :: r, hv => fun t x hx => by
  rw [List.map_cons, List.cons_append, envGet_cons] at hx
  split at hx
  ·rename_i e
   cases hx
   subst e
   have h1 := hv s (.head _)
   cases s with
   | own i d e k y => exact .as _ _ (h d y h1.2)
   | al i d t zs =>
    have h2 : a.tmps.getD d undef = .pointer (some ⟨blkOf (a.tmps.getD d undef), 0, none⟩) := h1.1
    show Rel I w (.p (blkOf (a.tmps.getD d undef)) 0) (a.tmps.getD d undef)
    generalize a.tmps.getD d undef = v at h2
    rw [h2]; exact .val _
  ·exact EnvOk.made h r (fun u hu => hv u (.tail _ hu)) t x hx
section
variable {c : Ctx} {r : Option Nat} {P : Program} {l : List Oper} {Q : Exit → Act → World → Prop}
end
section
variable {P : Program} {L rest : List Oper} {es : List ES} {ls : List LS} {n i d : Nat} {o : Oper} {env : List (Nat × AV)} {K : List (Nat × AV) → Prop} {x : AV} {H : List Ent}
end
def eqField (P : Program) (p : Field × Nat) : Bool := p.1.offset == p.2 && p.1.name != "_" && P.plainKey p.1.type && (match P.underlying p.1.type with | some (.int _) => true | _ => false)
def eqInts (P : Program) (t : TypeId) (n : Nat) : Bool := (match P.underlying t with | some (.struct fs) => fs.toList.length == n && fs.toList.zipIdx.all (eqField P) | _ => false) && !P.stoodInHeld t && !P.eqGuardType P.depth t
class HasEq (P : Program) (t : TypeId) (n : outParam Nat) : Prop where
 h : eqInts P t n = true
abbrev intsArr (l : List Int) : Array Value := (l.map fun n => Value.int .i64 n).toArray
theorem eqFields_ints {P : Program} {w : World} (d : Nat) {as bs : List Int} {n : Nat} (ha : as.length = n) (hb : bs.length = n) : ∀ (fs : List Field) (k : Nat), k + fs.length = n → ((fs.zipIdx k).all (eqField P)) = true →
  (Op.eqFields (d + 1) (intsArr as) (intsArr bs) fs).run P w = .ok (as.drop k == bs.drop k) w
 | [], k, hk, _ => by
  rw [List.length_nil] at hk
  rw [List.drop_of_length_le (by omega), List.drop_of_length_le (by omega)]; rfl
 | f :: fs, k, hk, hf => by
  rw [List.length_cons] at hk
  rw [List.zipIdx_cons, List.all_cons, Bool.and_eq_true] at hf
  have h1 := hf.1
  simp only [eqField, Bool.and_eq_true, beq_iff_eq, bne_iff_ne, ne_eq] at h1
  obtain ⟨⟨⟨ho, hn⟩, hp⟩, hu⟩ := h1
  obtain ⟨k', hu⟩ : ∃ k', P.underlying f.type = some (.int k') := by
   split at hu
   ·rename_i k' e; exact ⟨k', e⟩
   ·cases hu
  have hka : k < as.length := by omega
  have hkb : k < bs.length := by omega
  have ga : (intsArr as)[f.offset]? = some (.int .i64 as[k]) := by rw [ho]; simp [intsArr, List.getElem?_eq_getElem hka]
  have gb : (intsArr bs)[f.offset]? = some (.int .i64 bs[k]) := by rw [ho]; simp [intsArr, List.getElem?_eq_getElem hkb]
  have hab : (as.drop k == bs.drop k) = (as[k] == bs[k] && as.drop (k + 1) == bs.drop (k + 1)) := by rw [List.drop_eq_getElem_cons hka, List.drop_eq_getElem_cons hkb]; rfl
  rw [hab]
  simp only [Op.eqFields, Sem.run_ite, Sem.run_bind]
  rw [if_pos hn, Go.run_part_plain (w := w) hp ga]
  simp only [Result.andThen_ok]
  rw [Go.run_part_plain (w := w) hp gb]
  simp only [Result.andThen_ok]
  rw [run_equalIn_int w d f.type .i64 k' as[k] bs[k] hu]
  simp only [Result.andThen_ok]
  have ih := eqFields_ints (P := P) (w := w) d ha hb fs (k + 1) (by omega) hf.2
  by_cases e : as[k] = bs[k]
  ·have e2 : (as[k] == bs[k]) = true := by simpa using e
   rw [e2]
   simp only [Bool.not_true, Bool.false_eq_true, if_false, Bool.true_and]
   exact ih
  ·have e2 : (as[k] == bs[k]) = false := by simpa using e
   rw [e2]
   simp only [Bool.not_false, if_true, Sem.run_pure, Bool.false_and]
section
variable {P : Program} {H : List Ent} {ρ : Nat → Option AV} {o : Oper}
end
section
variable {P : Program} {H : List Ent} {ρ : Nat → Option AV} {o : Oper}
end
section
variable {c : Ctx} {r : Option Nat} {P : Program} {ops : Array Oper} {l rest : List Oper} {o : Oper} {env : List (Nat × AV)} {H : List Ent} {Q : Exit → Act → World → Prop} {d : Nat}
end
structure CE where
 i : Nat
 d : Nat
 u : Bool
def CE.inst (es : List CE) (p : List Bool) (f : Nat → Value) : List (Option Value) := List.zipWith (fun e b => if b then some (f e.d) else none) es p
def CE.vals : List CE → List Bool → (Nat → Value) → List (Nat × AV)
 | e :: es, b :: p, f => match b, e.u with
  | true, true => (e.d, .val (f e.d)) :: CE.vals es p f
  | _, _ => CE.vals es p f
 | _, _, _ => []
def CE.pat (es : List CE) (S : Nat → Bool) : List Bool := es.map fun e => S e.i
def XM {G : Type} (HS : G → List (Option Value) → List Ent) (es : List CE) (S : Nat → Bool) : Mem := fun B a I w => ∃ g, HeapOk B I w (HS g (CE.inst es (CE.pat es S) fun d => a.tmps.getD d undef))
def CE.okPat (L : List Oper) (es : List CE) (i : Nat) (p : List Bool) : Bool := (es.zip p).all fun x => (!((masks L []).getD i 0).testBit x.1.i || x.2) && (!x.2 || (!((masks L []).getD x.1.i 0).testBit i && !Nat.beq x.1.i i && (es.zip p).all fun y => !((masks L []).getD x.1.i 0).testBit y.1.i || y.2))
def bools : Nat → List (List Bool)
 | 0 => [[]]
 | n + 1 => (bools n).flatMap fun p => [false :: p, true :: p]
def CE.fits (L : List Oper) (es : List CE) (i : Nat) (pats : List (List Bool)) : Bool := (es.all fun e => Nat.blt e.i L.length) && (bools es.length).all fun p => !CE.okPat L es i p || pats.contains p
def AllP {α : Type} : List α → (α → Prop) → Prop
 | [], _ => True
 | a :: r, Q => Q a ∧ AllP r Q
theorem AllP.at {α : Type} {Q : α → Prop} : ∀ {l : List α}, AllP l Q → ∀ a ∈ l, Q a
 | _ :: _, ⟨h, _⟩, _, .head _ => h
 | _ :: _, ⟨_, h⟩, _, .tail _ ha => AllP.at h _ ha
theorem bools_all : ∀ (p : List Bool), p ∈ bools p.length
 | [] => .head _
 | b :: p => List.mem_flatMap.2 ⟨p, bools_all p, by cases b <;> simp⟩
theorem inst_pat (es : List CE) (S : Nat → Bool) (f : Nat → Value) : CE.inst es (CE.pat es S) f = es.map fun e => if S e.i then some (f e.d) else none := by
 induction es with
 | nil => rfl
 | cons e r ih => simp only [CE.inst, CE.pat, List.map_cons, List.zipWith_cons_cons] at ih ⊢; rw [ih]
theorem zip_pat {es : List CE} {S : Nat → Bool} : ∀ x ∈ es.zip (CE.pat es S), x.1 ∈ es ∧ x.2 = S x.1.i := by
 induction es with
 | nil => intro x hx; cases hx
 | cons e r ih =>
  intro x hx
  simp only [CE.pat, List.map_cons, List.zip_cons_cons, List.mem_cons] at hx
  rcases hx with rfl | hx
  ·exact ⟨.head _, rfl⟩
  ·exact ⟨.tail _ (ih x hx).1, (ih x hx).2⟩
theorem CE.fits_of {L : List Oper} {es : List CE} {i : Nat} {pats : List (List Bool)} {S : Nat → Bool} (h : CE.fits L es i pats = true) (hs : ShutS L S) (hm : ∀ j, ((masks L []).getD i 0).testBit j = true → S j = true) (hi : S i = false) : CE.pat es S ∈ pats := by
 simp only [CE.fits, Bool.and_eq_true, List.all_eq_true] at h
 obtain ⟨hb, h⟩ := h
 have hlt : ∀ e ∈ es, e.i < L.length := fun e he => Nat.lt_of_succ_le (by simpa [Nat.blt] using hb e he)
 have h1 := h (CE.pat es S) (by have := bools_all (CE.pat es S); rwa [CE.pat, List.length_map] at this)
 have key : CE.okPat L es i (CE.pat es S) = true := by
  rw [CE.okPat, List.all_eq_true]
  intro x hx
  obtain ⟨x1, x2⟩ := zip_pat x hx
  rw [Bool.and_eq_true]
  refine ⟨?_, ?_⟩
  ·cases hb : ((masks L []).getD i 0).testBit x.1.i with
   | false => rfl
   | true => rw [x2, hm _ hb]; rfl
  ·cases hx2 : x.2 with
   | false => rfl
   | true =>
    rw [hx2] at x2
    have hsh := hs x.1.i _ (List.getElem?_eq_getElem (hlt _ x1)) x2.symm
    simp only [Bool.not_true, Bool.false_or, Bool.and_eq_true, Bool.not_eq_true', List.all_eq_true]
    refine ⟨⟨?_, ?_⟩, fun y hy => ?_⟩
    ·cases hb : ((masks L []).getD x.1.i 0).testBit i with
     | false => rfl
     | true => rw [hsh i hb] at hi; cases hi
    ·cases hb : Nat.beq x.1.i i with
     | false => rfl
     | true => rw [Nat.eq_of_beq_eq_true hb, hi] at x2; cases x2
    ·obtain ⟨y1, y2⟩ := zip_pat y hy
     cases hb : ((masks L []).getD x.1.i 0).testBit y.1.i with
     | false => rfl
     | true => rw [y2, hsh _ hb]; rfl
 rw [key] at h1
 simpa using h1
theorem env_vals {f : Nat → Value} {env : List (Nat × AV)} {t : Nat} {y : AV} : ∀ (es : List CE) (p : List Bool), envGet (CE.vals es p f ++ env) t = some y → y = .val (f t) ∨ envGet env t = some y
 | [], p, h => .inr h
 | _ :: _, [], h => .inr h
 | e :: es, b :: p, h => by
  unfold CE.vals at h
  split at h
  ·rw [List.cons_append, envGet_cons] at h
   split at h
   ·rename_i e1; cases h; rw [e1]; exact .inl rfl
   ·exact env_vals es p h
  ·exact env_vals es p h
theorem ops_vals {I : Imm} {w : World} {a : Act} {o : Oper} {env : List (Nat × AV)} (es : List CE) (p : List Bool) (h : OpsOk I w (envGet env) a o) : OpsOk I w (envGet (CE.vals es p (fun d => a.tmps.getD d undef) ++ env)) a o := fun x hx y hy => by
 cases x with
 | tmp u =>
  simp only [aeval] at hy
  rcases env_vals es p hy with rfl | hy
  ·exact .val _
  ·exact h _ hx y hy
 | const v => exact h _ hx y hy
 | global g => exact h _ hx y hy
 | func f => exact h _ hx y hy
theorem EnvOk.vals {I : Imm} {w : World} {a : Act} {env : List (Nat × AV)} (es : List CE) (p : List Bool) (h : EnvOk I w (envGet env) a) : EnvOk I w (envGet (CE.vals es p (fun d => a.tmps.getD d undef) ++ env)) a := fun t x hx => by
 rcases env_vals es p hx with rfl | hx
 ·exact .val _
 ·exact h t x hx
def FOk {G : Type} (P : Program) (H : List Ent) (H' : G → Value → List Ent) (ρ : Nat → Option AV) (o : Oper) (x : AV) : Prop := ∀ (B : Nat) (I : Imm) (w : World) (r : Option Nat) (a : Act), WOk B I w → HeapOk B I w H → OpsOk I w ρ a o →
 Runs P r o a w (fun v w' => ∃ I' g, WOk B I' w' ∧ Ext B I w I' w' ∧ HeapOk B I' w' (H' g v) ∧ Rel I' w' x v) (fun _ _ => False)
section
variable {c : Ctx} {r : Option Nat} {P : Program} {l : List Oper} {Q : Exit → Act → World → Prop} {G : Type}
theorem DP.anyH {env : List (Nat × AV)} {H : List Ent} (es : List CE) (g0 : G) (HS : G → List (Option Value) → List Ent) (k m n : Nat) (hn : c.n = n) (hchk : segChk l k m = true) (hes : (es.all fun e => Nat.ble k e.i && Nat.blt e.i m) = true) (hkm : Nat.ble k m = true) (hml : Nat.ble m l.length = true) (hlk : (l.all fun o => (looks l o).all fun t => Nat.blt t n) = true)
  (h0 : HS g0 (es.map fun _ => none) = H)
  (h : UD P (XM HS es) l c.n k ((l.drop k).take (m - k)) env fun env => ∀ (g : G) (f : Nat → Value), DP c r P l Q m ⟨CE.vals es (es.map fun _ => true) f ++ env, HS g (es.map fun e => some (f e.d))⟩) : DP c r P l Q k ⟨env, H⟩ := by
 simp only [List.all_eq_true, Bool.and_eq_true] at hes
 have blk : ∀ i, Nat.ble k i = true → Nat.blt i k = false := fun i hi => by
  have h1 := Nat.le_of_ble_eq_true hi
  rw [Bool.eq_false_iff]; intro hb; have := Nat.lt_of_succ_le (by simpa [Nat.blt] using hb); omega
 refine DP.anyU (M := XM HS es) hchk (Nat.le_of_ble_eq_true hkm) (Nat.le_of_ble_eq_true hml) (by rw [hn]; exact hlk) (fun B a I w hh => ⟨g0, ?_⟩) (h.mono fun env hd a w I q1 q2 q3 q4 q5 q6 => ?_)
 ·have e : CE.inst es (CE.pat es fun i => Nat.blt i k) (fun d => a.tmps.getD d undef) = es.map fun _ => none := by
   rw [inst_pat]
   exact List.map_congr_left fun e he => by rw [blk _ (hes e he).1]; rfl
  rw [e, h0]; exact hh
 ·obtain ⟨g, hh⟩ := q5
  have e : CE.inst es (CE.pat es fun i => Nat.blt i m) (fun d => a.tmps.getD d undef) = es.map fun e => some (a.tmps.getD e.d undef) := by
   rw [inst_pat]
   exact List.map_congr_left fun e he => by rw [(hes e he).2]; rfl
  rw [e] at hh
  exact hd g (fun d => a.tmps.getD d undef) a w ⟨q1, q2, I, q3, q4, hh, q6.vals es _⟩
end
section
variable {P : Program} {L rest : List Oper} {es : List CE} {n i d : Nat} {o : Oper} {env : List (Nat × AV)} {K : List (Nat × AV) → Prop} {x : AV} {G : Type} {HS : G → List (Option Value) → List Ent}
theorem UD.popG (pats : List (List Bool)) (hi : (es.all fun e => !Nat.beq e.i i && !Nat.beq e.d d) = true) (hf : CE.fits L es i pats = true) (hg : o.guard = none) (hd : o.dst = some d) (hn : Nat.blt d n = true)
  (h : AllP pats fun p => ∀ g f, POp P (HS g (CE.inst es p f)) (envGet (CE.vals es p f ++ env)) o x) (next : UD P (XM HS es) L n (i + 1) rest ((d, x) :: env) K) : UD P (XM HS es) L n i (o :: rest) env K :=
 ⟨x, fun S hshut hmask hSi => ⟨hg, fun B I w r a hw hm ho hz => by
  obtain ⟨g, hm⟩ := hm
  simp only [List.all_eq_true, Bool.and_eq_true, Bool.not_eq_true'] at hi
  have ne : ∀ {a b : Nat}, Nat.beq a b = false → a ≠ b := fun h e => by subst e; simp at h
  refine (h.at _ (CE.fits_of hf hshut hmask hSi) g (fun d => a.tmps.getD d undef) B I w r a _ hw hm (fun e he => he) (ops_vals es _ ho)).mono (fun v w' ⟨I', a1, a2, a3, a4⟩ => ⟨I', a1, a2, ⟨g, ?_⟩, a4⟩) (fun _ _ h => h)
  have e : CE.inst es (CE.pat es (addS S i)) (fun d => (a.put o.dst v).tmps.getD d undef) = CE.inst es (CE.pat es S) (fun d => a.tmps.getD d undef) := by
   rw [inst_pat, inst_pat]
   exact List.map_congr_left fun e he => by rw [addS_other (ne (hi e he).1), hd, tmps_put_other (ne (hi e he).2)]
  rw [e]; exact a3⟩, dstOk_of hd hn, by rw [hd]; exact next⟩
theorem inst_set {S : Nat → Bool} {f f' : Nat → Value} {q : Nat} {e : CE} {u : Value} (he : es[q]? = some e) (hu : f' e.d = u) (ho : ∀ q' e', q' ≠ q → es[q']? = some e' → e'.i ≠ e.i ∧ f' e'.d = f e'.d) : CE.inst es (CE.pat es (addS S e.i)) f' = (CE.inst es (CE.pat es S) f).set q (some u) := by
 rw [inst_pat, inst_pat]
 refine List.ext_getElem? fun j => ?_
 rw [List.getElem?_set, List.length_map, List.getElem?_map, List.getElem?_map]
 have hq := (List.getElem?_eq_some_iff.1 he).1
 by_cases hj : q = j
 ·subst hj
  rw [if_pos rfl, if_pos hq, he]
  show some (if addS S e.i e.i = true then some (f' e.d) else none) = _
  rw [addS_same, hu]; rfl
 ·rw [if_neg hj]
  cases hje : es[j]? with
  | none => rfl
  | some e' =>
   have := ho j e' (fun h => hj h.symm) hje
   show some (if addS S e.i e'.i = true then some (f' e'.d) else none) = some (if S e'.i = true then some (f e'.d) else none)
   rw [addS_other this.1, this.2]
theorem UD.effG (q : Nat) (pats : List (List Bool)) {e : CE} (he : es[q]? = some e) (hi : e.i = i) (ho : ((es.take q ++ es.drop (q + 1)).all fun e' => !Nat.beq e'.i i && !Nat.beq e'.d e.d) = true) (hf : CE.fits L es i pats = true) (hg : o.guard = none) (hd : o.dst = some e.d) (hn : Nat.blt e.d n = true)
  (h : AllP pats fun p => ∀ g f, FOk P (HS g (CE.inst es p f)) (fun g' v => HS g' ((CE.inst es p f).set q (some v))) (envGet (CE.vals es p f ++ env)) o x) (next : UD P (XM HS es) L n (i + 1) rest ((e.d, x) :: env) K) : UD P (XM HS es) L n i (o :: rest) env K :=
 ⟨x, fun S hshut hmask hSi => ⟨hg, fun B I w r a hw hm hops hz => by
  obtain ⟨g, hm⟩ := hm
  simp only [List.all_eq_true, Bool.and_eq_true, Bool.not_eq_true'] at ho
  have ne : ∀ {a b : Nat}, Nat.beq a b = false → a ≠ b := fun h e => by subst e; simp at h
  refine (h.at _ (CE.fits_of hf hshut hmask hSi) g (fun d => a.tmps.getD d undef) B I w r a hw hm (ops_vals es _ hops)).mono (fun v w' ⟨I', g', a1, a2, a3, a4⟩ => ⟨I', a1, a2, ⟨g', ?_⟩, a4⟩) (fun _ _ h => h)
  rw [← hi, inst_set (S := S) (f := fun d => a.tmps.getD d undef) (f' := fun d => (a.put o.dst v).tmps.getD d undef) (u := v) he (by rw [hd]; exact tmps_put_same (hz _ hd)) (fun q' e' hq he' => ?_)]
  ·exact a3
  ·have hm' : e' ∈ es.take q ++ es.drop (q + 1) := by
    rw [List.mem_append]
    rcases Nat.lt_or_gt_of_ne hq with h1 | h1
    ·exact .inl (List.mem_of_getElem? (i := q') (by rw [List.getElem?_take, if_pos h1]; exact he'))
    ·exact .inr (List.mem_of_getElem? (i := q' - (q + 1)) (by rw [List.getElem?_drop, show q + 1 + (q' - (q + 1)) = q' by omega]; exact he'))
   refine ⟨by rw [hi]; exact ne (ho _ hm').1, ?_⟩
   show (a.put o.dst v).tmps.getD e'.d undef = _
   rw [hd]; exact tmps_put_other (ne (ho _ hm').2)⟩, dstOk_of hd hn, by rw [hd]; exact next⟩
theorem FOk.sto {H : List Ent} {H' : List Ent} {ρ : Nat → Option AV} (g : G) (h : SOk P H H' ρ o) : FOk P H (fun (_ : G) _ => H') ρ o .any := fun B I w r a hw hh ho => (h B I w r a hw hh ho).mono (fun v w' ⟨I', a1, a2, a3⟩ => ⟨I', g, a1, a2, a3, .any _⟩) (fun _ _ h => h)
theorem FOk.bcall {H : List Ent} {ρ : Nat → Option AV} {f : FuncId} {xs : List AV} {Φ : AV → List Ent → Prop} {H' : G → Value → List Ent} (hc : CallOk P ρ o f xs) (h : ∀ B, BCall B P f xs H Φ (fun _ _ => False)) (hq : ∀ y H1, Φ y H1 → ∃ g, y = x ∧ ∀ v, H' g v = H1) : FOk P H H' ρ o x := fun B I w r a hw hh ho =>
 (bcall_runs (c := ⟨B, I, w, 0, []⟩) hc (h B) hw hh ho).mono (fun v w' hR => by
  obtain ⟨I', H1, y, a1, a2, a3, a4, a5⟩ := hR
  obtain ⟨g, rfl, hv⟩ := hq _ _ a5
  exact ⟨I', g, a1, a2, by rw [hv]; exact a3, a4⟩) (fun _ _ h => h)
end
theorem Del.perm {H H' : List Ent} {e : Ent} (h : Del H e H') : H.Perm (e :: H') := by
 induction h with
 | head => exact .refl _
 | tail f e H H' _ ih => exact (ih.cons f).trans (.swap _ _ _)
theorem HeapOk.turn {B : Nat} {I : Imm} {w : World} {H H' : List Ent} {e e' : Ent} (h : HeapOk B I w H) (hu : Upd H e e' H') (hok : e.ok B I w → e'.ok B I w) (hft : ∀ b, e'.foot = some b → e.foot = some b) : HeapOk B I w H' :=
 h.upd hu ⟨fun _ _ x => x, fun _ _ _ => rfl⟩ (fun _ _ _ => rfl) (fun _ _ x => .inl x) (hok (h.ok _ hu.mem)) (fun b hb => .inl (hft b hb))
section
variable {c : Ctx} {r : Option Nat} {P : Program} {ops : Array Oper} {l rest : List Oper} {o : Oper} {env : List (Nat × AV)} {H : List Ent} {Q : Exit → Act → World → Prop} {d : Nat}
end
theorem POp.lenR {P : Program} {H : List Ent} {ρ : Nat → Option AV} {o : Oper} {x : Operand} {t e k k' n : Nat} {v : Value} {cs : List AV} {g : Bool} [ht : HasSl P t k'] (h : o.op = .call { callee := .builtin .len, args := #[x], argTypes := #[t] }) (hx : aev ρ x = some (g, .val v)) (hg : g = true) (hm : Ent.row e k v n cs ∈ H) : POp P H ρ o (.i n) := by
 refine .sameH (by simp [h]) fun B I w f hH ho => ?_
 have h1 := rel_val (ho.get (by simp [h, Op.operands, Call.operands]) hx hg)
 obtain ⟨xs, hrow, _⟩ := hH _ hm
 rcases hrow.2 with ⟨rfl, rfl⟩ | ⟨b, cap, cur, rfl, _⟩
 ·exact ⟨.int .i64 0, by simp [execOp, h, h1, resolve, invoke, builtin, run_len_sl t none 0 0 (isSl_of ht.h) w], .val _⟩
 ·exact ⟨.int .i64 n, by simp [execOp, h, h1, resolve, invoke, builtin, run_len_sl t (some ⟨b, 0, none⟩) n cap (isSl_of ht.h) w], .val _⟩
section
variable {P : Program} {c : Ctx} {r : Option Nat} {ops : Array Oper} {l rest : List Oper} {o : Oper} {st : St} {Q : Exit → Act → World → Prop} {x : AV}
theorem panM {B D : Nat} {I0 : Imm} {w0 : World} {n : Nat} {fn : Func} {Φ : AV → List Ent → Prop} {E : AV → List Ent → Prop} {env : List (Nat × AV)} {H H' H'' : List Ent} {y : AV} {a : Act} {w : World} {v : Value}
  (hD : Del H (.obj D (.deferred (some []))) H'') (hH : H'.Sublist H'') (hE : E y H') (s : Sat ⟨B, I0, w0, n, [mark D]⟩ ⟨env, H⟩ a w) (hy : ∀ J w, Rel J w y v) : bodyPostM (FW none) 0 P fn (RetP B I0 w0 Φ E) (.panic [{ v := v, recovered := false }]) a w := by
 obtain ⟨I, hw, he, hh, hv⟩ := s.mem
 obtain ⟨hB, hb, hni⟩ := hh.ok _ hD.mem
 show LeavesInM _ _ _ _ _ _ a.defers _ _
 rw [show a.defers = [mark D] from s.ds]
 have hk : Keeps I w I (w.putObj D (.deferred none)) := putObj_keeps (B := B) hni
 have hh' : HeapOk B I (w.putObj D (.deferred none)) H'' := by
  refine (hh.sub hD.sub).keep hk (fun f hf b hfb => World.putObj_heap_other (fun e => ?_)) (fun _ _ _ _ _ x => x)
  subst e
  exact hD.apart hh.apart f hf _ rfl hfb
 exact ⟨by simp, .inl ⟨D, _, rfl, run_takeDeferred hb, I, H', hw.putObj hni, he.trans (Ext.putObj hB hni), hh'.sub hH, .inr ⟨v, y, rfl, hy _ _, hE⟩⟩⟩
def SeqS {α : Type} (B : Nat) (P : Program) (gv : AV) (enc : α → AV) (L : List α) (Hs : List Ent) (Hn : List Ent → Prop) (own : AV → Prop) : Prop :=
 ∀ (J Jx : List α → List Ent → Prop) (f : Fn) (fs cs : List AV), CbOk B P (.fn f fs cs) enc L (fun _ => True) J Jx → ∀ H Hx, J [] H →
  VCall B P gv [.fn f fs cs] (H ++ (Hs ++ Hx)) (fun _ H' => ∃ H1 Hs', H' = H1 ++ (Hs' ++ Hx) ∧ ((Hn Hs' ∧ J L H1) ∨ ∃ pre, pre <+: L ∧ Jx pre H1))
   (fun y H' => ∃ H1 Hs', H' = H1 ++ (Hs' ++ Hx) ∧ own y ∧ J L H1)
theorem CW.rangeFuncE {α : Type} {t p : Nat} {assign body : Code} {f : FuncId} {caps : List AV} (enc : α → AV) (L : List α) (J : List α → List Ent → Prop) (Jx : Code → List α → List Ent → Prop) (H Hs Hx : List Ent) (Hn : List Ent → Prop) (own : AV → Prop) (env' : α → List (Nat × AV))
  (hr : r = none) (hH : st.H = H ++ (Hs ++ Hx)) (hg : envGet st.env t = some (.fn (.func f) [] caps)) (hp : Nat.blt p c.n = true) (hseq : SeqS c.B P (.fn (.func f) [] caps) enc L Hs Hn own) (hJ : J [] H)
  (assignOk : ∀ (l : Nat) (I : Imm) (w : World) (x : α) (Hy : List Ent), CW ⟨c.B, I, w, c.n, []⟩ (some l) P assign ⟨(p, enc x) :: st.env, Hy⟩ (Exit.then (fun a w' => ∃ st', st' = (⟨env' x, Hy⟩ : St) ∧ Sat ⟨c.B, I, w, c.n, []⟩ st' a w') (fun _ _ _ => False)))
  (round : ∀ (l D : Nat) (lp : Loop) (pre : List α) (x : α) (H1 Hy : List Ent) (I : Imm) (w : World), pre ++ [x] <+: L → J pre H1 →
   CW ⟨c.B, I, w, c.n, []⟩ (some l) P body ⟨env' x, .loop l lp (envGet st.env) :: .obj D (.deferred (some [])) :: (H1 ++ Hy)⟩ (roundEnd c.B I w l D lp (envGet st.env) J Jx (pre ++ [x]) Hy))
  (done : ∀ (D : Nat) (H1 Hs' : List Ent), Hn Hs' → J L H1 → Done ⟨c.B, c.I0, c.w0, c.n, { target := .collected D, args := #[] } :: c.ds⟩ ⟨st.env, .obj D (.deferred (some [])) :: (H1 ++ (Hs' ++ Hx))⟩ .normal Q)
  (jump : ∀ (D : Nat) (code : Code) (pre : List α) (H1 Hs' : List Ent), pre <+: L → Jx code pre H1 → CW ⟨c.B, c.I0, c.w0, c.n, { target := .collected D, args := #[] } :: c.ds⟩ r P code ⟨st.env, .obj D (.deferred (some [])) :: (H1 ++ (Hs' ++ Hx))⟩ Q)
  (pan : ∀ (D : Nat) (y : AV) (H1 Hs' : List Ent), own y → J L H1 → ∀ (I : Imm) (v : Value) (a : Act) (w : World), Sat ⟨c.B, c.I0, c.w0, c.n, { target := .collected D, args := #[] } :: c.ds⟩ ⟨st.env, .obj D (.deferred (some [])) :: (H1 ++ (Hs' ++ Hx))⟩ a w → Rel I w y v → Q (.panic [{ v := v, recovered := false }]) a w) :
  CW c r P (.rangeFunc (.tmp t) #[p] assign body) st Q := by
 intro a w s
 subst hr
 obtain ⟨I, hw, he, hh, hv⟩ := s.mem
 rw [hH] at hh
 refine wpIn_rangeFunc fun fn hfn => ?_
 obtain ⟨lr, hlr⟩ : ∃ lr : Loop, lr = { state := .ready, pending := none, fn, tmps := a.tmps, params := #[p], assign, body, defers := w.heap.size } := ⟨_, rfl⟩
 have hgv := hv t _ hg
 generalize hu : a.tmps.getD t undef = u at hgv
 cases hgv with
 | fn _ _ _ vf vc hf hc =>
 have hvf : vf = #[] := by cases vf with | mk l => cases hf; rfl
 subst hvf
 have hh1 := hh.newObj hw (.deferred (some []))
 have hw1 := hw.alloc (.deferred (some []))
 have hv1 := hv.keep (keeps_alloc hw (.deferred (some [])))
 have hh2 := hh1.newLoop hw1 lr (envGet st.env) (by rw [hlr]; exact hv1)
 have hw2 := hw1.alloc (.loop lr)
 rw [World.size_alloc] at hh2
 have k2 : Ext c.B I w I ((w.alloc (.deferred (some []))).alloc (.loop lr)) := (ext_alloc hw _).trans (ext_alloc hw1 _)
 let J' : List α → List Ent → Prop := fun pre Hf => ∃ H1, J pre H1 ∧ Hf = .loop (w.heap.size + 1) lr (envGet st.env) :: .obj w.heap.size (.deferred (some [])) :: H1
 let Jx' : List α → List Ent → Prop := fun pre Hf => ∃ code H1, Jx code pre H1 ∧ Hf = .loop (w.heap.size + 1) { lr with state := .done, pending := some code } (envGet st.env) :: .obj w.heap.size (.deferred (some [])) :: H1
 have hsz : a.tmps.size = c.n := s.size
 have hpn : p < c.n := Nat.lt_of_succ_le (by simpa [Nat.blt] using hp)
 have hcb : CbOk c.B P (.fn (.yield (w.heap.size + 1)) [] []) enc L (fun _ => True) J' Jx' := by
  rintro pre x Hf Hy hpx _ ⟨H1, hJ1, rfl⟩ I2 W v vs hwW hhW hvW hvs
  obtain rfl : v = .func (.yield (w.heap.size + 1)) #[] #[] := by
   cases hvW with
   | fn _ _ _ vf vc hf hc =>
    cases vf with
    | mk lf => cases vc with
     | mk lc => cases hf; cases hc; rfl
  cases hvs with
  | cons _ v1 _ vs' hx1 ht =>
  cases ht
  obtain ⟨hBl, hbl, hρ, hnil⟩ := hhW.ok (.loop (w.heap.size + 1) lr (envGet st.env)) (by simp)
  have hy := run_yield (P := P) (args := #[v1]) hbl (by rw [hlr]; rfl)
  refine .inr ⟨_, rfl, fn, a.tmps.setIfInBounds p v1, assign, body, ?_, ?_⟩
  ·rw [hlr] at hy
   simpa using hy
  ·refine roundIn_of_wpIn (F := FW none) (n := 0) trivial ?_
   have hhW' : HeapOk c.B I2 W (.loop (w.heap.size + 1) lr (envGet st.env) :: .obj w.heap.size (.deferred (some [])) :: (H1 ++ Hy)) := by
    simpa [List.append_assoc] using hhW
   have hst : Sat ⟨c.B, I2, W, c.n, []⟩ ⟨(p, enc x) :: st.env, .loop (w.heap.size + 1) lr (envGet st.env) :: .obj w.heap.size (.deferred (some [])) :: (H1 ++ Hy)⟩ { tmps := a.tmps.setIfInBounds p v1, defers := [] } W := by
    refine ⟨rfl, by simpa using hsz, I2, hwW, Ext.refl _ _ _, hhW', ?_⟩
    refine envGet_zip (a := a) (fun t y hty => ?_) (by rw [hsz]; exact hpn) hx1 []
    have := hρ t y hty
    rw [hlr] at this
    exact this
   refine wpIn_mono (assignOk (w.heap.size + 1) I2 W x _ _ W hst) fun e a3 W3 hp3 => ?_
   cases e with
   | normal =>
    obtain ⟨st', rfl, s3⟩ := hp3
    obtain ⟨I3, hw3, he3, hh3, hv3⟩ := s3.mem
    obtain ⟨hBl3, hbl3, _, hni3⟩ := hh3.ok _ (.head _)
    refine ⟨_, run_beginRound hbl3 (by rw [hlr]), ?_⟩
    have hh4 := hh3.putLoop (lp' := { lr with state := .busy }) (.head _ _ _) rfl
    have he4 : Ext c.B I3 W3 I3 (W3.putObj (w.heap.size + 1) (.loop { lr with state := .busy })) := Ext.putObj hBl3 hni3
    have s4 : Sat ⟨c.B, I2, W, c.n, []⟩ ⟨env' x, .loop (w.heap.size + 1) { lr with state := .busy } (envGet st.env) :: .obj w.heap.size (.deferred (some [])) :: (H1 ++ Hy)⟩ a3 (W3.putObj (w.heap.size + 1) (.loop { lr with state := .busy })) :=
     ⟨s3.ds, s3.size, I3, hw3.putObj hni3, he3.trans he4, hh4, hv3.keep he4.keeps⟩
    refine wpIn_mono (round _ _ _ pre x H1 Hy I2 W hpx hJ1 a3 _ s4) fun e a5 W5 hp5 => ?_
    obtain ⟨I5, H5, hw5, he5, hh5, hcase⟩ := hp5
    obtain ⟨hBl5, hbl5, _, hni5⟩ := hh5.ok _ (.head _)
    have fin : ∀ jp : Option Code, (Instr.endRound (w.heap.size + 1) jp).run P W5 = .ok (.bool jp.isNone) (W5.putObj (w.heap.size + 1) (.loop { lr with state := if jp.isNone then .ready else .done, pending := jp })) ∧
      ∀ (b : Bool) (Hn : List Ent), b = jp.isNone → Hn = .loop (w.heap.size + 1) { lr with state := if jp.isNone then .ready else .done, pending := jp } (envGet st.env) :: .obj w.heap.size (.deferred (some [])) :: H5 → (b = true → J' (pre ++ [x]) Hn) → (b = false → Jx' (pre ++ [x]) Hn) →
       RetP c.B I2 W (fun y H' => ∃ b H1, y = .b b ∧ H' = H1 ++ Hy ∧ (b = true → J' (pre ++ [x]) H1) ∧ (b = false → Jx' (pre ++ [x]) H1)) (fun _ _ => False) (.returned (.bool jp.isNone)) (W5.putObj (w.heap.size + 1) (.loop { lr with state := if jp.isNone then .ready else .done, pending := jp })) := by
     intro jp
     refine ⟨by have h9 := run_endRound (P := P) jp hbl5; exact h9, fun b Hn hb hHn h1 h2 => ?_⟩
     have hh6 := hh5.putLoop (lp' := { lr with state := if jp.isNone then .ready else .done, pending := jp }) (.head _ _ _) rfl
     refine ⟨I5, Hn ++ Hy, hw5.putObj hni5, he5.trans (Ext.putObj hBl5 hni5), ?_, .inl ⟨_, .b b, rfl, by rw [hb]; exact .val _, b, Hn, rfl, rfl, h1, h2⟩⟩
     rw [hHn]
     simpa [List.append_assoc] using hh6
    cases e with
    | normal =>
     obtain ⟨e1, e2⟩ := fin none
     exact ⟨_, _, e1, e2 true _ rfl rfl (fun _ => ⟨H5, hcase, by rw [hlr]; rfl⟩) (fun h => by cases h)⟩
    | ret =>
     obtain ⟨e1, e2⟩ := fin (some .ret)
     exact ⟨_, _, e1, e2 false _ rfl rfl (fun h => by cases h) (fun _ => ⟨.ret, H5, hcase, rfl⟩)⟩
    | exit id =>
     obtain ⟨e1, e2⟩ := fin (some (.exit id))
     exact ⟨_, _, e1, e2 false _ rfl rfl (fun h => by cases h) (fun _ => ⟨.exit id, H5, hcase, rfl⟩)⟩
    | goto t => exact hcase.elim
    | panic ch => exact hcase.elim
    | outgrown => exact hcase.elim
   | exit id => exact hp3.elim
   | goto t => exact hp3.elim
   | ret => exact hp3.elim
   | panic ch => exact hp3.elim
   | outgrown => exact hp3.elim
 have hcall := hseq J' Jx' _ _ _ hcb _ Hx ⟨H, hJ, rfl⟩ I _ (.func (.func f) #[] vc) [.func (.yield (w.heap.size + 1)) #[] #[]] hw2 (by simpa using hh2) (.fn _ _ _ _ _ .nil (hc.keep k2.keeps)) (.cons _ _ _ _ (.fn _ _ _ _ _ .nil .nil) .nil)
 rcases hcall with ⟨f', vf', vc', e1, hok, hcalls⟩ | ⟨l, e1, _⟩
 ·simp only [Value.func.injEq, Fn.func.injEq] at e1
  obtain ⟨rfl, rfl, rfl⟩ := e1
  refine ⟨w.heap.size + 1, [{ target := .collected w.heap.size, args := #[] }], (w.alloc (.deferred (some []))).alloc (.loop lr), { target := .fn (.func f) vc, args := #[.func (.yield (w.heap.size + 1)) #[] #[]] }, (w.alloc (.deferred (some []))).alloc (.loop lr), f,
   #[.func (.yield (w.heap.size + 1)) #[] #[]] ++ vc, (w.alloc (.deferred (some []))).alloc (.loop lr), ?_, ?_, fun _ _ => trivial, ?_, by simp [FW], ?_⟩
  ·rw [hlr]; exact run_enterLoop_outer fn a.tmps #[p] assign body
  ·have hev : a.eval (.tmp t) = .func (.func f) #[] vc := hu
   simp only [resolve, rangeCall, hev]
   simp [Deferred.ofValue, Act.eval]
  ·simp [invoke, run_callFunc hok]
  ·have e0 : (#[] ++ [Value.func (Fn.yield (w.heap.size + 1)) #[] #[]].toArray ++ vc) = #[Value.func (Fn.yield (w.heap.size + 1)) #[] #[]] ++ vc := by simp
   rw [e0] at hcalls
   refine callsIn_FW (hcalls.mono fun e W hR => ?_)
   obtain ⟨I6, H6, hw6, he6, hh6, hor⟩ := hR
   rcases hor with hor | hor
   ·obtain ⟨v, y, rfl, _, hor⟩ := hor
    obtain ⟨Hn', Hs', rfl, hJn⟩ := hor
    rcases hJn with ⟨hns, H1, hJL, rfl⟩ | ⟨pre, hpre, code, H1, hJX, rfl⟩
    ·obtain ⟨hB6, hb6, _, hni6⟩ := hh6.ok _ (.head _)
     have hpn6 : lr.pending = none := by rw [hlr]
     have hrun6 := run_endLoop (P := P) hb6 (by rw [hlr]; simp)
     rw [hpn6] at hrun6
     refine ⟨none, _, hrun6, ?_⟩
     have hh7 := (hh6.putLoop (lp' := { lr with state := .exhausted }) (.head _ _ _) rfl).tail
     have he7 : Ext c.B I6 W I6 (W.putObj (w.heap.size + 1) (.loop { lr with state := .exhausted })) := Ext.putObj hB6 hni6
     rw [hpn6] at he7 hh7
     refine done w.heap.size H1 Hs' hns hJL _ _ ⟨?_, s.size, I6, hw6.putObj hni6, (he.trans (k2.trans he6)).trans he7, hh7, (hv.keep (k2.trans he6).keeps).keep he7.keeps⟩
     show _ :: a.defers = _
     rw [s.ds]
    ·obtain ⟨hB6, hb6, _, hni6⟩ := hh6.ok _ (.head _)
     refine ⟨some code, _, run_endLoop (P := P) hb6 (by simp), ?_⟩
     have hh7 := (hh6.putLoop (lp' := { lr with state := .exhausted, pending := some code }) (.head _ _ _) rfl).tail
     have he7 : Ext c.B I6 W I6 (W.putObj (w.heap.size + 1) (.loop { lr with state := .exhausted, pending := some code })) := Ext.putObj hB6 hni6
     refine jump w.heap.size code pre H1 Hs' hpre hJX _ _ ⟨?_, s.size, I6, hw6.putObj hni6, (he.trans (k2.trans he6)).trans he7, hh7, (hv.keep (k2.trans he6).keeps).keep he7.keeps⟩
     show _ :: a.defers = _
     rw [s.ds]
   ·obtain ⟨v, y, rfl, hy, Hn', Hs', rfl, hown, H1, hJL, rfl⟩ := hor
    refine pan w.heap.size y H1 Hs' hown hJL I6 v _ _ ⟨?_, s.size, I6, hw6, he.trans (k2.trans he6), hh6.tail, hv.keep (k2.trans he6).keeps⟩ hy
    show _ :: a.defers = _
    rw [s.ds]
 ·simp at e1
end
section
variable {P : Program} {c : Ctx} {r : Option Nat} {ops : Array Oper} {l rest : List Oper} {o : Oper} {env : List (Nat × AV)} {H : List Ent} {Q : Exit → Act → World → Prop} {d : Nat}
structure AV.Const (y : AV) (v : Value) : Prop where
 is : ∀ (I : Imm) (w : World) (u : Value), Rel I w y u → u = v
 rel : ∀ (I : Imm) (w : World), Rel I w y v
def RCall (P : Program) (f : FuncId) (xs : List AV) (H : List Ent) (o : Option (AV × List Ent)) (Hf : List Ent) (pv : AV) : Prop :=
 ACall P f xs H (fun y H' => o = some (y, H')) (fun y H' => o = none ∧ y = pv ∧ H' = Hf)
theorem RCall.ok {f : FuncId} {xs : List AV} {H1 Hf : List Ent} {y pv : AV} (h : RCall P f xs H (some (y, H1)) Hf pv) : ACall P f xs H (fun y' H' => y' = y ∧ H' = H1) (fun _ _ => False) :=
 ACall.weak h (fun _ _ e => by cases e; exact ⟨rfl, rfl⟩) (fun _ _ ⟨e, _⟩ => by cases e)
theorem RCall.of {f : FuncId} {xs : List AV} {H1 Hf : List Ent} {y pv : AV} (h : ACall P f xs H (fun y' H' => y' = y ∧ H' = H1) (fun _ _ => False)) : RCall P f xs H (some (y, H1)) Hf pv :=
 ACall.weak h (fun _ _ ⟨e, e'⟩ => by rw [e, e']) (fun _ _ e => e.elim)
theorem OL.rcallS {f : FuncId} {xs : List AV} {H1 Hf : List Ent} {y pv : AV} (hg : o.guard = none) (hd : o.dst = some d) (hn : Nat.blt d c.n = true) (hc : CallOk P (envGet env) o f xs) (h : RCall P f xs H (some (y, H1)) Hf pv)
  (next : OL c r P ops rest ⟨(d, y) :: env, H1⟩ Q) : OL c r P ops (o :: rest) ⟨env, H⟩ Q :=
 OL.bcallC hg hd hn hc h.ok.b (fun _ _ ⟨e, e'⟩ => by subst e; subst e'; exact next)
theorem OL.rcallN {f : FuncId} {xs : List AV} {Hf : List Ent} {pv : AV} {v : Value} (hg : o.guard = none) (hd : dstOk c.n o.dst = true) (hc : CallOk P (envGet env) o f xs) (h : RCall P f xs H none Hf pv) (hv : pv.Const v)
  (next : Done c ⟨env, Hf⟩ (.panic [{ v := v, recovered := false }]) Q) : OL c r P ops (o :: rest) ⟨env, H⟩ Q :=
 OL.bcall hg hd hc h.b (fun _ _ e => by cases e) (fun y H' ⟨_, e1, e2⟩ a w s I u hu => by
  subst e1; subst e2
  rw [hv.is I w u hu]; exact next a w s)
theorem OL.panicC {x : Operand} {y : AV} {g : Bool} {t : TypeId} {v : Value} (hgd : o.guard = none) (h : o.op = .panic x) (hx : aev (envGet env) x = some (g, y)) (hg : g = true) (hy : y.Const (.iface t v))
  (next : Done c ⟨env, H⟩ (.panic [{ v := .iface t v, recovered := false }]) Q) : OL c r P ops (o :: rest) ⟨env, H⟩ Q := OL.panicX hgd h hx hg hy.is next
theorem outP {B : Nat} {I0 : Imm} {w0 : World} {n : Nat} {fn : Func} {Φ : AV → List Ent → Prop} {E : AV → List Ent → Prop} {Hf : List Ent} {y : AV} {v : Value} (hy : y.Const v) (hH : Hf.Sublist H) (hE : E y Hf) :
  ∀ a w, Sat ⟨B, I0, w0, n, []⟩ ⟨env, H⟩ a w → bodyPost P fn (RetP B I0 w0 Φ E) (.panic [{ v := v, recovered := false }]) a w :=
 fun a w s => let ⟨J, hw, he, hh, _⟩ := s.mem; ⟨s.ds, J, Hf, hw, he, hh.sub hH, .inr ⟨v, y, rfl, hy.rel _ _, hE⟩⟩
theorem outM {B D : Nat} {I0 : Imm} {w0 : World} {n : Nat} {fn : Func} {Φ : AV → List Ent → Prop} {E : AV → List Ent → Prop} {Hf H'' : List Ent} {y : AV} {v : Value} (hy : y.Const v) (hD : Del H (.obj D (.deferred (some []))) H'') (hH : Hf.Sublist H'') (hE : E y Hf) :
  ∀ a w, Sat ⟨B, I0, w0, n, [mark D]⟩ ⟨env, H⟩ a w → bodyPostM (FW none) 0 P fn (RetP B I0 w0 Φ E) (.panic [{ v := v, recovered := false }]) a w :=
 fun a w s => panM hD hH hE s hy.rel
def strOf (ns : List Int) : ByteArray := ⟨(ns.map fun n => UInt8.ofNat n.toNat).toArray⟩
theorem fold_strOf : ∀ (ns : List Int) (b : ByteArray), ns.foldl (fun r n => r.push (UInt8.ofNat n.toNat)) b = ⟨b.data ++ (ns.map fun n => UInt8.ofNat n.toNat).toArray⟩
 | [], b => by simp
 | n :: ns, b => by
  rw [List.foldl_cons, fold_strOf ns]
  congr 1
  apply Array.ext'
  simp [ByteArray.push]
def bytesStr (P : Program) (src dst : TypeId) : Bool := match P.underlying src, P.underlying dst with
 | some (.slice e), some .string => (match P.underlying e with | some (.int .u8) => true | _ => false)
 | _, _ => false
theorem bytesStr_spec {src dst : TypeId} (h : bytesStr P src dst = true) : ∃ e, P.underlying src = some (.slice e) ∧ P.underlying dst = some .string ∧ P.underlying e = some (.int .u8) := by
 unfold bytesStr at h
 split at h
 ·rename_i e h1 h2
  split at h
  ·rename_i h3; exact ⟨e, h1, h2, h3⟩
  ·cases h
 ·cases h
theorem POp.bytesStr {ρ : Nat → Option AV} {src dst : TypeId} {x : Operand} {g : Bool} {ns : List Int} (h : o.op = .convert src dst x) (hx : aev ρ x = some (g, .sl 1 (ns.map fun n => [.val (.int .u8 n)]))) (hg : g = true) (hb : bytesStr P src dst = true) :
  POp P H ρ o (.val (.string (strOf ns))) := by
 refine .same (by simp [h]) fun I w f ho => ?_
 obtain ⟨e, h1, h2, h3⟩ := bytesStr_spec hb
 have hr := ho.get (by simp [h, Op.operands]) hx hg
 refine ⟨.string (strOf ns), ?_, .val _⟩
 generalize hu : f.eval x = u at hr
 have fin : ∀ b off n c, u = .slice (some ⟨b, off, none⟩) n c → ns.length = n → (∀ (j : Nat) (v : Value), (ns.map (Value.int .u8))[j]? = some v → w.cell? ⟨b, off + j, none⟩ = some v) → (execOp f.eval o).run P w = .ok (.value (.string (strOf ns))) w := by
  rintro b off n c rfl hl hc
  have hld := run_loadCells_list (P := P) w ⟨b, off, none⟩ (ns.map (Value.int .u8)) (fun j v hj => by rw [Addr.add_lit]; exact hc j v hj)
  rw [List.length_map, hl] at hld
  have hs := run_bytesToString (P := P) w ⟨b, off, none⟩ n c ns hld
  rw [fold_strOf] at hs
  have e3 : (⟨ByteArray.empty.data ++ (ns.map fun n => UInt8.ofNat n.toNat).toArray⟩ : ByteArray) = strOf ns := by unfold strOf; congr 1; apply Array.ext'; rw [Array.toList_append]; rfl
  rw [e3] at hs
  simp [execOp, h, hu, convert, run_underlying h1, run_underlying h2, run_underlying h3, hs]
 generalize hm : (ns.map fun n => [AV.val (.int .u8 n)]) = els at hr
 cases hr with
 | sl0 _ a c =>
  have : ns = [] := by simpa using hm
  subst this
  have e0 : strOf [] = ByteArray.empty := rfl
  rw [e0]
  cases a with
  | none => simp [execOp, h, hu, convert, run_underlying h1, run_underlying h2, run_underlying h3, Conv.bytesToString]
  | some a =>
   have hld := run_loadCells_list (P := P) w a [] (fun j v hj => by simp at hj)
   have hs := run_bytesToString (P := P) w a 0 c [] hld
   simp [execOp, h, hu, convert, run_underlying h1, run_underlying h2, run_underlying h3, hs]
 | sl _ _ b off len cap hl hc hmx he =>
  refine fin b off len cap rfl (by rw [← hl, ← hm]; simp) fun j v hj => ?_
  have hj' : ∃ n, ns[j]? = some n ∧ v = .int .u8 n := by
   rw [List.getElem?_map] at hj
   cases hn : ns[j]? with
   | none => rw [hn] at hj; cases hj
   | some n => rw [hn] at hj; simp at hj; exact ⟨n, rfl, hj.symm⟩
  obtain ⟨n, hn, rfl⟩ := hj'
  have hget : els[j]? = some [AV.val (.int .u8 n)] := by rw [← hm, List.getElem?_map, hn]; rfl
  obtain ⟨_, hcell⟩ := he.get hget
  obtain ⟨v, q1, _, q2⟩ := hcell.get (i := 0) (x := .val (.int .u8 n)) rfl
  rw [rel_val q2] at q1
  simpa using q1
theorem POp.eqS {ρ : Nat → Option AV} {t t' : TypeId} {x y : Operand} {a b : ByteArray} {gx gy : Bool} (h : o.op = .binOp .eql t x y t') (hx : aev ρ x = some (gx, .val (.string a))) (hy : aev ρ y = some (gy, .val (.string b)))
  (hgx : gx = true) (hgy : gy = true) : POp P H ρ o (.b (a.data.toList == b.data.toList)) := by
 refine .same (by simp [h]) fun I w f ho => ?_
 have h1 := rel_val (ho.get (by simp [h, Op.operands]) hx hgx)
 have h2 := rel_val (ho.get (by simp [h, Op.operands]) hy hgy)
 exact ⟨.bool (a.data.toList == b.data.toList), by simp [execOp, h, h1, h2, eqGuard, binOp, Op.stringOp, ByteArray.toList_eq], .val _⟩
theorem strOf_eq (l m : List (Fin 256)) : ((strOf (l.map fun x => (x.val : Int))).data.toList == (strOf (m.map fun x => (x.val : Int))).data.toList) = (l == m) := by
 have e : ∀ l : List (Fin 256), (strOf (l.map fun x => (x.val : Int))).data.toList = l.map fun x => UInt8.ofNat x.val := fun l => by simp [strOf, Function.comp_def]
 rw [e, e]
 have inj : ∀ x y : Fin 256, UInt8.ofNat x.val = UInt8.ofNat y.val → x = y := fun x y h => by
  have := congrArg UInt8.toNat h
  simp only [UInt8.toNat_ofNat'] at this
  ext; omega
 by_cases h : l = m
 ·subst h; simp
 ·rw [beq_eq_false_iff_ne.2 h, beq_eq_false_iff_ne.2 fun k => h ((List.map_inj_right inj).1 k)]
theorem run_slTo3 {t : TypeId} {k : Nat} (ht : slSize P t = some k) (a : Option Addr) (len cap n : Nat) (kh km : IntKind) (h1 : n ≤ cap) (w : World) :
  (Instr.sliceAt t (.slice a len cap) none (some (.int kh (n : Int))) (some (.int km (n : Int)))).run P w = .ok (.slice a n n) w := by
 obtain ⟨e, inf, hu, hi', hk⟩ := slSize_spec ht
 cases n with
 | zero => simp [Instr.sliceAt, Instr.slice, run_underlying hu, Instr.sliceBounds, Instr.sliceBound, asIntOf, sizeOf, typeInfo, hi', hk]
 | succ n =>
  cases a with
  | none =>
   have h2 : (n : Int) + 1 ≤ cap := by omega
   simp [Instr.sliceAt, Instr.slice, run_underlying hu, Instr.sliceBounds, Instr.sliceBound, asIntOf, sizeOf, typeInfo, hi', hk, h1, h2, show (0 : Int) ≤ (n : Int) + 1 by omega]
  | some a =>
   have h2 : (n : Int) + 1 ≤ cap := by omega
   simp [Instr.sliceAt, Instr.slice, run_underlying hu, Instr.sliceBounds, Instr.sliceBound, asIntOf, sizeOf, typeInfo, hi', hk, h1, h2, show (0 : Int) ≤ (n : Int) + 1 by omega, Addr.add]
theorem POp.slTo3 {α : Type} {F : List α → List (List AV)} {enc : α → List AV} {xs : List α} {ρ : Nat → Option AV} {t : TypeId} {x y z : Operand} {k : Nat} {n : Nat} {gx gh gm : Bool} {kh km : IntKind} [ht : HasSl P t k] [hF : MapLike F enc] (h : o.op = .slice t x none (some y) (some z)) (hx : aev ρ x = some (gx, .sl k (F xs))) (hgx : gx = true)
  (hhi : aev ρ y = some (gh, .val (.int kh (n : Int)))) (hgh : gh = true) (hmx : aev ρ z = some (gm, .val (.int km (n : Int)))) (hgm : gm = true) (h1 : n ≤ xs.length) : POp P H ρ o (.sl k (F (xs.take n))) := by
 rw [hF.h] at hx
 rw [hF.h]
 refine .same (by simp [h]) fun I w f ho => ?_
 have r1 := ho.get (by simp [h, Op.operands]) hx hgx
 have r2 := rel_val (ho.get (by simp [h, Op.operands]) hhi hgh)
 have r3 := rel_val (ho.get (by simp [h, Op.operands]) hmx hgm)
 generalize hu : f.eval x = u at r1
 rw [List.map_take]
 have hl' : n ≤ (xs.map enc).length := by simpa using h1
 revert r1 hl'
 generalize xs.map enc = els
 intro r1 hl'
 cases r1 with
 | sl0 _ a c =>
  have hn0 : n = 0 := by simpa using hl'
  have e1 : (execOp f.eval o).run P w = .ok (.value (.slice a n n)) w := by
   have := run_slTo3 ht.h a 0 c n kh km (by omega) w
   simp [execOp, h, hu, r2, r3, this]
  subst hn0
  exact ⟨_, e1, .sl0 _ _ _⟩
 | sl _ _ b off len cap hl hc hm he =>
  have hn : n ≤ cap := by omega
  have e1 : (execOp f.eval o).run P w = .ok (.value (.slice (some ⟨b, off, none⟩) n n)) w := by
   have := run_slTo3 ht.h (some ⟨b, off, none⟩) len cap n kh km hn w
   simp [execOp, h, hu, r2, r3, this]
  exact ⟨_, e1, .sl _ _ b off n n (by rw [List.length_take]; omega) (Nat.le_refl _) (by omega) (he.take n)⟩
end
def PM (H : List Ent) (q : Nat) : (Nat → Bool) → Mem := fun S B _ I w => S q = false ∧ HeapOk B I w H
def PanX (v : Value) (Hf : List Ent) : PX := fun B I w ch w' => ch = [{ v := v, recovered := false }] ∧ ∃ J, WOk B J w' ∧ Ext B I w J w' ∧ HeapOk B J w' Hf
section
variable {c : Ctx} {r : Option Nat} {P : Program} {l : List Oper} {Q : Exit → Act → World → Prop}
theorem DP.anyPan {env : List (Nat × AV)} {H Hf : List Ent} {v : Value} (q k m n : Nat) (hn : c.n = n) (hchk : segChk l k m = true) (hq : (Nat.ble k q && Nat.blt q m) = true) (hml : Nat.ble m l.length = true) (hlk : (l.all fun o => (looks l o).all fun t => Nat.blt t n) = true)
  (pan : ∀ env, Done c ⟨env, Hf⟩ (.panic [{ v := v, recovered := false }]) Q)
  (h : UDX (PanX v Hf) P (PM H q) l c.n k ((l.drop k).take (m - k)) env fun _ => True) : DP c r P l Q k ⟨env, H⟩ := by
 simp only [Bool.and_eq_true] at hq
 have h1 := Nat.le_of_ble_eq_true hq.1
 have h2 : q < m := Nat.lt_of_succ_le (by simpa [Nat.blt] using hq.2)
 refine DP.anyUX (M := PM H q) hchk (by omega) (Nat.le_of_ble_eq_true hml) (by rw [hn]; exact hlk) (fun B a I w hh => ⟨by rw [Bool.eq_false_iff]; intro hb; have := Nat.lt_of_succ_le (by simpa [Nat.blt] using hb); omega, hh⟩) ?_ (h.mono fun env _ a w I _ _ _ _ hm _ => ?_)
 ·rintro I w a ch w' hd hs hw he ⟨rfl, J, j1, j2, j3⟩
  exact pan [] a w' ⟨hd, hs, J, j1, he.trans j2, j3, fun t x hx => by simp [envGet] at hx⟩
 ·have h3 : Nat.blt q m = false := hm.1
  rw [hq.2] at h3; cases h3
end
section
variable {P : Program} {L rest : List Oper} {n i d q : Nat} {o : Oper} {env : List (Nat × AV)} {K : List (Nat × AV) → Prop} {x : AV} {H Hf : List Ent} {X : PX}
theorem UD.popP (hi : Nat.beq i q = false) (hg : o.guard = none) (hd : o.dst = some d) (hn : Nat.blt d n = true) (h : POp P H (envGet env) o x) (next : UDX X P (PM H q) L n (i + 1) rest ((d, x) :: env) K) : UDX X P (PM H q) L n i (o :: rest) env K :=
 ⟨x, fun S hshut hmask hSi => ⟨hg, fun B I w r a hw hm ho hz => by
  have hne : q ≠ i := fun e => by subst e; simp at hi
  exact (h B I w r a _ hw hm.2 (fun e he => he) ho).mono (fun v w' ⟨I', a1, a2, a3, a4⟩ => ⟨I', a1, a2, ⟨by rw [addS_other hne]; exact hm.1, a3⟩, a4⟩) (fun _ _ h => h.elim)⟩, dstOk_of hd hn, by rw [hd]; exact next⟩
theorem UD.panP {f : FuncId} {xs : List AV} {pv : AV} {v : Value} (hi : Nat.beq i q = true) (hg : o.guard = none) (hd : dstOk n o.dst = true) (hc : CallOk P (envGet env) o f xs) (h : RCall P f xs H none Hf pv) (hv : pv.Const v)
  (next : UDX (PanX v Hf) P (PM H q) L n (i + 1) rest (putEnv o.dst .any env) K) : UDX (PanX v Hf) P (PM H q) L n i (o :: rest) env K :=
 ⟨.any, fun S hshut hmask hSi => ⟨hg, fun B I w r a hw hm ho hz => by
  obtain ⟨vs, h1, h2⟩ := hc.run I w a ho
  obtain ⟨hok, hcall⟩ := h
  refine Runs.of_enter hc.nodefer (h2 hok) ((hcall B I w vs hw hm.2 h1).mono fun e w' hr => ?_)
  obtain ⟨I', H', b1, b2, b3, hr⟩ := hr
  rcases hr with ⟨v', x', rfl, _, e⟩ | ⟨v', x', rfl, hx, _, rfl, rfl⟩
  ·cases e
  ·rw [hv.is _ _ _ hx]
   exact ⟨rfl, I', b1, b2, b3⟩⟩, hd, next⟩
end
section
variable {P : Program} {H : List Ent} {ρ : Nat → Option AV} {o : Oper} {x : AV} {G : Type}
theorem FOk.rcall {f : FuncId} {xs : List AV} {H1 Hf : List Ent} {pv : AV} {H' : G → Value → List Ent} (g : G) (hc : CallOk P ρ o f xs) (h : RCall P f xs H (some (x, H1)) Hf pv) (hH : ∀ v, H' g v = H1) : FOk P H H' ρ o x :=
 FOk.bcall hc (fun B => h.ok.b) fun y H2 ⟨e1, e2⟩ => ⟨g, e1, fun v => by rw [hH, e2]⟩
end
section
variable {c : Ctx} {r : Option Nat} {P : Program} {st : St} {Q : Exit → Act → World → Prop}
theorem CW.eqH {p : Code} {H' : List Ent} (hp : st.H = H') (h : CW c r P p ⟨st.env, H'⟩ Q) : CW c r P p st Q := CW.perm (.of_eq hp) h
theorem Done.eqH {e : Exit} {H' : List Ent} (hp : st.H = H') (h : Done c ⟨st.env, H'⟩ e Q) : Done c st e Q := Done.perm (.of_eq hp) h
end
section
variable {P : Program} {f : FuncId} {fs xs cs : List AV} {H H1 Hf : List Ent} {y pv : AV} {B : Nat}
theorem RCall.vS (h : RCall P f (fs ++ xs ++ cs) H (some (y, H1)) Hf pv) : VCall B P (.fn (.func f) fs cs) xs H (fun _ H' => H' = H1) (fun _ _ => False) :=
 VCall.fn (ACall.weak h.ok (fun _ _ e => e.2) (fun _ _ e => e))
theorem RCall.vN (h : RCall P f (fs ++ xs ++ cs) H none Hf pv) : VCall B P (.fn (.func f) fs cs) xs H (fun _ _ => False) (fun y H' => y = pv ∧ H' = Hf) :=
 VCall.fn (ACall.weak (show ACall P f _ H _ _ from h) (fun _ _ e => by cases e) (fun _ _ e => e.2))
end
abbrev Js := List (Option Value)
def kvals (xs : Nat → Js → AV) (J : Js) : Nat → List CE → List Bool → List (Nat × AV)
 | q, e :: es, true :: p => (e.d, xs q J) :: kvals xs J (q + 1) es p
 | q, _ :: es, false :: p => kvals xs J (q + 1) es p
 | _, _, _ => []
def KM (HS : Js → List Ent) (xs : Nat → Js → AV) (es : List CE) (S : Nat → Bool) : Mem := fun B a I w =>
 HeapOk B I w (HS (CE.inst es (CE.pat es S) fun d => a.tmps.getD d undef)) ∧ ∀ q e, es[q]? = some e → S e.i = true → Rel I w (xs q (CE.inst es (CE.pat es S) fun d => a.tmps.getD d undef)) (a.tmps.getD e.d undef)
theorem kvals_get {xs : Nat → Js → AV} {J : Js} {env : List (Nat × AV)} {t : Nat} {y : AV} {S : Nat → Bool} : ∀ (es : List CE) (q : Nat), envGet (kvals xs J q es (CE.pat es S) ++ env) t = some y → (∃ j e, es[j]? = some e ∧ S e.i = true ∧ e.d = t ∧ y = xs (q + j) J) ∨ envGet env t = some y
 | [], q, h => .inr h
 | e :: es, q, h => by
  simp only [CE.pat, List.map_cons] at h
  cases hb : S e.i with
  | true =>
   rw [hb] at h
   simp only [kvals, List.cons_append, envGet_cons] at h
   split at h
   ·rename_i e1; cases h; exact .inl ⟨0, e, rfl, hb, e1.symm, rfl⟩
   ·rcases kvals_get es (q + 1) h with ⟨j, e', h1, h2, h3, h4⟩ | h
    ·exact .inl ⟨j + 1, e', h1, h2, h3, by rw [h4, show q + 1 + j = q + (j + 1) by omega]⟩
    ·exact .inr h
  | false =>
   rw [hb] at h
   rcases kvals_get es (q + 1) h with ⟨j, e', h1, h2, h3, h4⟩ | h
   ·exact .inl ⟨j + 1, e', h1, h2, h3, by rw [h4, show q + 1 + j = q + (j + 1) by omega]⟩
   ·exact .inr h
theorem ops_kvals {I : Imm} {w : World} {a : Act} {o : Oper} {env : List (Nat × AV)} {xs : Nat → Js → AV} {J : Js} {S : Nat → Bool} {es : List CE} (hk : ∀ q e, es[q]? = some e → S e.i = true → Rel I w (xs q J) (a.tmps.getD e.d undef)) (h : OpsOk I w (envGet env) a o) :
  OpsOk I w (envGet (kvals xs J 0 es (CE.pat es S) ++ env)) a o := fun x hx y hy => by
 cases x with
 | tmp u =>
  simp only [aeval] at hy
  rcases kvals_get es 0 hy with ⟨j, e, h1, h2, h3, h4⟩ | hy
  ·have := hk j e h1 h2
   rw [Nat.zero_add] at h4
   rw [h4, ← h3]; exact this
  ·exact h _ hx y hy
 | const v => exact h _ hx y hy
 | global g => exact h _ hx y hy
 | func f => exact h _ hx y hy
def KOk (X : PX) (P : Program) (H : List Ent) (H' : Value → List Ent) (x : Value → AV) (ρ : Nat → Option AV) (o : Oper) : Prop := ∀ (B : Nat) (I : Imm) (w : World) (r : Option Nat) (a : Act), WOk B I w → HeapOk B I w H → OpsOk I w ρ a o →
 Runs P r o a w (fun v w' => ∃ I', WOk B I' w' ∧ Ext B I w I' w' ∧ HeapOk B I' w' (H' v) ∧ Rel I' w' (x v) v) (X B I w)
section
variable {c : Ctx} {r : Option Nat} {P : Program} {l : List Oper} {Q : Exit → Act → World → Prop} {X : PX}
theorem DP.anyK {env : List (Nat × AV)} {H : List Ent} (es : List CE) (HS : Js → List Ent) (xs : Nat → Js → AV) (k m n : Nat) (hn : c.n = n) (hchk : segChk l k m = true) (hes : (es.all fun e => Nat.ble k e.i && Nat.blt e.i m) = true) (hkm : Nat.ble k m = true) (hml : Nat.ble m l.length = true) (hlk : (l.all fun o => (looks l o).all fun t => Nat.blt t n) = true)
  (h0 : HS (es.map fun _ => none) = H)
  (pan : ∀ (I : Imm) (w : World) (a : Act) ch w', a.defers = c.ds → a.tmps.size = c.n → WOk c.B I w → Ext c.B c.I0 c.w0 I w → X c.B I w ch w' → Q (.panic ch) a w')
  (h : UDX X P (KM HS xs es) l c.n k ((l.drop k).take (m - k)) env fun env => ∀ (f : Nat → Value), DP c r P l Q m ⟨kvals xs (es.map fun e => some (f e.d)) 0 es (es.map fun _ => true) ++ env, HS (es.map fun e => some (f e.d))⟩) : DP c r P l Q k ⟨env, H⟩ := by
 simp only [List.all_eq_true, Bool.and_eq_true] at hes
 have blk : ∀ i, Nat.ble k i = true → Nat.blt i k = false := fun i hi => by
  have h1 := Nat.le_of_ble_eq_true hi
  rw [Bool.eq_false_iff]; intro hb; have := Nat.lt_of_succ_le (by simpa [Nat.blt] using hb); omega
 refine DP.anyUX (M := KM HS xs es) hchk (Nat.le_of_ble_eq_true hkm) (Nat.le_of_ble_eq_true hml) (by rw [hn]; exact hlk) (fun B a I w hh => ⟨?_, fun q e he hs => ?_⟩) pan (h.mono fun env hd a w I q1 q2 q3 q4 q5 q6 => ?_)
 ·have e : CE.inst es (CE.pat es fun i => Nat.blt i k) (fun d => a.tmps.getD d undef) = es.map fun _ => none := by
   rw [inst_pat]
   exact List.map_congr_left fun e he => by rw [blk _ (hes e he).1]; rfl
  rw [e, h0]; exact hh
 ·have h3 : Nat.blt e.i k = true := hs
  rw [blk _ (hes e (List.mem_of_getElem? he)).1] at h3; cases h3
 ·obtain ⟨hh, hr⟩ := q5
  have e : CE.inst es (CE.pat es fun i => Nat.blt i m) (fun d => a.tmps.getD d undef) = es.map fun e => some (a.tmps.getD e.d undef) := by
   rw [inst_pat]
   exact List.map_congr_left fun e he => by rw [(hes e he).2]; rfl
  have e2 : CE.pat es (fun i => Nat.blt i m) = es.map fun _ => true := List.map_congr_left fun e he => (hes e he).2
  rw [e] at hh hr
  refine hd (fun d => a.tmps.getD d undef) a w ⟨q1, q2, I, q3, q4, hh, fun t y hy => ?_⟩
  rw [← e2] at hy
  rcases kvals_get es 0 hy with ⟨j, e', h1, h2, h3, h4⟩ | hy
  ·have := hr j e' h1 h2
   rw [Nat.zero_add] at h4
   rw [h4, ← h3]; exact this
  ·exact q6 t y hy
end
section
variable {P : Program} {L rest : List Oper} {es : List CE} {n i d : Nat} {o : Oper} {env : List (Nat × AV)} {K : List (Nat × AV) → Prop} {x : AV} {HS : Js → List Ent} {xs : Nat → Js → AV} {X : PX}
theorem UD.popK (pats : List (List Bool)) (hi : (es.all fun e => !Nat.beq e.i i && !Nat.beq e.d d) = true) (hf : CE.fits L es i pats = true) (hg : o.guard = none) (hd : o.dst = some d) (hn : Nat.blt d n = true)
  (h : AllP pats fun p => ∀ f, POp P (HS (CE.inst es p f)) (envGet (kvals xs (CE.inst es p f) 0 es p ++ env)) o x) (next : UDX X P (KM HS xs es) L n (i + 1) rest ((d, x) :: env) K) : UDX X P (KM HS xs es) L n i (o :: rest) env K :=
 ⟨x, fun S hshut hmask hSi => ⟨hg, fun B I w r a hw hm ho hz => by
  obtain ⟨hm, hr⟩ := hm
  simp only [List.all_eq_true, Bool.and_eq_true, Bool.not_eq_true'] at hi
  have ne : ∀ {a b : Nat}, Nat.beq a b = false → a ≠ b := fun h e => by subst e; simp at h
  refine (h.at _ (CE.fits_of hf hshut hmask hSi) (fun d => a.tmps.getD d undef) B I w r a _ hw hm (fun e he => he) (ops_kvals hr ho)).mono (fun v w' ⟨I', a1, a2, a3, a4⟩ => ⟨I', a1, a2, ?_, a4⟩) (fun _ _ h => h.elim)
  have e : CE.inst es (CE.pat es (addS S i)) (fun d => (a.put o.dst v).tmps.getD d undef) = CE.inst es (CE.pat es S) (fun d => a.tmps.getD d undef) := by
   rw [inst_pat, inst_pat]
   exact List.map_congr_left fun e he => by rw [addS_other (ne (hi e he).1), hd, tmps_put_other (ne (hi e he).2)]
  refine ⟨by rw [e]; exact a3, fun q e' he' hs => ?_⟩
  have hme := List.mem_of_getElem? he'
  rw [e, show (a.put o.dst v).tmps.getD e'.d undef = a.tmps.getD e'.d undef by rw [hd, tmps_put_other (ne (hi e' hme).2)]]
  rw [addS_other (ne (hi e' hme).1)] at hs
  exact (hr q e' he' hs).keep a2.keeps⟩, dstOk_of hd hn, by rw [hd]; exact next⟩
theorem UD.effK (q : Nat) (pats : List (List Bool)) {e : CE} (he : es[q]? = some e) (hi : e.i = i) (ho : ((es.take q ++ es.drop (q + 1)).all fun e' => !Nat.beq e'.i i && !Nat.beq e'.d e.d) = true) (hf : CE.fits L es i pats = true) (hg : o.guard = none) (hd : o.dst = some e.d) (hn : Nat.blt e.d n = true)
  (h : AllP pats fun p => ∀ f, KOk X P (HS (CE.inst es p f)) (fun v => HS ((CE.inst es p f).set q (some v))) (fun v => xs q ((CE.inst es p f).set q (some v))) (envGet (kvals xs (CE.inst es p f) 0 es p ++ env)) o ∧ ∀ v q', p[q']? = some true → xs q' ((CE.inst es p f).set q (some v)) = xs q' (CE.inst es p f))
  (next : UDX X P (KM HS xs es) L n (i + 1) rest ((e.d, .any) :: env) K) : UDX X P (KM HS xs es) L n i (o :: rest) env K :=
 ⟨.any, fun S hshut hmask hSi => ⟨hg, fun B I w r a hw hm hops hz => by
  obtain ⟨hm, hr⟩ := hm
  simp only [List.all_eq_true, Bool.and_eq_true, Bool.not_eq_true'] at ho
  have ne : ∀ {a b : Nat}, Nat.beq a b = false → a ≠ b := fun h e => by subst e; simp at h
  obtain ⟨hk, hst⟩ := h.at _ (CE.fits_of hf hshut hmask hSi) (fun d => a.tmps.getD d undef)
  refine (hk B I w r a hw hm (ops_kvals hr hops)).mono (fun v w' ⟨I', a1, a2, a3, a4⟩ => ⟨I', a1, a2, ?_, .any _⟩) (fun _ _ h => h)
  have hoth : ∀ q' e', q' ≠ q → es[q']? = some e' → e'.i ≠ e.i ∧ (a.put o.dst v).tmps.getD e'.d undef = a.tmps.getD e'.d undef := fun q' e' hq he' => by
   have hm' : e' ∈ es.take q ++ es.drop (q + 1) := by
    rw [List.mem_append]
    rcases Nat.lt_or_gt_of_ne hq with h1 | h1
    ·exact .inl (List.mem_of_getElem? (i := q') (by rw [List.getElem?_take, if_pos h1]; exact he'))
    ·exact .inr (List.mem_of_getElem? (i := q' - (q + 1)) (by rw [List.getElem?_drop, show q + 1 + (q' - (q + 1)) = q' by omega]; exact he'))
   refine ⟨by rw [hi]; exact ne (ho _ hm').1, ?_⟩
   rw [hd]; exact tmps_put_other (ne (ho _ hm').2)
  have hval : (a.put o.dst v).tmps.getD e.d undef = v := by rw [hd]; exact tmps_put_same (hz _ hd)
  have hset := inst_set (es := es) (S := S) (f := fun d => a.tmps.getD d undef) (f' := fun d => (a.put o.dst v).tmps.getD d undef) (u := v) he hval hoth
  rw [← hi]
  refine ⟨by rw [hset]; exact a3, fun q' e' he' hs => ?_⟩
  rw [hset]
  by_cases hq : q' = q
  ·subst hq
   rw [he] at he'; cases he'
   rw [hval]; exact a4
  ·obtain ⟨o1, o2⟩ := hoth q' e' hq he'
   rw [addS_other o1] at hs
   rw [o2, hst v q' (by rw [CE.pat, List.getElem?_map, he']; exact congrArg some hs)]
   exact (hr q' e' he' hs).keep a2.keeps⟩, dstOk_of hd hn, by rw [hd]; exact next⟩
end
section
variable {P : Program} {H : List Ent} {ρ : Nat → Option AV} {o : Oper} {X : PX}
theorem KOk.rcall {f : FuncId} {ys : List AV} {H1 Hf : List Ent} {y pv : AV} {H' : Value → List Ent} {x : Value → AV} (hc : CallOk P ρ o f ys) (h : RCall P f ys H (some (y, H1)) Hf pv) (hH : ∀ v, H' v = H1) (hx : ∀ v, x v = y) : KOk X P H H' x ρ o := fun B I w r a hw hh ho =>
 (bcall_runs (c := ⟨B, I, w, 0, []⟩) hc (h.ok.b) hw hh ho).mono (fun v w' hR => by
  obtain ⟨I', H2, z, a1, a2, a3, a4, a5, a6⟩ := hR
  subst a5; subst a6
  exact ⟨I', a1, a2, by rw [hH]; exact a3, by rw [hx]; exact a4⟩) (fun _ _ h => h.elim)
theorem KOk.bcall {f : FuncId} {ys : List AV} {Φ : AV → List Ent → Prop} {H' : Value → List Ent} {x : Value → AV} (hc : CallOk P ρ o f ys) (h : ∀ B, BCall B P f ys H Φ (fun _ _ => False)) (hq : ∀ v y H1, Φ y H1 → H' v = H1 ∧ x v = y) : KOk X P H H' x ρ o := fun B I w r a hw hh ho =>
 (bcall_runs (c := ⟨B, I, w, 0, []⟩) hc (h B) hw hh ho).mono (fun v w' hR => by
  obtain ⟨I', H2, z, a1, a2, a3, a4, a5⟩ := hR
  obtain ⟨e1, e2⟩ := hq v _ _ a5
  exact ⟨I', a1, a2, by rw [e1]; exact a3, by rw [e2]; exact a4⟩) (fun _ _ h => h.elim)
theorem KOk.pan {f : FuncId} {ys : List AV} {Hf : List Ent} {pv : AV} {v0 : Value} {H' : Value → List Ent} {x : Value → AV} (hc : CallOk P ρ o f ys) (h : RCall P f ys H none Hf pv) (hv : pv.Const v0) : KOk (PanX v0 Hf) P H H' x ρ o := fun B I w r a hw hh ho => by
 obtain ⟨vs, h1, h2⟩ := hc.run I w a ho
 obtain ⟨hok, hcall⟩ := h
 refine Runs.of_enter hc.nodefer (h2 hok) ((hcall B I w vs hw hh h1).mono fun e w' hr => ?_)
 obtain ⟨I', H1, b1, b2, b3, hr⟩ := hr
 rcases hr with ⟨v', x', rfl, _, e⟩ | ⟨v', x', rfl, hx, _, rfl, rfl⟩
 ·cases e
 ·rw [hv.is _ _ _ hx]
  exact ⟨rfl, I', b1, b2, b3⟩
theorem KOk.pop {y : AV} {H' : Value → List Ent} {x : Value → AV} (h : POp P H ρ o y) (hH : ∀ v, H' v = H) (hx : ∀ v, x v = y) : KOk X P H H' x ρ o := fun B I w r a hw hh ho =>
 (h B I w r a _ hw hh (fun e he => he) ho).mono (fun v w' ⟨I', a1, a2, a3, a4⟩ => ⟨I', a1, a2, by rw [hH]; exact a3, by rw [hx]; exact a4⟩) (fun _ _ h => h.elim)
theorem KOk.sto {H1 : List Ent} {H' : Value → List Ent} {x : Value → AV} (h : SOk P H H1 ρ o) (hH : ∀ v, H' v = H1) (hx : ∀ v, x v = .any) : KOk X P H H' x ρ o := fun B I w r a hw hh ho =>
 (h B I w r a hw hh ho).mono (fun v w' ⟨I', a1, a2, a3⟩ => ⟨I', a1, a2, by rw [hH]; exact a3, by rw [hx]; exact .any _⟩) (fun _ _ h => h.elim)
abbrev noMem : List Ent := [.obj 0 (.deferred none), .obj 0 (.deferred (some []))]
theorem noMem_no {B : Nat} {I : Imm} {w : World} {Hc : List Ent} (h : HeapOk B I w Hc) (hm : ∀ e ∈ noMem, e ∈ Hc) : False := by
 have h1 := (h.ok _ (hm _ (.head _))).2.1
 have h2 := (h.ok _ (hm _ (.tail _ (.head _)))).2.1
 rw [h1] at h2
 cases h2
theorem Sat.no {c : Ctx} {env : List (Nat × AV)} {a : Act} {w : World} (s : Sat c ⟨env, noMem⟩ a w) : False := let ⟨_, _, _, hh, _⟩ := s.mem; noMem_no hh fun _ h => h
theorem KOk.no {H' : Value → List Ent} {x : Value → AV} : KOk X P noMem H' x ρ o := fun B I w r a hw hh ho => (noMem_no hh fun _ h => h).elim
theorem POp.no {x : AV} : POp P noMem ρ o x := fun B I w r a Hc hw hh hs ho => (noMem_no hh hs).elim
theorem KOk.box {t : TypeId} {z : Operand} {y : AV} {g : Bool} {H' : Value → List Ent} {x : Value → AV} (h : o.op = .box t z) (hz : aev ρ z = some (g, y)) (hg : g = true) (hb : bOk y = true) (hH : ∀ v, H' v = .blk (blkOf v) t (bcells y) :: H) (hx : ∀ v, x v = .p (blkOf v) 0) : KOk X P H H' x ρ o := fun B I w r a hw hh ho => by
 have h1 := bcells_rel (ho.get (by simp [h, Op.operands]) hz hg) hb
 refine Runs.of_value (by simp [h]) (v := .pointer (some ⟨w.heap.size, 0, none⟩)) (w' := w.alloc (.cells (a.eval z).cells t)) (by simp [execOp, h, Instr.box, newVar, newRow]) ⟨I, hw.alloc _, ext_alloc hw _, ?_, ?_⟩
 ·rw [hH]; exact hh.new hw t _ _ h1
 ·rw [hx]; exact .val _
theorem KOk.al {t : TypeId} {zs : List Value} {H' : Value → List Ent} {x : Value → AV} [hz : HasZero P t zs] (h : o.op = .alloc t) (hH : ∀ v, H' v = .blk (blkOf v) t (zs.map .val) :: H) (hx : ∀ v, x v = .p (blkOf v) 0) : KOk X P H H' x ρ o := fun B I w r a hw hh ho => by
 have hz' := hz.h
 unfold zeroCells at hz'
 cases hin : P.info? t with
 | none => simp [hin] at hz'
 | some inf =>
  cases hz2 : inf.zero with
  | none => simp [hin, hz2] at hz'
  | some z =>
   simp [hin, hz2] at hz'
   have h1 : RelL I w (zs.map .val) z.cells.toList := by rw [hz']; exact relL_val zs
   refine Runs.of_value (by simp [h]) (v := .pointer (some ⟨w.heap.size, 0, none⟩)) (w' := w.alloc (.cells z.cells t)) (by simp [execOp, h, Instr.alloc, newVar, newRow, zeroValue, typeInfo, hin, hz2]) ⟨I, hw.alloc _, ext_alloc hw _, ?_, ?_⟩
   ·rw [hH]; exact hh.new hw t _ _ h1
   ·rw [hx]; exact .val _
end
end Go.Eng

set_option linter.unusedVariables false
namespace Go
def Exit.inBlockS (id : Nat) (Q : Exit → Act → List Frame → World → Prop) : Exit → Act → List Frame → World → Prop
 | .exit id', a, cs, w => if id' = id then Q .normal a cs w else Q (.exit id') a cs w
 | e, a, cs, w => Q e a cs w
theorem wpSIn_block {F : Fence} {n : Nat} {P : Program} {Q : Exit → Act → List Frame → World → Prop} {a : Act} {cs : List Frame} {w : World} {id : Nat} {c : Code} (h : c.wpSIn F n P (Exit.inBlockS id Q) a cs w) : (Code.block id c).wpSIn F n P Q a cs w := by
 intro b k hb hro hF hroom
 have h0 : (lone (b.atR a (.code (.block id c) :: k)) cs w).fenced P F := fenced_calm hF hroom rfl
 obtain ⟨e, a₁, cs₁, w₁, hl, hq, harr⟩ := h b (.inBlock id :: k) hb hro hF hroom
 cases e with
 | normal => exact ⟨.normal, a₁, cs₁, w₁, hl, hq, .head h0 stepR_block (StepsIn.trans harr (.one (fenced_calm hF (hl ▸ hroom) rfl) stepR_inBlock))⟩
 | exit id' =>
  by_cases hid : id' = id
  ·simp only [Exit.inBlockS, hid, if_true] at hq
   exact ⟨.normal, a₁, cs₁, w₁, hl, hq, .head h0 stepR_block (harr.1 k (by simp [exitTo, hid]))⟩
  ·simp only [Exit.inBlockS, hid, if_false] at hq
   have this : (id == id') = false := by simp; exact fun h => hid h.symm
   have hx : exitTo id' (.inBlock id :: k) = exitTo id' k := by simp [exitTo, this]
   exact ⟨.exit id', a₁, cs₁, w₁, hl, hq, fun k' hk => .head h0 stepR_block (harr.1 k' (by rw [hx]; exact hk)),
    fun hr' hk => let ⟨k₁, h1, h2⟩ := harr.2 hr' (by rw [hx]; exact hk); ⟨k₁, h1, .head h0 stepR_block h2⟩⟩
 | goto l =>
  have hx : gotoIn l (.inBlock id :: k) = gotoIn l k := by simp [gotoIn]
  exact ⟨_, a₁, cs₁, w₁, hl, hq, fun k' hk => .head h0 stepR_block (harr.1 k' (by rw [hx]; exact hk)),
   fun hr' hk => let ⟨k₁, h1, h2⟩ := harr.2 hr' (by rw [hx]; exact hk); ⟨k₁, h1, .head h0 stepR_block h2⟩⟩
 | ret => exact ⟨_, a₁, cs₁, w₁, hl, hq, .of_steps (.one h0 stepR_block) harr⟩
 | panic ch => exact ⟨_, a₁, cs₁, w₁, hl, hq, .of_steps (.one h0 stepR_block) harr⟩
 | outgrown => exact ⟨_, a₁, cs₁, w₁, hl, hq, .of_steps (.one h0 stepR_block) harr⟩
end Go
