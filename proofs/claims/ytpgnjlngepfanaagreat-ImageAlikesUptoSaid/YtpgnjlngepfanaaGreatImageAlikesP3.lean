/- Part 3 of the proof: contracts of functions of the program and what they need. No condition beyond those that each theorem names. -/
import Derived.Test.YtpgnjlngepfanaaGreatImageAlikesP2
import Derived.Maps.Keyed
import Derived.Maps.AppendAt
import Derived.OneCell
import Derived.Scope
import Derived.OpenShut
import Derived.ProofKit
import Derived.Laws.MakeOwn
import Derived.Carry
set_option maxHeartbeats 1000000
set_option linter.unusedVariables false
set_option linter.unusedSimpArgs false
namespace Go.Eng
open Go.RowKit (Below)
open Go.ChangeShapes Go.WideShapes Go.ChangeAt Go.RowKit
open Go.ChangeShapes Go.WideShapes
def segChk (l : List Oper) (k m : Nat) : Bool :=
 let ms := masks l []
 (l.zipIdx.all fun p => (deps p.1).all fun j => Nat.blt j p.2) &&
 (l.zipIdx.all fun p => Nat.blt p.2 m || (List.range m).all fun j => Nat.blt j k || (ms.getD p.2 0).testBit j) &&
 ((l.take m).zipIdx.all fun p => Nat.blt p.2 k || ((l.take m).zipIdx.all fun q => match q.1.dst with
  | some d => (Nat.beq p.2 q.2 || Nat.blt q.2 k || !(match p.1.dst with | some d' => Nat.beq d d' | none => false)) && (!((looks l p.1).any (Nat.beq d)) || Nat.blt q.2 k || (Nat.blt q.2 p.2 && (ms.getD p.2 0).testBit q.2))
  | none => true))
structure SegOk (l : List Oper) (k m : Nat) : Prop where
 back : ∀ i o, l[i]? = some o → ∀ j ∈ deps o, j < i
 tail : ∀ i, m ≤ i → i < l.length → ∀ j, k ≤ j → j < m → ((masks l []).getD i 0).testBit j = true
 apart : ∀ i oi j oj d, k ≤ i → i < m → l[i]? = some oi → k ≤ j → j < m → l[j]? = some oj → oj.dst = some d → i ≠ j → oi.dst ≠ some d
 looked : ∀ i oi j oj d, k ≤ i → i < m → l[i]? = some oi → k ≤ j → j < m → l[j]? = some oj → oj.dst = some d → d ∈ looks l oi → j < i ∧ ((masks l []).getD i 0).testBit j = true
theorem segOk_of {l : List Oper} {k m : Nat} (h : segChk l k m = true) : SegOk l k m := by
 simp only [segChk, Bool.and_eq_true, List.all_eq_true] at h
 obtain ⟨⟨h1, h2⟩, h3⟩ := h
 have key : ∀ i oi j oj d, k ≤ i → i < m → l[i]? = some oi → k ≤ j → j < m → l[j]? = some oj → oj.dst = some d → (i = j ∨ oi.dst ≠ some d) ∧ (d ∈ looks l oi → j < i ∧ ((masks l []).getD i 0).testBit j = true) := by
  intro i oi j oj d hki hi hoi hkj hj hoj hd
  have hti : (l.take m)[i]? = some oi := by rw [List.getElem?_take, if_pos hi]; exact hoi
  have htj : (l.take m)[j]? = some oj := by rw [List.getElem?_take, if_pos hj]; exact hoj
  have h4 := h3 _ (mem_zipIdx_of hti)
  simp only [Bool.or_eq_true, List.all_eq_true] at h4
  have nk : ∀ x, k ≤ x → ¬ Nat.blt x k = true := fun x hx hb => by
   have := Nat.lt_of_succ_le (by simpa [Nat.blt] using hb); omega
  rcases h4 with h4 | h4
  ·exact absurd h4 (nk i hki)
  have := h4 _ (mem_zipIdx_of htj)
  simp only [hd, Bool.and_eq_true, Bool.or_eq_true, Bool.not_eq_true'] at this
  obtain ⟨ha, hb⟩ := this
  refine ⟨?_, fun hm => ?_⟩
  ·rcases ha with (ha | ha) | ha
   ·exact .inl (Nat.eq_of_beq_eq_true ha)
   ·exact absurd ha (nk j hkj)
   ·refine .inr fun e => ?_
    rw [e] at ha
    simp at ha
  ·rcases hb with (hb | hb) | hb
   ·exfalso
    rw [List.any_eq_false] at hb
    exact hb d hm Ys
   ·exact absurd hb (nk j hkj)
   ·exact ⟨Nat.lt_of_succ_le (by simpa [Nat.blt] using hb.1), hb.2⟩
 refine ⟨fun i o ho j hj => ?_, fun i hi hl j hkj hj => ?_, fun i oi j oj d hki hi hoi hkj hj hoj hd hne => ?_, fun i oi j oj d hki hi hoi hkj hj hoj hd hm => (key i oi j oj d hki hi hoi hkj hj hoj hd).2 hm⟩
 ·have := h1 _ (mem_zipIdx_of ho) j hj
  exact Nat.lt_of_succ_le Ybe
 ·have := h2 _ (mem_zipIdx_of (List.getElem?_eq_getElem hl))
  simp only [Bool.or_eq_true] at this
  rcases this with h | h
  ·have : i < m := Nat.lt_of_succ_le Ybc
   omega
  ·rw [List.all_eq_true] at h
   have := h j (by simpa using hj)
   simp only [Bool.or_eq_true] at this
   rcases this with h | h
   ·have : j < k := Nat.lt_of_succ_le Ybc
    omega
   ·exact h
 ·rcases (key i oi j oj d hki hi hoi hkj hj hoj hd).1 with h | h
  ·exact absurd h hne
  ·exact h
theorem masks_len : ∀ (l' : List Oper) (acc : List Nat), (masks l' acc).length = acc.length + l'.length := by
 intro l'; induction l' with
 | nil => intro acc; simp [masks]
 | cons o l' ih => intro acc; rw [masks, ih]; simp; omega
theorem wpIn_mono2 {F : Fence} {n : Nat} {P : Program} {o : Oper} {a : Act} {w : World} {K K' : Act → World → Prop} {Q Q' : Exit → Act → World → Prop} (h : ∀ a w, K a w → K' a w) (hp : ∀ ch a w, Q (.panic ch) a w → Q' (.panic ch) a w) (ho : ∀ a w, Q .outgrown a w → Q' .outgrown a w)
  (hh : o.wpIn F n P a w K Q) : o.wpIn F n P a w K' Q' := by
 have hl : LetsOut Q → LetsOut Q' := fun ⟨a, w, h⟩ => ⟨a, w, ho a w h⟩
 unfold Oper.wpIn at *
 refine ⟨hh.1, ?_⟩
 have hh := hh.2
 generalize (o.semAt F.round a.eval).run P w = r at *
 cases r with
 | ok x w' =>
  cases x <;> simp only [Oper.uponIn] at hh ⊢ <;>
   first
    | exact h _ _ hh
    | exact ⟨hh.1, CallsIn.mono hh.2 (fun e w'' he => by cases e <;> first | exact h _ _ he | exact hp _ _ _ he | exact hl he)⟩
    | exact ⟨hh.1, RowsIn.mono hh.2 (fun _ _ he => h _ _ he)⟩
    | exact ⟨hh.1, RoundIn.mono hh.2 (fun e w'' he => by cases e <;> first | exact h _ _ he | exact hp _ _ _ he | exact hl he)⟩
 | halt x w' => cases x <;> simp only [Oper.uponIn] at hh ⊢ <;> first | exact hp _ _ _ hh | exact hh
section
variable {c : Ctx} {r : Option Nat} {P : Program} {l : List Oper} {st : St} {Q : Exit → Act → World → Prop}
def KD (c : Ctx) (r : Option Nat) (P : Program) (l : List Oper) (Q : Exit → Act → World → Prop) (k : Nat) (a : Act) (w : World) : Prop :=
 ∀ (fuel : Nat) (listed : Array Bool), listed.size = l.length → (∀ i, listed.getD i false = true ↔ i < k) → l.length - k ≤ fuel → wpAnyIn (FW r) 0 P .any l.toArray Q fuel listed a w
def DP (c : Ctx) (r : Option Nat) (P : Program) (l : List Oper) (Q : Exit → Act → World → Prop) (k : Nat) (st : St) : Prop := ∀ a w, Sat c st a w → KD c r P l Q k a w
theorem CW.dp {id : Nat} (hm : P.follows .mixedOrders = true) (h : DP c r P l Q 0 st) : CW c r P (.region id l.toArray true) st Q := by
 intro a w s
 refine wpIn_region_any hm ?_
 show wpAnyIn (FW r) 0 P .any l.toArray Q l.toArray.size (Array.replicate l.toArray.size false) a w.drew
 refine h a w.drew ⟨s.ds, s.size, ?_⟩ _ _ Ys (fun i => by simp [Array.getD]) Ys
 obtain ⟨I, hw, he, hh, hv⟩ := s.mem
 exact ⟨I, hw.drew, he.drew, hh.drew, hv.keep keeps_drew⟩
theorem Done.dp {k : Nat} (h : DP c r P l Q k st) : Done c st .normal (Exit.then (KD c r P l Q k) Q) := h
theorem DP.done {k : Nat} (hk : k = l.length) (h : Done c st .normal Q) : DP c r P l Q k st := by
 intro a w s fuel listed hsz hli hfu
 have hr : Region.ready .any l.toArray listed = [] := by
  cases hr : Region.ready .any l.toArray listed with
  | nil => rfl
  | cons i rs =>
   exfalso
   have hi : i ∈ Region.ready .any l.toArray listed := by rw [hr]; simp
   obtain ⟨h1, o, h2, _⟩ := mem_ready.1 hi
   have hlt : i < l.length := by
    have := (Array.getElem?_eq_some_iff.1 h2).1
    simpa using this
   rw [getD_true_iff Yb, (hli i).2 Yb] at h1; cases h1
 exact wpAnyIn_done hr (h a w s) fuel
theorem DP.one {k : Nat} {o : Oper} (hchk : segChk l k (k + 1) = true) (ho : l[k]? = some o) (h : OL c r P l.toArray [o] st (Exit.then (KD c r P l Q (k + 1)) Q)) : DP c r P l Q k st := by
 have ok := segOk_of hchk
 intro a w s fuel listed hsz hli hfu
 have hkl : k < l.length := (List.getElem?_eq_some_iff.1 ho).1
 obtain ⟨fuel, rfl⟩ : ∃ f, fuel = f + 1 := ⟨fuel - 1, Yb⟩
 have hmem : ∀ i ∈ Region.ready .any l.toArray listed, i = k := by
  intro i hi
  obtain ⟨h1, oi, h2, h3⟩ := mem_ready.1 hi
  have hlt : i < l.length := by
   have := (Array.getElem?_eq_some_iff.1 h2).1
   simpa using this
  rw [getD_true_iff Yb] at h1
  have hge : k ≤ i := by
   rcases Nat.lt_or_ge i k with h | h
   ·rw [(hli i).2 h] at h1; cases h1
   ·exact h
  rcases Nat.lt_or_ge k i with hlt' | hge'
  ·exfalso
   have hoi : l[i]? = some oi := by simpa using h2
   have hcl2 : Closed l (fun j => listed.getD j false = true) := fun j oj hj hoj j' hj' => (hli j').2 (by have := ok.back j oj hoj j' hj'; have := (hli j).1 hj; omega)
   have hms : (masks l [])[i]? = some ((masks l []).getD i 0) := by
    have : i < (masks l []).length := by rw [masks_len]; simpa using hlt
    simp [List.getD, this]
   have := masks_spec l _ hcl2 l [] Ys Ys Ys i _ oi hms hoi (fun j hj => by
    simp only [deps, List.mem_filterMap] at hj
    obtain ⟨e, he, hb⟩ := hj
    split at hb
    ·rename_i hbi; simp at hb; subst hb; exact h3 e Ya6 hbi
    ·cases hb) k (ok.tail i Yb hlt k (Nat.le_refl _) (Nat.lt_succ_self _))
   exact Nat.lt_irrefl _ ((hli k).1 this)
  ·omega
 refine ⟨fun h0 => ?_, fun i hi => ?_⟩
 ·exfalso
  have : k ∈ Region.ready .any l.toArray listed := by
   rw [mem_ready]
   refine ⟨?_, o, by simpa using ho, fun e he hb => ?_⟩
   ·rw [getD_true_iff Yb]
    cases hx : listed.getD k false with
    | false => rfl
    | true => exact absurd ((hli k).1 hx) (Nat.lt_irrefl _)
   ·exact (hli _).2 (ok.back k _ ho e.on YY)
  rw [h0] at this; cases this
 ·have hik := hmem i hi
  subst hik
  unfold wpOpIn
  have hio : l.toArray[i]? = some o := by simpa using ho
  simp only [hio]
  have hwp := h a w s
  have next : ∀ a w, KD c r P l Q (i + 1) a w → wpAnyIn (FW r) 0 P .any l.toArray Q fuel (listed.setIfInBounds i true) a w := by
   intro a w hk
   refine hk fuel _ (by simp [hsz]) (fun j => ?_) Yb
   rw [getD_set _ _ _ Yb]
   by_cases e : i = j
   ·subst e; simp
   ·rw [if_neg e, hli]; omega
  unfold wpListIn at hwp
  split at hwp
  ·rename_i hwant; rw [if_pos hwant]
   exact wpIn_mono2 next (fun _ _ _ h => h) (fun _ _ h => h) hwp
  ·rename_i hwant; rw [if_neg hwant]; exact ⟨hwp.1, next _ _ hwp.2⟩
def tailChk (l : List Oper) (k : Nat) : Bool :=
 let ms := masks l []
 (l.zipIdx.all fun p => (deps p.1).all fun j => Nat.blt j p.2) &&
 (l.zipIdx.all fun p => Nat.blt p.2 k || (List.range p.2).all fun j => Nat.blt j k || (ms.getD p.2 0).testBit j)
theorem DP.tail {k : Nat} (hchk : tailChk l k = true) (hkl : k ≤ l.length) (h : OL c r P l.toArray (l.drop k) st Q) : DP c r P l Q k st := by
 simp only [tailChk, Bool.and_eq_true, List.all_eq_true] at hchk
 obtain ⟨h1, h2⟩ := hchk
 have back : ∀ i o, l[i]? = some o → ∀ j ∈ deps o, j < i := fun i o ho j hj => by
  have := h1 _ (mem_zipIdx_of ho) j hj
  exact Nat.lt_of_succ_le Ybe
 have tail : ∀ i, k ≤ i → i < l.length → ∀ j, k ≤ j → j < i → ((masks l []).getD i 0).testBit j = true := fun i hi hl j hkj hj => by
  have := h2 _ (mem_zipIdx_of (List.getElem?_eq_getElem hl))
  simp only [Bool.or_eq_true] at this
  rcases this with h | h
  ·have : i < k := Nat.lt_of_succ_le Ybc
   omega
  ·rw [List.all_eq_true] at h
   have := h j (by simpa using hj)
   simp only [Bool.or_eq_true] at this
   rcases this with h | h
   ·have : j < k := Nat.lt_of_succ_le Ybc
    omega
   ·exact h
 intro a w s fuel listed hsz hli hfu
 have key : ∀ (p fuel : Nat) (listed : Array Bool) (a : Act) (w : World), listed.size = l.length → p ≤ l.length → k ≤ p → (∀ i, listed.getD i false = true ↔ i < p) → l.length - p ≤ fuel →
   wpListIn (FW r) 0 P l.toArray Q (l.drop p) a w → wpAnyIn (FW r) 0 P .any l.toArray Q fuel listed a w := by
  intro p
  induction hp : l.length - p generalizing p with
  | zero =>
   intro fuel listed a w hsz hpl hkp hli hfu hwp
   have hpl' : p = l.length := by omega
   rw [show l.drop p = [] by rw [hpl']; simp] at hwp
   ·have hr : Region.ready .any l.toArray listed = [] := by
     cases hr : Region.ready .any l.toArray listed with
     | nil => rfl
     | cons i rs =>
      exfalso
      have hi : i ∈ Region.ready .any l.toArray listed := by rw [hr]; simp
      obtain ⟨h1, o, h2, _⟩ := mem_ready.1 hi
      have hlt : i < l.length := by
       have := (Array.getElem?_eq_some_iff.1 h2).1
       simpa using this
      rw [getD_true_iff Yb, (hli i).2 Yb] at h1; cases h1
    exact wpAnyIn_done hr hwp fuel
  | succ q ihk =>
   intro fuel listed a w hsz hpl hkp hli hfu hwp
   obtain ⟨fuel, rfl⟩ : ∃ f, fuel = f + 1 := ⟨fuel - 1, Yb⟩
   have hpl' : p < l.length := by omega
   have hok : l[p]? = some l[p] := List.getElem?_eq_getElem hpl'
   have hmem : ∀ i ∈ Region.ready .any l.toArray listed, i = p := by
    intro i hi
    obtain ⟨h1, o, h2, h3⟩ := mem_ready.1 hi
    have hlt : i < l.length := by
     have := (Array.getElem?_eq_some_iff.1 h2).1
     simpa using this
    rw [getD_true_iff Yb] at h1
    have hge : p ≤ i := by
     rcases Nat.lt_or_ge i p with h | h
     ·rw [(hli i).2 h] at h1; cases h1
     ·exact h
    rcases Nat.lt_or_ge p i with hlt' | hge'
    ·exfalso
     have ho : l[i]? = some o := by simpa using h2
     have hcl2 : Closed l (fun j => listed.getD j false = true) := fun j oj hj hoj j' hj' => (hli j').2 (by have := back j oj hoj j' hj'; have := (hli j).1 hj; omega)
     have hms : (masks l [])[i]? = some ((masks l []).getD i 0) := by
      have : i < (masks l []).length := by rw [masks_len]; simpa using hlt
      simp [List.getD, this]
     have := masks_spec l _ hcl2 l [] Ys Ys Ys i _ o hms ho (fun j hj => by
      simp only [deps, List.mem_filterMap] at hj
      obtain ⟨e, he, hb⟩ := hj
      split at hb
      ·rename_i hbi; simp at hb; subst hb; exact h3 e Ya6 hbi
      ·cases hb) p (tail i Yb hlt p hkp hlt')
     exact Nat.lt_irrefl _ ((hli p).1 this)
    ·omega
   rw [List.drop_eq_getElem_cons hpl'] at hwp
   refine ⟨fun h0 => ?_, fun i hi => ?_⟩
   ·exfalso
    have : p ∈ Region.ready .any l.toArray listed := by
     rw [mem_ready]
     refine ⟨?_, l[p], Ys, fun e he hb => ?_⟩
     ·rw [getD_true_iff Yb]
      cases hx : listed.getD p false with
      | false => rfl
      | true => exact absurd ((hli p).1 hx) (Nat.lt_irrefl _)
     ·exact (hli _).2 (back p _ hok e.on YY)
    rw [h0] at this; cases this
   ·have hik := hmem i hi
    subst hik
    unfold wpOpIn
    have hio : l.toArray[i]? = some l[i] := by simp
    simp only [hio]
    have next : ∀ a w, wpListIn (FW r) 0 P l.toArray Q (l.drop (i + 1)) a w → wpAnyIn (FW r) 0 P .any l.toArray Q fuel (listed.setIfInBounds i true) a w := by
     intro a w hwp
     refine ihk (i + 1) Yb fuel _ a w (by simp [hsz]) Yb Yb (fun j => ?_) Yb hwp
     rw [getD_set _ _ _ Yb]
     by_cases e : i = j
     ·subst e; simp
     ·rw [if_neg e, hli]; omega
    unfold wpListIn at hwp
    split at hwp
    ·rename_i hwant; rw [if_pos hwant]; exact Oper.wpIn_mono next hwp
    ·rename_i hwant; rw [if_neg hwant]; exact ⟨hwp.1, next _ _ hwp.2⟩
 exact key k fuel listed a w hsz hkl (Nat.le_refl _) hli hfu (h a w s)
theorem DP.any {k m : Nat} (hchk : segChk l k m = true) (hkm : k ≤ m) (hml : m ≤ l.length) (hlk : (l.all fun o => (looks l o).all fun t => Nat.blt t c.n) = true)
  (h : AD P st.H l c.n ((l.drop k).take (m - k)) st.env fun env => DP c r P l Q m ⟨env, st.H⟩) : DP c r P l Q k st := by
 have ok := segOk_of hchk
 obtain ⟨xs, hxl, htail, hspec⟩ := AD_spec _ _ _ h
 have hxm : xs.length = m - k := by rw [hxl, List.length_take, List.length_drop]; omega
 generalize hS : (l.drop k).take (m - k) = S at *
 have takeAt : ∀ (i : Nat) (o : Oper), S[i]? = some o ↔ i < m - k ∧ l[k + i]? = some o := by
  intro i o
  rw [← hS, List.getElem?_take]
  by_cases hi : i < m - k
  ·rw [if_pos hi, List.getElem?_drop]; simp [hi]
  ·rw [if_neg hi]; simp [hi]
 generalize hF : puts st.env S xs = envF at htail
 have hlook : ∀ (i : Nat) (o : Oper), l[i]? = some o → ∀ t ∈ looks l o, t < c.n := by
  intro i o ho t ht
  simp only [List.all_eq_true] at hlk
  have := hlk o (List.mem_of_getElem? ho) t ht
  exact Nat.lt_of_succ_le Ybe
 have fin : ∀ (i : Nat) (o : Oper) (x : AV), i < m - k → l[k + i]? = some o → xs[i]? = some x → AOk P st.H l envF o x ∧ dstOk c.n o.dst = true := by
  intro i o x hi ho hx
  obtain ⟨h1, h2⟩ := hspec i o x ((takeAt i o).2 ⟨hi, ho⟩) hx
  refine ⟨?_, h2⟩
  have same : ∀ t ∈ looks l o, envGet (puts st.env (S.take i) (xs.take i)) t = envGet envF t := by
   intro t ht
   rw [← hF, puts_split i S xs st.env hxl]
   symm
   apply puts_other
   intro j o' ho' e
   rw [List.getElem?_drop] at ho'
   obtain ⟨hj, hoj⟩ := (takeAt _ _).1 ho'
   have := (ok.looked (k + i) o (k + (i + j)) o' t Yb Yb ho Yb Yb hoj e ht).1
   omega
  rcases h1 with ⟨hg, hp⟩ | ⟨j, want, d, G, y, hg, hj, hG, hp, rfl⟩
  ·exact .inl ⟨hg, hp.congr fun t ht => same t (mem_looks ht)⟩
  ·have hdl : d ∈ looks l o := List.mem_append_right _ (by simp [hg, hj])
   exact .inr ⟨j, want, d, G, y, hg, hj, by rw [← same d hdl]; exact hG, fun e => (hp e).congr fun t ht => same t (mem_looks ht), rfl⟩
 have finAt : ∀ (i : Nat) (o : Oper) (x : AV) (t : Nat), i < m - k → l[k + i]? = some o → xs[i]? = some x → o.dst = some t → envGet envF t = some x := by
  intro i o x t hi ho hx hd
  rw [← hF]
  refine puts_at S xs st.env i t o x ((takeAt i o).2 ⟨hi, ho⟩) hx hd (fun j o' ho' e => ?_)
  obtain ⟨hj, hoj⟩ := (takeAt _ _).1 ho'
  rcases Nat.decEq j i with hne | he
  ·exact absurd hd (ok.apart (k + i) o (k + j) o' t Yb Yb ho Yb Yb hoj e Yb)
  ·exact he
 have finOther : ∀ t, (∀ (i : Nat) (o : Oper), i < m - k → l[k + i]? = some o → o.dst ≠ some t) → envGet envF t = envGet st.env t := by
  intro t ht
  rw [← hF]
  exact puts_other _ _ _ _ fun i o ho => let ⟨h1, h2⟩ := (takeAt i o).1 ho; ht i o h1 h2
 have main : ∀ (cnt fuel : Nat) (listed : Array Bool) (a : Act) (w : World) (I : Imm), listed.size = l.length → (cnt = (List.range m).countP fun i => !listed.getD i false) → cnt + (l.length - m) ≤ fuel → Closed l (fun i => listed.getD i false = true) →
   (∀ i, i < k → listed.getD i false = true) → (∀ i, listed.getD i false = true → i < m) → a.defers = c.ds → a.tmps.size = c.n → WOk c.B I w → Ext c.B c.I0 c.w0 I w → HeapOk c.B I w st.H →
   (∀ t x, envGet envF t = some x → (∀ (i : Nat) (o : Oper), i < m - k → l[k + i]? = some o → o.dst = some t → listed.getD (k + i) false = true) → Rel I w x (a.tmps.getD t undef)) →
   wpAnyIn (FW r) 0 P .any l.toArray Q fuel listed a w := by
  intro cnt
  induction cnt with
  | zero =>
   intro fuel listed a w I hsz hf hfu hcl hlk' hlm hd hts hw he hh hv
   have hall : ∀ i, i < m → listed.getD i false = true := by
    intro i hi
    have := List.countP_eq_zero.1 hf.symm i (by simpa using hi)
    simpa using this
   have hs : Sat c ⟨envF, st.H⟩ a w := ⟨hd, hts, I, hw, he, hh, fun t x hx => hv t x hx (fun i o hi _ _ => hall (k + i) Yb)⟩
   exact htail a w hs fuel listed hsz (fun i => ⟨hlm i, hall i⟩) Yb
  | succ cnt ih =>
   intro fuel listed a w I hsz hf hfu hcl hlk' hlm hd hts hw he hh hv
   obtain ⟨fuel, rfl⟩ : ∃ f, fuel = f + 1 := ⟨fuel - 1, Yb⟩
   have hex : ∃ i, i < m ∧ listed.getD i false = false ∧ ∀ j, j < i → listed.getD j false = true := by
    have : ∃ i, i < m ∧ listed.getD i false = false := by
     refine Classical.byContradiction fun hn => ?_
     have : (List.range m).countP (fun i => !listed.getD i false) = 0 := by
      rw [List.countP_eq_zero]
      intro i hi
      simp only [List.mem_range] at hi
      cases hx : listed.getD i false with
      | true => simp
      | false => exact absurd ⟨i, hi, hx⟩ hn
     omega
    obtain ⟨i, hi⟩ := this
    induction i using Nat.strongRecOn with
    | _ i ihi =>
     by_cases hx : ∃ j, j < i ∧ listed.getD j false = false
     ·obtain ⟨j, hj, hj2⟩ := hx
      exact ihi j hj ⟨Yb, hj2⟩
     ·exact ⟨i, hi.1, hi.2, fun j hj => by
       cases hy : listed.getD j false with
       | true => rfl
       | false => exact absurd ⟨j, hj, hy⟩ hx⟩
   obtain ⟨i0, hi0m, hi0, hi0b⟩ := hex
   have hi0k : k ≤ i0 := by
    rcases Nat.lt_or_ge i0 k with h | h
    ·rw [hlk' i0 h] at hi0; cases hi0
    ·exact h
   refine ⟨fun h0 => ?_, fun i hi => ?_⟩
   ·exfalso
    have hok : l[i0]? = some l[i0] := List.getElem?_eq_getElem Yb
    have : i0 ∈ Region.ready .any l.toArray listed := by
     rw [mem_ready]
     refine ⟨Ybk, l[i0], Ys, fun e he hb => ?_⟩
     exact hi0b _ (ok.back i0 _ hok e.on YY)
    rw [h0] at this; cases this
   ·obtain ⟨h1, o, h2, h3⟩ := mem_ready.1 hi
    have ho : l[i]? = some o := by simpa using h2
    have hlt : i < l.length := (List.getElem?_eq_some_iff.1 ho).1
    rw [getD_true_iff Yb] at h1
    have hdeps : ∀ k ∈ deps o, listed.getD k false = true := by
     intro k hk
     simp only [deps, List.mem_filterMap] at hk
     obtain ⟨e, he, hb⟩ := hk
     split at hb
     ·rename_i hbi; simp at hb; subst hb; exact h3 e Ya6 hbi
     ·cases hb
    have hms : (masks l [])[i]? = some ((masks l []).getD i 0) := by
     have : i < (masks l []).length := by rw [masks_len]; simpa using hlt
     simp [List.getD, this]
    have hanc := masks_spec l _ hcl l [] Ys Ys Ys i _ o hms ho hdeps
    have hik : k ≤ i := by
     rcases Nat.lt_or_ge i k with h | h
     ·rw [hlk' i h] at h1; cases h1
     ·exact h
    have him : i < m := by
     rcases Nat.lt_or_ge i m with h | h
     ·exact h
     ·have := hanc i0 (ok.tail i h hlt i0 hi0k hi0m)
      rw [hi0] at this; cases this
    obtain ⟨q, rfl⟩ : ∃ q, i = k + q := ⟨i - k, Yb⟩
    have hq : q < m - k := by omega
    have hxi : xs[q]? = some xs[q] := List.getElem?_eq_getElem Yb
    obtain ⟨hA, hdst⟩ := fin q o _ hq ho hxi
    have avail : ∀ t ∈ looks l o, ∀ (i' : Nat) (o' : Oper), i' < m - k → l[k + i']? = some o' → o'.dst = some t → listed.getD (k + i') false = true := fun t ht i' o' hi' ho' hd' => hanc _ (ok.looked (k + q) o (k + i') o' t hik him ho Yb Yb ho' hd' ht).2
    refine hA.run (c := c) ho hw hh (fun t ht z hz => hv t z hz (avail t ht)) (fun t ht => by rw [hts]; exact hlook _ o ho t ht) ?_
    intro v w' I' hw' he' hh' hx
    have hset : ∀ j, (listed.setIfInBounds (k + q) true).getD j false = if k + q = j then true else listed.getD j false := fun j => getD_set _ _ _ Yb
    refine ih fuel (listed.setIfInBounds (k + q) true) _ w' I' (by simp [hsz]) ?_ Yb ?_ ?_ ?_ (by rw [put_defers]; exact hd) (by rw [tmps_put_size]; exact hts) hw' (he.trans he') hh' ?_
    ·have : (List.range m).countP (fun j => !listed.getD j false) = (List.range m).countP (fun j => !(listed.setIfInBounds (k + q) true).getD j false) + 1 := by
      have key : ∀ (n : Nat), (List.range n).countP (fun j => !listed.getD j false) = (List.range n).countP (fun j => !(listed.setIfInBounds (k + q) true).getD j false) + (if k + q < n then 1 else 0) := by
       intro n
       induction n with
       | zero => simp
       | succ n ihn =>
        rw [List.range_succ, List.countP_append, List.countP_append, ihn]
        simp only [List.countP_cons, List.countP_nil, Nat.zero_add, hset n]
        by_cases e : k + q = n
        ·subst e
         rw [if_neg (Nat.lt_irrefl _), if_pos (Nat.lt_succ_self _), if_pos rfl, h1]
         simp
        ·rw [if_neg e]
         by_cases hlt' : k + q < n
         ·rw [if_pos hlt', if_pos (Nat.lt_succ_of_lt hlt')]; omega
         ·rw [if_neg hlt', if_neg (show ¬ k + q < n + 1 by omega)]; omega
      rw [key, if_pos him]
     omega
    ·intro j oj hj hoj k' hk
     rw [hset]
     by_cases e : k + q = k'
     ·rw [if_pos e]
     ·rw [if_neg e]
      rw [hset] at hj
      by_cases e' : k + q = j
      ·subst e'
       rw [ho] at hoj; cases hoj
       exact hdeps k' hk
      ·rw [if_neg e'] at hj
       exact hcl j oj hj hoj k' hk
    ·intro j hj
     rw [hset, if_neg Yb]
     exact hlk' j hj
    ·intro j hj
     rw [hset] at hj
     by_cases e : k + q = j
     ·omega
     ·rw [if_neg e] at hj; exact hlm j hj
    ·intro t x hxt hav
     by_cases hdt : o.dst = some t
     ·rw [hdt]
      have : x = xs[q] := by
       have := finAt q o _ t hq ho hxi hdt
       rw [this] at hxt; exact (Option.some.inj hxt).symm
      subst this
      rw [tmps_put_same Yan]
      exact hx
     ·have hold : Rel I w x (a.tmps.getD t undef) := hv t x hxt fun i' o' hi' ho' hd' => by
       have := hav i' o' hi' ho' hd'
       rw [hset] at this
       by_cases e : k + q = k + i'
       ·have e2 : q = i' := by omega
        subst e2
        rw [ho] at ho'; cases ho'
        exact absurd hd' hdt
       ·rw [if_neg e] at this; exact this
      have hget : (a.put o.dst v).tmps.getD t undef = a.tmps.getD t undef := by
       cases hod : o.dst with
       | none => rfl
       | some d => exact tmps_put_other (fun e => hdt (by rw [hod, e]))
      rw [hget]
      exact hold.keep he'.keeps
 intro a w s fuel listed hsz hli hfu
 obtain ⟨I, hw, he, hh, hv⟩ := s.mem
 refine main _ fuel listed a w I hsz rfl ?_ (fun i o hi ho j hj => (hli j).2 Ya0) (fun i hi => (hli i).2 hi) (fun i hi => by have := (hli i).1 hi; omega) s.ds s.size hw he hh ?_
 ·have : (List.range m).countP (fun i => !listed.getD i false) ≤ m - k := by
   have e : List.range m = List.range k ++ (List.range (m - k)).map (k + ·) := by
    rw [← List.range_add]; congr 1; omega
   rw [e, List.countP_append]
   have z : (List.range k).countP (fun i => !listed.getD i false) = 0 := by
    rw [List.countP_eq_zero]; intro i hi; simp only [List.mem_range] at hi; simp [(hli i).2 hi]
   rw [z]
   have := List.countP_le_length (p := fun i => !listed.getD i false) (l := (List.range (m - k)).map (k + ·))
   simpa using this
  omega
 ·intro t x hx hav
  have : envGet st.env t = some x := by
   rw [← finOther t (fun i o hi ho hd => ?_)]
   ·exact hx
   ·have := hav i o hi ho hd
    have := (hli (k + i)).1 this
    omega
  exact hv t x this
theorem DP.anyC {env : List (Nat × AV)} {H : List Ent} (k m n : Nat) (hn : c.n = n) (hchk : segChk l k m = true) (hkm : Nat.ble k m = true) (hml : Nat.ble m l.length = true) (hlk : (l.all fun o => (looks l o).all fun t => Nat.blt t n) = true)
  (h : AD P H l c.n ((l.drop k).take (m - k)) env fun env => DP c r P l Q m ⟨env, H⟩) : DP c r P l Q k ⟨env, H⟩ :=
 DP.any hchk (Nat.le_of_ble_eq_true hkm) (Nat.le_of_ble_eq_true hml) (by rw [hn]; exact hlk) h
theorem DP.tailC (k : Nat) (hchk : tailChk l k = true) (hkl : Nat.ble k l.length = true) (h : OL c r P l.toArray (l.drop k) st Q) : DP c r P l Q k st := DP.tail hchk (Nat.le_of_ble_eq_true hkl) h
end
section
variable {c : Ctx} {r : Option Nat} {P : Program} {ops : Array Oper} {l rest : List Oper} {o : Oper} {env : List (Nat × AV)} {H : List Ent} {Q : Exit → Act → World → Prop} {x : AV} {d n : Nat}
def CallR (B : Nat) (I : Imm) (w : World) (Φ : AV → List Ent → Prop) : Value → World → Prop := fun v w' => ∃ I' H' x, WOk B I' w' ∧ Ext B I w I' w' ∧ HeapOk B I' w' H' ∧ Rel I' w' x v ∧ Φ x H'
theorem bcall_runs {a : Act} {w : World} {I : Imm} {f : FuncId} {xs : List AV} {Φ : AV → List Ent → Prop} {ρ : Nat → Option AV} (hc : CallOk P ρ o f xs) (h : BCall c.B P f xs H Φ (fun _ _ => False)) (hw : WOk c.B I w) (hh : HeapOk c.B I w H) (ho : OpsOk I w ρ a o) :
  Runs P r o a w (CallR c.B I w Φ) (fun _ _ => False) := by
 obtain ⟨vs, h1, h2⟩ := hc.run I w a ho
 obtain ⟨hok, hcall⟩ := h
 refine Runs.of_enter hc.nodefer (h2 hok) ((hcall I w vs hw hh h1).mono fun e w' hr => ?_)
 obtain ⟨I', H', hw', he', hh', hr⟩ := hr
 rcases hr with ⟨v, x, rfl, hx, hΦ⟩ | ⟨v, x, rfl, hx, hE⟩
 ·exact ⟨I', H', x, hw', he', hh', hx, hΦ⟩
 ·exact hE.elim
end
def goodKey (P : Program) (k : TypeId) (v : Value) : Prop := ∃ l, keyOf P k v = some l
class HasMap (P : Program) (t : Nat) (x : outParam (Nat × Nat)) : Prop where
 h : P.underlying t = some (.map x.1 x.2)
 key : Go.Maps.Keyed P x.1
 zero : ((P.info? x.2).bind (·.zero)) = some (.pointer none)
theorem rel_vals {I : Imm} {w : World} : ∀ {vs us : List Value}, RelL I w (vs.map .val) us → us = vs
 | [], _, .nil => rfl
 | v :: vs, _, .cons _ _ _ _ h t => by rw [rel_val h, rel_vals t]
theorem POp.callIn {P : Program} {H : List Ent} {ρ : Nat → Option AV} {o : Oper} {f : FuncId} {xs ys : List AV} {y : AV} {Hm : List Ent} (hc : CallOk P ρ o f xs) (hle : AVleL xs ys) (h : PCallIn P Hm f ys y) (hm : ∀ e ∈ Hm, e ∈ H) : POp P H ρ o y := by
 intro B I w r a Hc hw hh hs ho
 obtain ⟨vs, h1, h2⟩ := (hc.le hle).run I w a ho
 obtain ⟨hok, hcall⟩ := h Hc (fun e he => hs e (hm e he))
 refine Runs.of_enter hc.nodefer (h2 hok) ((hcall B I w vs hw hh h1).mono fun e w' hr => ?_)
 obtain ⟨I', H', hw', he', hh', hr⟩ := hr
 rcases hr with ⟨v, x, rfl, hx, rfl, rfl⟩ | ⟨v, x, rfl, _, hE⟩
 ·exact ⟨I', hw', he', hh', hx⟩
 ·exact hE.elim
section
variable {c : Ctx} {r : Option Nat} {P : Program} {ops : Array Oper} {l rest : List Oper} {o : Oper} {env : List (Nat × AV)} {H : List Ent} {Q : Exit → Act → World → Prop} {d : Nat}
theorem OL.qcallIn {f : FuncId} {xs : List AV} {Φ : AV → Prop} {Hm : List Ent} (hg : o.guard = none) (hd : o.dst = some d) (hn : Nat.blt d c.n = true) (hc : CallOk P (envGet env) o f xs) (h : QCallIn P Hm f xs Φ) (hm : ∀ e ∈ Hm, e ∈ H)
  (next : ∀ y, Φ y → OL c r P ops rest ⟨(d, y) :: env, H⟩ Q) : OL c r P ops (o :: rest) ⟨env, H⟩ Q :=
 OL.bcallC hg hd hn hc (h H hm).b (fun y H' ⟨h1, h2⟩ => by subst h2; exact next y h1)
end
def Borrow (H : List Ent) (xs ys : List AV) : Prop :=
 ∀ (B : Nat) (I : Imm) (w : World) (Hc : List Ent) (vs : List Value), WOk B I w → HeapOk B I w Hc → (∀ e ∈ H, e ∈ Hc) → RelL I w xs vs →
  ∃ J : Imm, (∀ b o, J b o → ∃ c, w.cell? ⟨b, o, none⟩ = some c) ∧ RelL J w ys vs
theorem Ent.ok_same {B : Nat} {I : Imm} {w w' : World} {e : Ent} (h : e.ok B I w) (hI : ∀ b o, I b o → w'.cell? ⟨b, o, none⟩ = w.cell? ⟨b, o, none⟩) (hb : ∀ b, b < w.heap.size → w'.heap[b]? = w.heap[b]?) : e.ok B I w' :=
 Ent.keep h ⟨fun _ _ x => x, hI⟩ (fun b hf => hb b (Ent.foot_lt h hf).2) (fun _ _ _ x => x)
theorem cell_same {w w' : World} (hb : ∀ b, b < w.heap.size → w'.heap[b]? = w.heap[b]?) {b o : Nat} (hlt : b < w.heap.size) : w'.cell? ⟨b, o, none⟩ = w.cell? ⟨b, o, none⟩ :=
 World.cell?_of_block (a := ⟨b, o, none⟩) (hb b hlt)
section
variable {P : Program} {H : List Ent} {ρ : Nat → Option AV} {o : Oper}
theorem POp.callB {f : FuncId} {xs ys : List AV} {v : Value} (hc : CallOk P ρ o f xs) (hb : Borrow H xs ys) (h : PCall P f ys (.val v)) : POp P H ρ o (.val v) := by
 intro B I w r a Hc hw hh hs ho
 obtain ⟨vs, h1, h2⟩ := hc.run I w a ho
 obtain ⟨J, hJ, hys⟩ := hb B I w Hc vs hw hh hs h1
 obtain ⟨hok, hcall⟩ := h []
 refine Runs.of_enter hc.nodefer (h2 hok) ((hcall w.heap.size J w vs ⟨Nat.le_refl _, hJ⟩ .nil hys).mono fun e w' hr => ?_)
 obtain ⟨I', H', hw', he', hh', hr⟩ := hr
 rcases hr with ⟨u, x, rfl, hx, rfl, rfl⟩ | ⟨v, x, rfl, _, hE⟩
 ·have hu := rel_val hx
  subst hu
  have hbk := he'.below.block
  have hc : ∀ b i, I b i → w'.cell? ⟨b, i, none⟩ = w.cell? ⟨b, i, none⟩ := fun b i hi => cell_same hbk (hw.lt hi)
  refine ⟨I, ⟨Nat.le_trans hw.base he'.below.size, fun b i hi => by rw [hc b i hi]; exact hw.there b i hi⟩, ⟨fun _ _ x => x, hc, he'.below.mono hw.base⟩, ⟨fun e he => Ent.ok_same (hh.ok e he) hc hbk, hh.apart⟩, .val _⟩
 ·exact hE.elim
theorem RelL.append_inv {I : Imm} {w : World} : ∀ {xs ys : List AV} {vs : List Value}, RelL I w (xs ++ ys) vs → ∃ us zs, vs = us ++ zs ∧ RelL I w xs us ∧ RelL I w ys zs
 | [], _, vs, h => ⟨[], vs, rfl, .nil, h⟩
 | x :: xs, ys, _, .cons _ v _ vs hx ht => by
  obtain ⟨us, zs, rfl, h1, h2⟩ := RelL.append_inv ht
  exact ⟨v :: us, zs, rfl, .cons _ _ _ _ hx h1, h2⟩
theorem els_of_row {I : Imm} {w : World} {k b : Nat} {els : List (List AV)} (hk : ∀ e ∈ els, e.length = k) (h : Cells I w b 0 els.flatten) : Els I w k b 0 els := els_of_cells els 0 hk h
theorem row_rel {B : Nat} {I : Imm} {w : World} {t k : Nat} {v : Value} {els : List (List AV)} (h : Ent.ok B I w (.row t k v els.length els.flatten)) (hk : ∀ e ∈ els, e.length = k) :
  ∃ J : Imm, (∀ b o, I b o → J b o) ∧ (∀ b o, J b o → I b o ∨ v.ownBlock = some b) ∧ (∀ b o, J b o → I b o ∨ ∃ c, w.cell? ⟨b, o, none⟩ = some c) ∧ Rel J w (.sl k els) v := by
 obtain ⟨xs, hrow, hr, hni⟩ := h
 rcases hrow.2 with ⟨rfl, hn⟩ | ⟨g, cap, cur, rfl, hBg, hg, hnc, hcm, hcs, htk⟩
 ·have : els = [] := List.eq_nil_of_length_eq_zero hn
  subst this
  exact ⟨I, fun _ _ h => h, fun _ _ h => .inl h, fun _ _ h => .inl h, .sl0 _ _ _⟩
 ·have hlen : xs.length = els.length * k := hrow.1
  have hsz : els.length * k ≤ cur.size := by rw [hcs]; exact Nat.mul_le_mul_right k hnc
  let J : Imm := fun b o => I b o ∨ (b = g ∧ o < els.length * k)
  have hJ : Keeps I w J w := ⟨fun _ _ x => .inl x, fun _ _ _ => rfl⟩
  refine ⟨J, fun _ _ x => .inl x, fun b o x => x.elim .inl (fun x => .inr (by rw [x.1]; rfl)), fun b o x => ?_, ?_⟩
  ·rcases x with x | ⟨rfl, x⟩
   ·exact .inl x
   ·exact .inr ⟨cur[o]'Yb, by rw [cell_of_blk hg]; exact Array.getElem?_eq_getElem Yb⟩
  ·refine .sl _ _ _ _ _ _ rfl hnc hcm (els_of_row hk (cells_of hg _ xs 0 (hr.keep hJ) (fun j u hu => ?_) (fun j hj => .inr ⟨rfl, ?_⟩)))
   ·rw [← htk, List.getElem?_take] at hu
    split at hu
    ·simpa using hu
    ·cases hu
   ·rw [flatten_len hk] at hj; omega
theorem Borrow.row {t k : Nat} {v : Value} {els : List (List AV)} {pre post : List AV} (hm : Ent.row t k v els.length els.flatten ∈ H) (hk : ∀ e ∈ els, e.length = k) : Borrow H (pre ++ .val v :: post) (pre ++ .sl k els :: post) := by
 intro B I w Hc vs hw hh hs hr
 obtain ⟨J, h1, h2, h3, h4⟩ := row_rel (hh.ok _ (hs _ hm)) hk
 have kk : Keeps I w J w := ⟨h1, fun _ _ _ => rfl⟩
 refine ⟨J, fun b o hb => (h3 b o hb).elim (fun x => hw.there b o x) id, ?_⟩
 obtain ⟨us, zs, rfl, r1, r2⟩ := hr.append_inv
 cases r2 with
 | cons _ u _ zs hx ht =>
  have := rel_val hx
  subst this
  exact (r1.keep kk).append (.cons _ _ _ _ h4 (ht.keep kk))
theorem Borrow.refl (xs : List AV) : Borrow H xs xs := fun B I w Hc vs hw _ _ hr => ⟨I, hw.there, hr⟩
theorem Borrow.le {xs ys zs : List AV} (h : Borrow H xs ys) (hl : AVleL ys zs) : Borrow H xs zs := fun B I w Hc vs hw hh hs hr =>
 let ⟨J, h1, h2⟩ := h B I w Hc vs hw hh hs hr; ⟨J, h1, hl.rel h2⟩
end
theorem Ent.row_nil (B : Nat) (I : Imm) (w : World) (t k : Nat) : Ent.ok B I w (.row t k (.slice none 0 0) 0 []) :=
 ⟨[], World.ownsRow_nil _ _ _ _, .nil, fun g hg => by simp [Value.ownBlock] at hg⟩
theorem Ent.own_nil (B : Nat) (I : Imm) (w : World) (t k : Nat) : Ent.ok B I w (.own t k (.slice none 0 0)) :=
 ⟨0, [], World.ownsRow_nil _ _ _ _, fun g hg => by simp [Value.ownBlock] at hg⟩
theorem HeapOk.consNil {B : Nat} {I : Imm} {w : World} {H : List Ent} {e : Ent} (h : HeapOk B I w H) (he : e.ok B I w) (hf : e.foot = none) : HeapOk B I w (e :: H) :=
 ⟨fun f hm => (List.mem_cons.1 hm).elim (fun q => q ▸ he) (h.ok f), List.pairwise_cons.2 ⟨fun f _ b hb => (by rw [hf] at hb; cases hb), h.apart⟩⟩
section
variable {c : Ctx} {r : Option Nat} {P : Program} {ops : Array Oper} {l rest : List Oper} {o : Oper} {env : List (Nat × AV)} {H : List Ent} {Q : Exit → Act → World → Prop} {d : Nat}
theorem Sat.consNil {st : St} {a : Act} {w : World} {e : Ent} (s : Sat c st a w) (he : ∀ B I w, e.ok B I w) (hf : e.foot = none) : Sat c ⟨st.env, e :: st.H⟩ a w :=
 let ⟨I, hw, hx, hh, hv⟩ := s.mem; ⟨s.ds, s.size, I, hw, hx, hh.consNil (he _ _ _) hf, hv⟩
theorem CW.rowNil {p : Code} (t k : Nat) (h : CW c r P p ⟨env, .row t k (.slice none 0 0) 0 [] :: H⟩ Q) : CW c r P p ⟨env, H⟩ Q := fun a w s => h a w (s.consNil (fun B I w => Ent.row_nil B I w t k) rfl)
theorem CW.ownNil' {p : Code} (t k : Nat) (h : CW c r P p ⟨env, .own t k (.slice none 0 0) :: H⟩ Q) : CW c r P p ⟨env, H⟩ Q := fun a w s => h a w (s.consNil (fun B I w => Ent.own_nil B I w t k) rfl)
theorem Done.rowNil {e : Exit} (t k : Nat) (h : Done c ⟨env, .row t k (.slice none 0 0) 0 [] :: H⟩ e Q) : Done c ⟨env, H⟩ e Q := fun a w s => h a w (s.consNil (fun B I w => Ent.row_nil B I w t k) rfl)
theorem Done.ownNil' {e : Exit} (t k : Nat) (h : Done c ⟨env, .own t k (.slice none 0 0) :: H⟩ e Q) : Done c ⟨env, H⟩ e Q := fun a w s => h a w (s.consNil (fun B I w => Ent.own_nil B I w t k) rfl)
theorem appendRow_runs {B : Nat} {I : Imm} {w : World} {a : Act} {ρ : Nat → Option AV} {s z : Operand} {t e k by_ n : Nat} {cs : List AV} {news : List (List AV)} {v : Value} {y : AV} {g1 g2 : Bool} {H' : Value → List Ent} [hA : HasApp P t (e, k, by_)]
  (h : o.op = .call { callee := .builtin .append, args := #[s, z], argTypes := #[t, t] }) (hs : aev ρ s = some (g1, .val v)) (hg1 : g1 = true) (hz : aev ρ z = some (g2, y)) (hg2 : g2 = true) (hy : AVle y (.sl k news)) (hne : news ≠ [])
  (h1 : news.all allOne = true) (hu : ∀ v', Upd H (.row e k v n cs) (.row e k v' (n + news.length) (cs ++ news.flatten)) (H' v')) (hb : (n + news.length) * by_ ≤ 140737488355328) (hb' : n + news.length ≤ 9223372036854775807)
  (hw : WOk B I w) (hh : HeapOk B I w H) (ho : OpsOk I w ρ a o) : Runs P r o a w (fun x w' => ∃ I', WOk B I' w' ∧ Ext B I w I' w' ∧ HeapOk B I' w' (H' x)) (fun _ _ => False) := by
 obtain ⟨i, zv, hut, hi, hzz, hsz, hby, hzs, hk0⟩ := appInfo_spec hA.h
 have hsv := rel_val (ho.get Yy hs hg1)
 have hzr := hy _ _ _ (ho.get Yy hz hg2)
 have hnl := hzr.elsLen
 obtain ⟨xs, hrow, hrx, hni⟩ := hh.ok _ (hu v).mem
 generalize hzv : a.eval z = zval at hzr
 cases hzr with
 | sl0 => exact absurd rfl hne
 | sl _ _ b off len cap hl hc hm hels =>
  obtain ⟨us, r1, r2, r3⟩ := hels.values
  have hlu : us.length = news.length * k := r2
  obtain ⟨v', w', e1, e2, e3, _, e5⟩ := run_append_own_at (P := P) w B t o.type e i zv k by_ hut hi hzz hsz hby hzs hk0 v n xs hrow ⟨b, off, none⟩ news.length cap us hlu r3 (relL_one r1 (all_one_flatten h1)) YX hb hw.base
  have hbel : Below B w w' := (Below.refl B w).grown e3 hw.base (fun j hj => by
   rcases hrow.2 with ⟨rfl, _⟩ | ⟨g, cap, cur, rfl, hBg, _⟩
   ·simp [Value.ownBlock] at hj
   ·simp [Value.ownBlock] at hj; omega)
  have hcell : ∀ b i, I b i → w'.cell? ⟨b, i, none⟩ = w.cell? ⟨b, i, none⟩ := fun b i hI =>
   World.cell?_of_block (a := ⟨b, i, none⟩) (e3.block b (hw.lt hI) (fun e => hni b e.symm i hI))
  have hkk : Keeps I w I w' := ⟨fun _ _ x => x, hcell⟩
  subst hl
  have hr : (Builtin.append_ #[t, t] o.type #[a.eval s, a.eval z]).run P w = .ok v' w' := by rw [hsv, hzv]; exact e1
  have hf' : ∀ b, (Value.ownBlock v') = some b → (Value.ownBlock v) = some b ∨ w.heap.size ≤ b := fun b hb => by
   rcases e5 with e | e
   ·exact .inl (by rw [← e]; exact hb)
   ·rw [hb] at e; cases e; exact .inr (Nat.le_refl _)
  refine Runs.of_value YB (run_appendOp h a w hr) ⟨I, ⟨Nat.le_trans hw.base hbel.size, fun b o hI => by rw [hcell b o hI]; exact hw.there b o hI⟩, ⟨hkk.imm, hkk.cell, hbel⟩, ?_⟩
  refine hh.upd (hu v') hkk (fun b hlt hne => e3.block b hlt (fun e => hne e.symm)) (fun b o hx => .inl hx) ⟨_, e2, (hrx.append r1).keep hkk, fun g hg o hI => ?_⟩ hf'
  rcases hf' g hg with hx | hx
  ·exact hni g hx o hI
  ·have := hw.lt hI; omega
theorem OL.appendRow {s z : Operand} {t e k by_ n : Nat} {cs : List AV} {news : List (List AV)} {v : Value} {y : AV} {g1 g2 : Bool} {H' : Value → List Ent} [hA : HasApp P t (e, k, by_)] (hgd : o.guard = none) (hd : o.dst = some d) (hn : Nat.blt d c.n = true)
  (h : o.op = .call { callee := .builtin .append, args := #[s, z], argTypes := #[t, t] }) (hs : aev (envGet env) s = some (g1, .val v)) (hg1 : g1 = true) (hz : aev (envGet env) z = some (g2, y)) (hg2 : g2 = true) (hy : AVle y (.sl k news)) (hne : news ≠ [])
  (h1 : news.all allOne = true) (hu : ∀ v', Upd H (.row e k v n cs) (.row e k v' (n + news.length) (cs ++ news.flatten)) (H' v')) (hb : (n + news.length) * by_ ≤ 140737488355328) (hb' : n + news.length ≤ 9223372036854775807)
  (next : ∀ v', OL c r P ops rest ⟨(d, .val v') :: env, H' v'⟩ Q) : OL c r P ops (o :: rest) ⟨env, H⟩ Q := by
 intro a w sat
 refine wpListIn_plain hgd fun K hK => ?_
 obtain ⟨I, hw, he, hh, hv⟩ := sat.mem
 refine appendRow_runs h hs hg1 hz hg2 hy hne h1 hu hb hb' hw hh (hv.ops o) K Q ?_ (fun _ _ h => h.elim)
 rintro x w' ⟨I', q1, q2, q3⟩
 refine hK _ _ (next x _ _ ⟨Ya8, YaW, I', q1, he.trans q2, q3, ?_⟩)
 rw [hd]
 exact (hv.keep q2.keeps).put (dst := some d) (by rw [sat.size]; exact hn) (.val _)
theorem run_newMap {t : TypeId} (h : o.op = .makeMap t none) (a : Act) (w : World) : (execOp a.eval o).run P w = .ok (.value (.map (some w.heap.size))) (w.alloc (.map #[] 0)) := by
 simp [execOp, h, Instr.makeMap]
theorem OL.mkMap {t : TypeId} (hgd : o.guard = none) (hd : o.dst = some d) (hn : Nat.blt d c.n = true) (h : o.op = .makeMap t none)
  (next : ∀ b, OL c r P ops rest ⟨(d, .val (.map (some b))) :: env, .map b [] :: H⟩ Q) : OL c r P ops (o :: rest) ⟨env, H⟩ Q := by
 intro a w s
 refine wpListIn_plain hgd fun K hK => ?_
 obtain ⟨I, hw, he, hh, hv⟩ := s.mem
 refine Runs.of_value (R := fun v w' => v = .map (some w.heap.size) ∧ w' = w.alloc (.map #[] 0)) (E := fun _ _ => False) YB (run_newMap h a w) ⟨rfl, rfl⟩ K Q ?_ (fun _ _ h => h.elim)
 rintro v w' ⟨rfl, rfl⟩
 have hnew : Ent.ok c.B I (w.alloc (.map #[] 0)) (.map w.heap.size []) := ⟨hw.base, ⟨#[], 0, heap_alloc_new w _, rfl, .nil⟩, fun o ho => absurd (hw.lt ho) (Nat.lt_irrefl _)⟩
 have h' := hh.alloc hw (.map #[] 0)
 refine hK _ _ (next w.heap.size _ _ ⟨YW, YO, I, hw.alloc _, he.trans (ext_alloc hw _), ⟨fun e he => ?_, List.pairwise_cons.2 ⟨fun f hf b hb => ?_, h'.apart⟩⟩, ?_⟩)
 ·rcases List.mem_cons.1 he with rfl | he
  ·exact hnew
  ·exact h'.ok e he
 ·simp [Ent.foot] at hb; subst hb
  intro hfb
  exact absurd (Ent.foot_lt (hh.ok f hf) hfb).2 (Nat.lt_irrefl _)
 ·have := (hv.keep (keeps_alloc hw (.map #[] 0))).put (dst := some d) (x := .val (.map (some w.heap.size))) (v := .map (some w.heap.size)) Ybq (.val _)
  rw [hd]; exact this
theorem relL_get {I : Imm} {w : World} : ∀ {xs : List AV} {vs : List Value}, RelL I w xs vs → ∀ {i : Nat} {v : Value}, vs[i]? = some v → ∃ x, xs[i]? = some x ∧ Rel I w x v
 | _, _, .nil, i, v, h => by simp at h
 | _, _, .cons x v xs vs hx ht, 0, u, h => ⟨x, Ys, by simp at h; exact h ▸ hx⟩
 | _, _, .cons x v xs vs hx ht, i + 1, u, h => by
  obtain ⟨y, h1, h2⟩ := relL_get ht (i := i) (v := u) Yaj
  exact ⟨y, YaF, h2⟩
theorem HeapOk.freezeRow {B : Nat} {I : Imm} {w : World} {H : List Ent} {t k : Nat} {v : Value} {els : List (List AV)} (hw : WOk B I w) (hh : HeapOk B I w (.row t k v els.length els.flatten :: H)) (hk : ∀ e ∈ els, e.length = k) :
  ∃ J, WOk B J w ∧ Ext B I w J w ∧ HeapOk B J w H ∧ Rel J w (.sl k els) v := by
 obtain ⟨J, h1, h2, h3, h4⟩ := row_rel (hh.ok _ (.head _)) hk
 have kk : Keeps I w J w := ⟨h1, fun _ _ _ => rfl⟩
 refine ⟨J, ⟨hw.base, fun b o hb => (h3 b o hb).elim (hw.there b o) id⟩, ⟨h1, fun _ _ _ => rfl, Below.refl _ _⟩, hh.tail.keep kk (fun _ _ _ _ => rfl) (fun f hf b hb o ho => ?_), h4⟩
 rcases h2 b o ho with h | h
 ·exact h
 ·exact absurd hb ((List.pairwise_cons.1 hh.apart).1 f hf b h)
end
def SOk (P : Program) (H0 H1 : List Ent) (ρ : Nat → Option AV) (o : Oper) : Prop :=
 ∀ (B : Nat) (I : Imm) (w : World) (r : Option Nat) (a : Act), WOk B I w → HeapOk B I w H0 → OpsOk I w ρ a o → Runs P r o a w (fun v w' => ∃ I', WOk B I' w' ∧ Ext B I w I' w' ∧ HeapOk B I' w' H1) (fun _ _ => False)
abbrev Mem := Nat → Act → Imm → World → Prop
def EOk (P : Program) (M0 M1 : Mem) (ops : List Oper) (env : List (Nat × AV)) (o : Oper) (y : AV) : Prop :=
 o.guard = none ∧ ∀ (B : Nat) (I : Imm) (w : World) (r : Option Nat) (a : Act), WOk B I w → M0 B a I w → OpsOk I w (envGet env) a o → (∀ d, o.dst = some d → d < a.tmps.size) →
  Runs P r o a w (fun v w' => ∃ I', WOk B I' w' ∧ Ext B I w I' w' ∧ M1 B (a.put o.dst v) I' w' ∧ Rel I' w' y v) (fun _ _ => False)
theorem SOk.congr {P : Program} {H H1 : List Ent} {ρ ρ' : Nat → Option AV} {o : Oper} (h : SOk P H H1 ρ o) (he : ∀ t, .tmp t ∈ o.op.operands.toList → ρ t = ρ' t) : SOk P H H1 ρ' o := by
 intro B I w r a hw hh ho
 refine h B I w r a hw hh (fun y hy z hz => ho y hy z ?_)
 cases y with
 | tmp t => rw [← hz]; exact (he t (by simpa using hy)).symm
 | const v => exact hz
 | global g => exact hz
 | func f => exact hz
theorem OpsOk.congr {I : Imm} {w : World} {ρ ρ' : Nat → Option AV} {a : Act} {o : Oper} (ho : OpsOk I w ρ' a o) (he : ∀ t, .tmp t ∈ o.op.operands.toList → ρ t = ρ' t) : OpsOk I w ρ a o := fun y hy z hz => ho y hy z (by
 cases y with
 | tmp t => rw [← hz]; exact (he t (by simpa using hy)).symm
 | const v => exact hz
 | global g => exact hz
 | func f => exact hz)
theorem EOk.congr {P : Program} {H0 H1 : Mem} {ops : List Oper} {env env' : List (Nat × AV)} {o : Oper} {y : AV} (h : EOk P H0 H1 ops env o y) (same : ∀ t ∈ looks ops o, envGet env t = envGet env' t) : EOk P H0 H1 ops env' o y :=
 ⟨h.1, fun B I w r a hw hm ho hz => h.2 B I w r a hw hm (ho.congr fun t ht => same t (mem_looks ht)) hz⟩
theorem EOk.run {c : Ctx} {r : Option Nat} {P : Program} {l : List Oper} {H H1 : Mem} {env : List (Nat × AV)} {o : Oper} {y : AV} {Q : Exit → Act → World → Prop} (h : EOk P H H1 l env o y) {i : Nat} (hi : l[i]? = some o)
  {a : Act} {w : World} {I : Imm} (hw : WOk c.B I w) (hh : H c.B a I w) (hv : ∀ t ∈ looks l o, ∀ z, envGet env t = some z → Rel I w z (a.tmps.getD t undef)) (hn : ∀ t ∈ looks l o, t < a.tmps.size) (hz : ∀ d, o.dst = some d → d < a.tmps.size)
  {K : Act → World → Prop} (hK : ∀ v w' I', WOk c.B I' w' → Ext c.B I w I' w' → H1 c.B (a.put o.dst v) I' w' → Rel I' w' y v → K (a.put o.dst v) w') : wpOpIn (FW r) 0 P l.toArray Q i K a w := by
 obtain ⟨hg, hs⟩ := h
 have hops : OpsOk I w (envGet env) a o := fun x hx z hz => by
  cases x with
  | tmp t => exact hv t (mem_looks (by simpa using hx)) z hz
  | const v => simp [aeval] at hz; subst hz; exact rel_const v
  | global g => simp [aeval] at hz; subst hz; exact .val _
  | func f => simp [aeval] at hz; subst hz; exact .fn _ _ _ _ _ .nil .nil
 have hio : l.toArray[i]? = some o := by simpa using hi
 unfold wpOpIn
 simp only [hio]
 have hwant : Region.wanted o (yielded l.toArray a.tmps) = true := by simp [Region.wanted, hg]
 rw [if_pos hwant]
 exact hs c.B I w r a hw hh hops hz K Q (fun v w' ⟨I', h1, h2, h3, h4⟩ => hK v w' I' h1 h2 h3 h4) (fun _ _ h => h.elim)
def loOf (l : List Oper) (ss : List Nat) (i : Nat) : Nat := ss.countP fun s => ((masks l []).getD i 0).testBit s
def hiOf (l : List Oper) (ss : List Nat) (i : Nat) : Nat := ss.countP fun s => !((masks l []).getD s 0).testBit i && !Nat.beq s i
def stp (ss : List Nat) (i : Nat) : Nat := ss.countP fun s => Nat.beq s i
def TOk (P : Program) (Hs : Nat → Mem) (l : List Oper) (ss : List Nat) (i : Nat) (env : List (Nat × AV)) (o : Oper) (x : AV) : Prop :=
 ∀ j, loOf l ss i ≤ j → j ≤ hiOf l ss i → EOk P (Hs j) (Hs (j + stp ss i)) l env o x
def TD (P : Program) (Hs : Nat → Mem) (l : List Oper) (ss : List Nat) (n : Nat) : Nat → List Oper → List (Nat × AV) → (List (Nat × AV) → Prop) → Prop
 | _, [], env, K => K env
 | i, o :: rest, env, K => ∃ x, TOk P Hs l ss i env o x ∧ dstOk n o.dst = true ∧ TD P Hs l ss n (i + 1) rest (putEnv o.dst x env) K
theorem TD_spec {P : Program} {Hs : Nat → Mem} {ops : List Oper} {ss : List Nat} {n : Nat} : ∀ (k : Nat) (l : List Oper) (env : List (Nat × AV)) (K : List (Nat × AV) → Prop), TD P Hs ops ss n k l env K →
  ∃ xs : List AV, xs.length = l.length ∧ K (puts env l xs) ∧ ∀ i o x, l[i]? = some o → xs[i]? = some x → TOk P Hs ops ss (k + i) (puts env (l.take i) (xs.take i)) o x ∧ dstOk n o.dst = true
 | k, [], env, K, h => ⟨[], rfl, h, Ys⟩
 | k, o :: l, env, K, ⟨x, h1, h2, h3⟩ => by
  obtain ⟨xs, hl, hK, hx⟩ := TD_spec (k + 1) l _ K h3
  refine ⟨x :: xs, by simp [hl], hK, fun i o' x' ho' hx' => ?_⟩
  cases i with
  | zero =>
   simp at ho' hx'
   subst ho'; subst hx'
   exact ⟨h1, h2⟩
  | succ i =>
   simp at ho' hx'
   have := hx i o' x' ho' hx'
   rw [show k + 1 + i = k + (i + 1) by omega] at this
   exact this
theorem TD.mono {P : Program} {Hs : Nat → Mem} {ops : List Oper} {ss : List Nat} {n : Nat} {K K' : List (Nat × AV) → Prop} (hk : ∀ env, K env → K' env) : ∀ {k : Nat} {l : List Oper} {env : List (Nat × AV)}, TD P Hs ops ss n k l env K → TD P Hs ops ss n k l env K'
 | _, [], _, h => hk _ h
 | _, _ :: _, _, ⟨x, h1, h2, h3⟩ => ⟨x, h1, h2, h3.mono hk⟩
def ssChk (ss : List Nat) (k m : Nat) : Bool := ss.all (fun s => Nat.ble k s && Nat.blt s m) && decide ss.Nodup
theorem ssChk_of {ss : List Nat} {k m : Nat} (h : ssChk ss k m = true) : (∀ s ∈ ss, k ≤ s ∧ s < m) ∧ ss.Nodup := by
 simp only [ssChk, Bool.and_eq_true, List.all_eq_true, decide_eq_true_eq] at h
 exact ⟨fun s hs => ⟨Nat.le_of_ble_eq_true (h.1 s hs).1, Nat.lt_of_succ_le (by simpa [Nat.blt] using (h.1 s hs).2)⟩, h.2⟩
theorem stage_set {listed : Array Bool} {i : Nat} (hset : ∀ j, (listed.setIfInBounds i true).getD j false = if i = j then true else listed.getD j false) (h1 : listed.getD i false = false) : ∀ {ss : List Nat}, ss.Nodup →
  (ss.countP fun s => (listed.setIfInBounds i true).getD s false) = (ss.countP fun s => listed.getD s false) + stp ss i
 | [], _ => rfl
 | s :: ss, hn => by
  obtain ⟨hn1, hn2⟩ := List.nodup_cons.1 hn
  have ih := stage_set hset h1 hn2
  unfold stp at ih ⊢
  rw [List.countP_cons, List.countP_cons, List.countP_cons, ih]
  rw [hset s]
  by_cases e : i = s
  ·subst e
   simp [h1]
   have : List.countP (fun s => Nat.beq s i) ss = 0 := List.countP_eq_zero.2 fun s hs hb => hn1 (by have := Nat.eq_of_beq_eq_true hb; subst this; exact hs)
   omega
  ·have hb : Nat.beq s i = false := by
    cases hx : Nat.beq s i with
    | false => rfl
    | true => exact absurd (Nat.eq_of_beq_eq_true hx).symm e
   rw [if_neg e, hb]
   simp
   omega
section
variable {c : Ctx} {r : Option Nat} {P : Program} {l : List Oper} {st : St} {Q : Exit → Act → World → Prop}
theorem DP.anyS {k m : Nat} {Hs : Nat → Mem} {ss : List Nat} (hchk : segChk l k m = true) (hss : ssChk ss k m = true) (hkm : k ≤ m) (hml : m ≤ l.length) (hlk : (l.all fun o => (looks l o).all fun t => Nat.blt t c.n) = true) (hH : ∀ B a I w, HeapOk B I w st.H → Hs 0 B a I w)
  (h : TD P Hs l ss c.n k ((l.drop k).take (m - k)) st.env fun env => ∀ a w I, a.defers = c.ds → a.tmps.size = c.n → WOk c.B I w → Ext c.B c.I0 c.w0 I w → Hs ss.length c.B a I w → EnvOk I w (envGet env) a → KD c r P l Q m a w) : DP c r P l Q k st := by
 have ok := segOk_of hchk
 obtain ⟨hsr, hnd⟩ := ssChk_of hss
 obtain ⟨xs, hxl, htail, hspec⟩ := TD_spec _ _ _ _ h
 have hxm : xs.length = m - k := by rw [hxl, List.length_take, List.length_drop]; omega
 generalize hS : (l.drop k).take (m - k) = S at *
 have takeAt : ∀ (i : Nat) (o : Oper), S[i]? = some o ↔ i < m - k ∧ l[k + i]? = some o := by
  intro i o
  rw [← hS, List.getElem?_take]
  by_cases hi : i < m - k
  ·rw [if_pos hi, List.getElem?_drop]; simp [hi]
  ·rw [if_neg hi]; simp [hi]
 generalize hF : puts st.env S xs = envF at htail
 have hlook : ∀ (i : Nat) (o : Oper), l[i]? = some o → ∀ t ∈ looks l o, t < c.n := by
  intro i o ho t ht
  simp only [List.all_eq_true] at hlk
  have := hlk o (List.mem_of_getElem? ho) t ht
  exact Nat.lt_of_succ_le Ybe
 have fin : ∀ (i : Nat) (o : Oper) (x : AV), i < m - k → l[k + i]? = some o → xs[i]? = some x → TOk P Hs l ss (k + i) envF o x ∧ dstOk c.n o.dst = true := by
  intro i o x hi ho hx
  obtain ⟨h1, h2⟩ := hspec i o x ((takeAt i o).2 ⟨hi, ho⟩) hx
  refine ⟨?_, h2⟩
  have same : ∀ t ∈ looks l o, envGet (puts st.env (S.take i) (xs.take i)) t = envGet envF t := by
   intro t ht
   rw [← hF, puts_split i S xs st.env hxl]
   symm
   apply puts_other
   intro j o' ho' e
   rw [List.getElem?_drop] at ho'
   obtain ⟨hj, hoj⟩ := (takeAt _ _).1 ho'
   have := (ok.looked (k + i) o (k + (i + j)) o' t Yb Yb ho Yb Yb hoj e ht).1
   omega
  exact fun j hj1 hj2 => (h1 j hj1 hj2).congr same
 have finAt : ∀ (i : Nat) (o : Oper) (x : AV) (t : Nat), i < m - k → l[k + i]? = some o → xs[i]? = some x → o.dst = some t → envGet envF t = some x := by
  intro i o x t hi ho hx hd
  rw [← hF]
  refine puts_at S xs st.env i t o x ((takeAt i o).2 ⟨hi, ho⟩) hx hd (fun j o' ho' e => ?_)
  obtain ⟨hj, hoj⟩ := (takeAt _ _).1 ho'
  rcases Nat.decEq j i with hne | he
  ·exact absurd hd (ok.apart (k + i) o (k + j) o' t Yb Yb ho Yb Yb hoj e Yb)
  ·exact he
 have finOther : ∀ t, (∀ (i : Nat) (o : Oper), i < m - k → l[k + i]? = some o → o.dst ≠ some t) → envGet envF t = envGet st.env t := by
  intro t ht
  rw [← hF]
  exact puts_other _ _ _ _ fun i o ho => let ⟨h1, h2⟩ := (takeAt i o).1 ho; ht i o h1 h2
 have main : ∀ (cnt fuel : Nat) (listed : Array Bool) (a : Act) (w : World) (I : Imm), listed.size = l.length → (cnt = (List.range m).countP fun i => !listed.getD i false) → cnt + (l.length - m) ≤ fuel → Closed l (fun i => listed.getD i false = true) →
   (∀ i, i < k → listed.getD i false = true) → (∀ i, listed.getD i false = true → i < m) → a.defers = c.ds → a.tmps.size = c.n → WOk c.B I w → Ext c.B c.I0 c.w0 I w → Hs (ss.countP fun s => listed.getD s false) c.B a I w →
   (∀ t x, envGet envF t = some x → (∀ (i : Nat) (o : Oper), i < m - k → l[k + i]? = some o → o.dst = some t → listed.getD (k + i) false = true) → Rel I w x (a.tmps.getD t undef)) →
   wpAnyIn (FW r) 0 P .any l.toArray Q fuel listed a w := by
  intro cnt
  induction cnt with
  | zero =>
   intro fuel listed a w I hsz hf hfu hcl hlk' hlm hd hts hw he hh hv
   have hall : ∀ i, i < m → listed.getD i false = true := by
    intro i hi
    have := List.countP_eq_zero.1 hf.symm i (by simpa using hi)
    simpa using this
   have hst : ss.countP (fun s => listed.getD s false) = ss.length := List.countP_eq_length.2 fun s hs => by simpa using hall s (hsr s hs).2
   rw [hst] at hh
   exact htail a w I hd hts hw he hh (fun t x hx => hv t x hx (fun i o hi _ _ => hall (k + i) Yb)) fuel listed hsz (fun i => ⟨hlm i, hall i⟩) Yb
  | succ cnt ih =>
   intro fuel listed a w I hsz hf hfu hcl hlk' hlm hd hts hw he hh hv
   obtain ⟨fuel, rfl⟩ : ∃ f, fuel = f + 1 := ⟨fuel - 1, Yb⟩
   have hex : ∃ i, i < m ∧ listed.getD i false = false ∧ ∀ j, j < i → listed.getD j false = true := by
    have : ∃ i, i < m ∧ listed.getD i false = false := by
     refine Classical.byContradiction fun hn => ?_
     have : (List.range m).countP (fun i => !listed.getD i false) = 0 := by
      rw [List.countP_eq_zero]
      intro i hi
      simp only [List.mem_range] at hi
      cases hx : listed.getD i false with
      | true => simp
      | false => exact absurd ⟨i, hi, hx⟩ hn
     omega
    obtain ⟨i, hi⟩ := this
    induction i using Nat.strongRecOn with
    | _ i ihi =>
     by_cases hx : ∃ j, j < i ∧ listed.getD j false = false
     ·obtain ⟨j, hj, hj2⟩ := hx
      exact ihi j hj ⟨Yb, hj2⟩
     ·exact ⟨i, hi.1, hi.2, fun j hj => by
       cases hy : listed.getD j false with
       | true => rfl
       | false => exact absurd ⟨j, hj, hy⟩ hx⟩
   obtain ⟨i0, hi0m, hi0, hi0b⟩ := hex
   have hi0k : k ≤ i0 := by
    rcases Nat.lt_or_ge i0 k with h | h
    ·rw [hlk' i0 h] at hi0; cases hi0
    ·exact h
   refine ⟨fun h0 => ?_, fun i hi => ?_⟩
   ·exfalso
    have hok : l[i0]? = some l[i0] := List.getElem?_eq_getElem Yb
    have : i0 ∈ Region.ready .any l.toArray listed := by
     rw [mem_ready]
     refine ⟨Ybk, l[i0], Ys, fun e he hb => ?_⟩
     exact hi0b _ (ok.back i0 _ hok e.on YY)
    rw [h0] at this; cases this
   ·obtain ⟨h1, o, h2, h3⟩ := mem_ready.1 hi
    have ho : l[i]? = some o := by simpa using h2
    have hlt : i < l.length := (List.getElem?_eq_some_iff.1 ho).1
    rw [getD_true_iff Yb] at h1
    have hdeps : ∀ k ∈ deps o, listed.getD k false = true := by
     intro k hk
     simp only [deps, List.mem_filterMap] at hk
     obtain ⟨e, he, hb⟩ := hk
     split at hb
     ·rename_i hbi; simp at hb; subst hb; exact h3 e Ya6 hbi
     ·cases hb
    have hms : (masks l [])[i]? = some ((masks l []).getD i 0) := by
     have : i < (masks l []).length := by rw [masks_len]; simpa using hlt
     simp [List.getD, this]
    have hanc := masks_spec l _ hcl l [] Ys Ys Ys i _ o hms ho hdeps
    have hik : k ≤ i := by
     rcases Nat.lt_or_ge i k with h | h
     ·rw [hlk' i h] at h1; cases h1
     ·exact h
    have him : i < m := by
     rcases Nat.lt_or_ge i m with h | h
     ·exact h
     ·have := hanc i0 (ok.tail i h hlt i0 hi0k hi0m)
      rw [hi0] at this; cases this
    obtain ⟨q, rfl⟩ : ∃ q, i = k + q := ⟨i - k, Yb⟩
    have hq : q < m - k := by omega
    have hxi : xs[q]? = some xs[q] := List.getElem?_eq_getElem Yb
    obtain ⟨hA, hdst⟩ := fin q o _ hq ho hxi
    have avail : ∀ t ∈ looks l o, ∀ (i' : Nat) (o' : Oper), i' < m - k → l[k + i']? = some o' → o'.dst = some t → listed.getD (k + i') false = true := fun t ht i' o' hi' ho' hd' => hanc _ (ok.looked (k + q) o (k + i') o' t hik him ho Yb Yb ho' hd' ht).2
    have hlo : loOf l ss (k + q) ≤ ss.countP fun s => listed.getD s false := by
     unfold loOf
     exact List.countP_mono_left fun s _ hs => hanc s hs
    have hhi : (ss.countP fun s => listed.getD s false) ≤ hiOf l ss (k + q) := by
     unfold hiOf
     refine List.countP_mono_left fun s hs hl => ?_
     simp only [Bool.and_eq_true, Bool.not_eq_true']
     refine ⟨?_, ?_⟩
     ·cases hb : ((masks l []).getD s 0).testBit (k + q) with
      | false => rfl
      | true =>
       exfalso
       have hsl : s < l.length := by have := (hsr s hs).2; omega
       have hos : l[s]? = some l[s] := List.getElem?_eq_getElem hsl
       have hms2 : (masks l [])[s]? = some ((masks l []).getD s 0) := by
        have : s < (masks l []).length := by rw [masks_len]; simpa using hsl
        simp [List.getD, this]
       have := masks_spec l _ hcl l [] Ys Ys Ys s _ _ hms2 hos (fun j hj => hcl s _ hl hos j hj) (k + q) hb
       rw [h1] at this; cases this
     ·cases hb : Nat.beq s (k + q) with
      | false => rfl
      | true =>
       exfalso
       rw [Nat.eq_of_beq_eq_true hb] at hl
       rw [h1] at hl; cases hl
    refine (hA _ hlo hhi).run (c := c) ho hw hh (fun t ht z hz => hv t z hz (avail t ht)) (fun t ht => by rw [hts]; exact hlook _ o ho t ht) (fun d' hd' => by rw [hts]; rw [hd'] at hdst; exact Nat.lt_of_succ_le YaY) ?_
    intro v w' I' hw' he' hh' hx
    have hset : ∀ j, (listed.setIfInBounds (k + q) true).getD j false = if k + q = j then true else listed.getD j false := fun j => getD_set _ _ _ Yb
    refine ih fuel (listed.setIfInBounds (k + q) true) _ w' I' (by simp [hsz]) ?_ Yb ?_ ?_ ?_ (by rw [put_defers]; exact hd) (by rw [tmps_put_size]; exact hts) hw' (he.trans he') (by rw [stage_set hset h1 hnd]; exact hh') ?_
    ·have : (List.range m).countP (fun j => !listed.getD j false) = (List.range m).countP (fun j => !(listed.setIfInBounds (k + q) true).getD j false) + 1 := by
      have key : ∀ (n : Nat), (List.range n).countP (fun j => !listed.getD j false) = (List.range n).countP (fun j => !(listed.setIfInBounds (k + q) true).getD j false) + (if k + q < n then 1 else 0) := by
       intro n
       induction n with
       | zero => simp
       | succ n ihn =>
        rw [List.range_succ, List.countP_append, List.countP_append, ihn]
        simp only [List.countP_cons, List.countP_nil, Nat.zero_add, hset n]
        by_cases e : k + q = n
        ·subst e
         rw [if_neg (Nat.lt_irrefl _), if_pos (Nat.lt_succ_self _), if_pos rfl, h1]
         simp
        ·rw [if_neg e]
         by_cases hlt' : k + q < n
         ·rw [if_pos hlt', if_pos (Nat.lt_succ_of_lt hlt')]; omega
         ·rw [if_neg hlt', if_neg (show ¬ k + q < n + 1 by omega)]; omega
      rw [key, if_pos him]
     omega
    ·intro j oj hj hoj k' hk
     rw [hset]
     by_cases e : k + q = k'
     ·rw [if_pos e]
     ·rw [if_neg e]
      rw [hset] at hj
      by_cases e' : k + q = j
      ·subst e'
       rw [ho] at hoj; cases hoj
       exact hdeps k' hk
      ·rw [if_neg e'] at hj
       exact hcl j oj hj hoj k' hk
    ·intro j hj
     rw [hset, if_neg Yb]
     exact hlk' j hj
    ·intro j hj
     rw [hset] at hj
     by_cases e : k + q = j
     ·omega
     ·rw [if_neg e] at hj; exact hlm j hj
    ·intro t x hxt hav
     by_cases hdt : o.dst = some t
     ·rw [hdt]
      have : x = xs[q] := by
       have := finAt q o _ t hq ho hxi hdt
       rw [this] at hxt; exact (Option.some.inj hxt).symm
      subst this
      rw [tmps_put_same Yan]
      exact hx
     ·have hold : Rel I w x (a.tmps.getD t undef) := hv t x hxt fun i' o' hi' ho' hd' => by
       have := hav i' o' hi' ho' hd'
       rw [hset] at this
       by_cases e : k + q = k + i'
       ·have e2 : q = i' := by omega
        subst e2
        rw [ho] at ho'; cases ho'
        exact absurd hd' hdt
       ·rw [if_neg e] at this; exact this
      have hget : (a.put o.dst v).tmps.getD t undef = a.tmps.getD t undef := by
       cases hod : o.dst with
       | none => rfl
       | some d => exact tmps_put_other (fun e => hdt (by rw [hod, e]))
      rw [hget]
      exact hold.keep he'.keeps
 intro a w s fuel listed hsz hli hfu
 obtain ⟨I, hw, he, hh, hv⟩ := s.mem
 have hst0 : (ss.countP fun s => listed.getD s false) = 0 := List.countP_eq_zero.2 fun s hs hl => by have := (hli s).1 hl; have := (hsr s hs).1; omega
 refine main _ fuel listed a w I hsz rfl ?_ (fun i o hi ho j hj => (hli j).2 Ya0) (fun i hi => (hli i).2 hi) (fun i hi => by have := (hli i).1 hi; omega) s.ds s.size hw he (by rw [hst0]; exact hH _ _ _ _ hh) ?_
 ·have : (List.range m).countP (fun i => !listed.getD i false) ≤ m - k := by
   have e : List.range m = List.range k ++ (List.range (m - k)).map (k + ·) := by
    rw [← List.range_add]; congr 1; omega
   rw [e, List.countP_append]
   have z : (List.range k).countP (fun i => !listed.getD i false) = 0 := by
    rw [List.countP_eq_zero]; intro i hi; simp only [List.mem_range] at hi; simp [(hli i).2 hi]
   rw [z]
   have := List.countP_le_length (p := fun i => !listed.getD i false) (l := (List.range (m - k)).map (k + ·))
   simpa using this
  omega
 ·intro t x hx hav
  have : envGet st.env t = some x := by
   rw [← finOther t (fun i o hi ho hd => ?_)]
   ·exact hx
   ·have := hav i o hi ho hd
    have := (hli (k + i)).1 this
    omega
  exact hv t x this
abbrev HM (Hs : Nat → List Ent) : Nat → Mem := fun j B _ I w => HeapOk B I w (Hs j)
theorem DP.anySC {env : List (Nat × AV)} {H : List Ent} (Hs : Nat → List Ent) (ss : List Nat) (k m n : Nat) (hn : c.n = n) (hchk : segChk l k m = true) (hss : ssChk ss k m = true) (hkm : Nat.ble k m = true) (hml : Nat.ble m l.length = true) (hlk : (l.all fun o => (looks l o).all fun t => Nat.blt t n) = true) (hH : H = Hs 0)
  (h : TD P (HM Hs) l ss c.n k ((l.drop k).take (m - k)) env fun env => DP c r P l Q m ⟨env, Hs ss.length⟩) : DP c r P l Q k ⟨env, H⟩ :=
 DP.anyS (Hs := HM Hs) hchk hss (Nat.le_of_ble_eq_true hkm) (Nat.le_of_ble_eq_true hml) (by rw [hn]; exact hlk) (fun B a I w hh => by show HeapOk B I w (Hs 0); rw [← hH]; exact hh) (h.mono fun env hd a w I q1 q2 q3 q4 q5 q6 => hd a w ⟨q1, q2, I, q3, q4, q5, q6⟩)
abbrev GM (H0 : List Ent) (Hg : Value → List Ent) (de : Nat) : Nat → Mem := fun j B a I w => match j with
 | 0 => HeapOk B I w H0
 | _ => HeapOk B I w (Hg (a.tmps.getD de undef))
end
section
variable {P : Program} {L rest : List Oper} {ss : List Nat} {n i d : Nat} {o : Oper} {env : List (Nat × AV)} {K : List (Nat × AV) → Prop} {x : AV} {M : Nat → Mem} {Hs : Nat → List Ent}
theorem TD.nil (h : K env) : TD P M L ss n i [] env K := h
theorem TD.popC (lo hi : Nat) (hl : loOf L ss i = lo) (hh : hiOf L ss i = hi) (hs : stp ss i = 0) (hg : o.guard = none) (hd : o.dst = some d) (hn : Nat.blt d n = true) (h : ∀ j, lo ≤ j → j ≤ hi → POp P (Hs j) (envGet env) o x) (next : TD P (HM Hs) L ss n (i + 1) rest ((d, x) :: env) K) : TD P (HM Hs) L ss n i (o :: rest) env K :=
 ⟨x, fun j h1 h2 => by
  rw [hs]
  exact ⟨hg, fun B I w r a hw hm ho hz => h j Yb Yb B I w r a _ hw hm (fun _ h => h) ho⟩, dstOk_of hd hn, Y0⟩
theorem TD.stoC (q : Nat) (hl : loOf L ss i = q) (hh : hiOf L ss i = q) (hs : stp ss i = 1) (hg : o.guard = none) (hd : o.dst = none) (h : SOk P (Hs q) (Hs (q + 1)) (envGet env) o) (next : TD P (HM Hs) L ss n (i + 1) rest env K) : TD P (HM Hs) L ss n i (o :: rest) env K :=
 ⟨.any, fun j h1 h2 => by
  obtain rfl : j = q := by omega
  rw [hs]
  exact ⟨hg, fun B I w r a hw hm ho hz => (h B I w r a hw hm ho).mono (fun v w' ⟨I', a1, a2, a3⟩ => ⟨I', a1, a2, a3, .any _⟩) (fun _ _ h => h)⟩, by rw [hd]; rfl, Y0⟩
variable {H : List Ent} {Hg : Value → List Ent} {de : Nat}
theorem TD.popG (hs : stp ss i = 0) (hg : o.guard = none) (hd : o.dst = some d) (hn : Nat.blt d n = true) (hde : Nat.beq d de = false) (h : ∀ H, POp P H (envGet env) o x) (next : TD P (GM H Hg de) L ss n (i + 1) rest ((d, x) :: env) K) : TD P (GM H Hg de) L ss n i (o :: rest) env K :=
 ⟨x, fun j h1 h2 => by
  rw [hs]
  refine ⟨hg, fun B I w r a hw hm ho hz => ?_⟩
  cases j with
  | zero => exact h H B I w r a _ hw hm (fun _ h => h) ho
  | succ j =>
   refine (h (Hg (a.tmps.getD de undef)) B I w r a _ hw hm (fun _ h => h) ho).mono (fun v w' ⟨I', a1, a2, a3, a4⟩ => ⟨I', a1, a2, ?_, a4⟩) (fun _ _ h => h)
   have e : (a.put o.dst v).tmps.getD de undef = a.tmps.getD de undef := by
    rw [hd]; exact tmps_put_other (fun e => by subst e; simp at hde)
   show HeapOk B I' w' (Hg ((a.put o.dst v).tmps.getD de undef))
   rw [e]; exact a3, dstOk_of hd hn, Y0⟩
theorem TD.effG (hh : hiOf L ss i = 0) (hs : stp ss i = 1) (hg : o.guard = none) (hd : o.dst = some de) (hn : Nat.blt de n = true)
  (h : ∀ (B : Nat) (I : Imm) (w : World) (r : Option Nat) (a : Act), WOk B I w → HeapOk B I w H → OpsOk I w (envGet env) a o → Runs P r o a w (fun x w' => ∃ I', WOk B I' w' ∧ Ext B I w I' w' ∧ HeapOk B I' w' (Hg x)) (fun _ _ => False))
  (next : TD P (GM H Hg de) L ss n (i + 1) rest ((de, .any) :: env) K) : TD P (GM H Hg de) L ss n i (o :: rest) env K :=
 ⟨.any, fun j h1 h2 => by
  obtain rfl : j = 0 := by omega
  rw [hs]
  refine ⟨hg, fun B I w r a hw hm ho hz => (h B I w r a hw hm ho).mono (fun v w' ⟨I', a1, a2, a3⟩ => ⟨I', a1, a2, ?_, .any _⟩) (fun _ _ h => h)⟩
  show HeapOk B I' w' (Hg ((a.put o.dst v).tmps.getD de undef))
  rw [hd, tmps_put_same (hz de hd)]; exact a3, dstOk_of hd hn, Y0⟩
theorem SOk.store {H H' : List Ent} {ρ : Nat → Option AV} {t tb : TypeId} {p z : Operand} {y : AV} {gp g : Bool} {b off m : Nat} {cs ds : List AV} {agg : Bool} [ht : HasTy P t (agg, m)] (h : o.op = .store t p z)
  (hp : aev ρ p = some (gp, .p b off)) (hgp : gp = true) (hz : aev ρ z = some (g, y)) (hg : g = true) (hb : bOk y = true) (h1 : allOne (bcells y) = true)
  (hm : Nat.beq (bcells y).length m = true) (hu : Upd H (.blk b tb cs) (.blk b tb ds) H') (hfit : Nat.ble (off + (bcells y).length) cs.length = true) (hds : cs.take off ++ bcells y ++ cs.drop (off + (bcells y).length) = ds) : SOk P H H' ρ o := by
 intro B I w r a hw hh ho
 subst hds
 have ht' : tyInfo P t = some (agg, (bcells y).length) := by rw [Nat.eq_of_beq_eq_true hm]; exact ht.h
 have hpv := rel_val (ho.get Yl hp hgp)
 have hzv := bcells_rel (ho.get Yl hz hg) hb
 obtain ⟨hB, vs, hblk, hrel, hni⟩ := hh.ok _ hu.mem
 have hone := relL_one hzv h1
 have hlen : (a.eval z).cells.toList.length = (bcells y).length := hzv.length
 have hcl : vs.size = cs.length := by have := hrel.length; simpa using this
 have hfit' : off + 0 + (a.eval z).cells.toList.length ≤ vs.size := by
  have := Nat.le_of_ble_eq_true hfit
  rw [hlen, hcl]; omega
 have hrun := run_storeCells_at P b off tb (a.eval z).cells.toList 0 vs w hblk hfit' hone
 obtain ⟨_, hsz⟩ := tyInfo_run ht' w
 generalize hcur : (vs.toList.take (off + 0) ++ (a.eval z).cells.toList ++ vs.toList.drop (off + 0 + (a.eval z).cells.toList.length)).toArray = cur at hrun
 have hsize : (a.eval z).cells.size = (bcells y).length := by simpa using hlen
 have hexec : (execOp a.eval o).run P w = .ok .skip (w.setRow b cur) := by
  simp [execOp, h, Instr.storeAt, hpv, Instr.sureAddr, storeVar, hsz, hsize, hrun]
 have hkeep : Keeps I w I (w.setRow b cur) := ⟨fun _ _ x => x, fun b' o' hI => by
  have hne : b' ≠ b := fun e => by subst e; exact hni o' hI
  exact World.cell?_of_block (a := ⟨b', o', none⟩) (setRow_other w b b' cur hne)⟩
 have hext : Ext B I w I (w.setRow b cur) := ⟨hkeep.imm, hkeep.cell, ⟨rfl, rfl, rfl, Ys, fun k hk => setRow_other w b k cur Yb⟩⟩
 have hw' : WOk B I (w.setRow b cur) := ⟨Ybj, fun b' o' hI => by rw [hkeep.cell b' o' hI]; exact hw.there b' o' hI⟩
 have hrel' : RelL I w (cs.take off ++ bcells y ++ cs.drop (off + (bcells y).length)) cur.toList := by
  rw [← hcur]
  simp only [Nat.add_zero, hlen]
  exact ((hrel.take off).append hzv).append (hrel.drop _)
 have hh' : HeapOk B I (w.setRow b cur) H' := by
  refine hh.upd hu hkeep (fun k hk hne => setRow_other w b k cur (fun e => hne (by subst e; rfl))) (fun _ _ x => .inl x) ?_ (fun k hk => .inl hk)
  exact ⟨hB, cur, setRow_heap w b vs cur tb (0, 0) hblk, hrel'.keep hkeep, hni⟩
 exact Runs.of_skip YB hexec ⟨I, hw', hext, hh'⟩
end
section
variable {P : Program}
theorem enter_sat {B : Nat} {I : Imm} {w : World} {n : Nat} {fn : Func} {xs : List AV} {vs : List Value} {H : List Ent} (hn : fn.ntmps = n) (hl : Nat.ble xs.length n = true) (hw : WOk B I w) (hh : HeapOk B I w H) (hv : RelL I w xs vs) :
  Sat ⟨B, I, w, n, []⟩ ⟨envOf 0 xs, H⟩ { tmps := vs.toArray ++ Array.replicate (fn.ntmps - vs.toArray.size) undef, defers := [] } w := by
 refine ⟨rfl, ?_, I, hw, Ext.refl _ _ _, hh, fun t y hy => ?_⟩
 ·have := hv.length
  have := Nat.le_of_ble_eq_true hl
  simp; omega
 ·obtain ⟨v, h1, h2⟩ := hv.get YaL
  have : (vs.toArray ++ Array.replicate (fn.ntmps - vs.toArray.size) undef).getD t undef = v := by
   have hlt := (List.getElem?_eq_some_iff.1 h1).1
   simp only [Array.getD_eq_getD_getElem?]
   rw [Array.getElem?_append_left (by simpa using hlt)]
   simp [h1]
  rw [this]; exact h2
theorem ACall.mkD {f : FuncId} {fn : Func} {code : Code} {xs : List AV} {H : List Ent} {Φ : AV → List Ent → Prop} {E : AV → List Ent → Prop} {n : Nat} (hf : P.funcs[f]? = some fn) (hb : fn.body = some code) (hnm : (fn.name == "runtime.NumGoroutine") = false)
  (hn : fn.ntmps = n) (hl : Nat.ble xs.length n = true) (h : ∀ B I w, CW ⟨B, I, w, n, []⟩ none P code ⟨envOf 0 xs, H⟩ (bodyPostDIn (FW none) 0 P fn (RetP B I w Φ E))) : ACall P f xs H Φ E :=
 ⟨Ybi, fun B I w vs hw hh hv => calls_of_FW (n := 0) (callsIn_of_wp_defers hf hb trivial (h B I w _ w (enter_sat hn hl hw hh hv)) rfl)⟩
variable {c : Ctx} {r : Option Nat} {ops : Array Oper} {l rest : List Oper} {o : Oper} {env : List (Nat × AV)} {H : List Ent} {Q : Exit → Act → World → Prop} {d : Nat}
def ifaceOk (P : Program) (t : TypeId) : Bool := match P.underlying t with
 | some (.interface _) => false
 | some _ => true
 | none => false
theorem POp.makeIface {ρ : Nat → Option AV} {t : TypeId} {x : Operand} {y : AV} {g : Bool} (h : o.op = .makeInterface t x) (hx : aev ρ x = some (g, y)) (hg : g = true) (ht : ifaceOk P t = true) : POp P H ρ o (.iface t y) := by
 intro B I w r a Hc hw hh hs ho
 have hr : (execOp a.eval o).run P w = .ok (.value (.iface t (a.eval x))) w := by
  unfold ifaceOk at ht
  cases hu : P.underlying t with
  | none => simp [hu] at ht
  | some u => cases u <;> simp [hu] at ht <;> simp [execOp, h, Instr.makeInterface, run_underlying hu]
 exact Runs.of_value YB hr ⟨I, hw, Ext.refl _ _ _, hh, .iface _ _ _ (ho.get Yl hx hg)⟩
def AV.is (y : AV) (v : Value) : Prop := ∀ (I : Imm) (w : World) (u : Value), Rel I w y u → u = v
theorem OL.panicX {x : Operand} {y : AV} {g : Bool} {t : TypeId} {v : Value} (hgd : o.guard = none) (h : o.op = .panic x) (hx : aev (envGet env) x = some (g, y)) (hg : g = true) (hy : y.is (.iface t v))
  (next : Done c ⟨env, H⟩ (.panic [{ v := .iface t v, recovered := false }]) Q) : OL c r P ops (o :: rest) ⟨env, H⟩ Q := by
 intro a w s
 refine wpListIn_plain hgd fun K hK => ?_
 obtain ⟨I, hw, he, hh, hv⟩ := s.mem
 have hxv := hy _ _ _ ((hv.ops o).get Yl hx hg)
 have hr : (execOp a.eval o).run P w = .halt (.panic (.iface t v)) w := by
  simp [execOp, h, hxv, Instr.panic]
 refine Runs.of_panic (R := fun _ _ => False) (E := fun ch w' => ch = [{ v := .iface t v, recovered := false }] ∧ w' = w) YB hr ⟨rfl, rfl⟩ K Q (fun _ _ h => h.elim) ?_
 rintro ch w' ⟨rfl, rfl⟩
 exact next a w' s
theorem OL.deferC {x : Operand} {ts : Array TypeId} {k : FuncId} {vs : List Value} {g : Bool} (hr0 : r = none) (hgd : o.guard = none) (hd : o.dst = none) (h : o.op = .defer { callee := .value x, args := #[], argTypes := ts }) (hx : aev (envGet env) x = some (g, .fn (.func k) [] (vs.map .val))) (hg : g = true)
  (next : OL ⟨c.B, c.I0, c.w0, c.n, { target := .fn (.func k) vs.toArray, args := #[] } :: c.ds⟩ r P ops rest ⟨env, H⟩ Q) : OL c r P ops (o :: rest) ⟨env, H⟩ Q := by
 intro a w s
 refine wpListIn_plain hgd fun K hK => ?_
 obtain ⟨I, hw, he, hh, hv⟩ := s.mem
 have hxv : a.eval x = .func (.func k) #[] vs.toArray := by
  have h0 := (hv.ops o).get Yy hx hg
  generalize a.eval x = u at h0
  cases h0 with
  | fn _ _ _ vf vc hf hc =>
   have h1 := rel_vals hc
   have h2 : vf.toList = [] := by
    have := hf.length
    exact List.eq_nil_of_length_eq_zero this
   rw [← h1]
   congr
   exact Array.toList_eq_nil_iff.1 h2
 have hr : (execOp a.eval o).run P w = .ok (.defer { target := .fn (.func k) vs.toArray, args := #[] }) w := by
  simp [execOp, h, resolve, Deferred.ofValue, hxv]
 unfold Oper.wpIn
 refine ⟨fun _ _ => trivial, ?_⟩
 subst hr0
 have hs : o.semAt (FW none).round a.eval = execOp a.eval o := rfl
 rw [hs, hr, Oper.uponIn_defer]
 refine hK _ _ ?_
 rw [hd]
 exact next _ _ ⟨by show _ :: a.defers = _; rw [s.ds], s.size, I, hw, he, hh, fun t y hy => hv t y hy⟩
theorem CW.scope {st : St} {p : Code} (h : CW c none P p st (Exit.noGoto Q)) : CW c none P (.scope p) st Q := fun a w s =>
 (wpIn_wide (n := 0)).2 (wp_scope_straight ((wpIn_wide (n := 0)).1 (h a w s)))
theorem CW.label {st : St} {k : Nat} (h : Done c st .normal Q) : CW c r P (.label k) st Q := fun a w s => wpIn_label (h a w s)
theorem Done.scopeR {st : St} (h : Done c st .ret Q) : Done c st .ret (Exit.noGoto Q) := h
theorem Done.scopeX {st : St} {k : Nat} (h : Done c st (.exit k) Q) : Done c st (.exit k) (Exit.noGoto Q) := h
end
section
variable {P : Program} {H : List Ent} {ρ : Nat → Option AV} {o : Oper}
theorem POp.ixC {t : TypeId} {x y : Operand} {k b off n cap : Nat} {kk : IntKind} {i : Int} {gx gy : Bool} [ht : HasSl P t k] (h : o.op = .indexAddr t x y) (hx : aev ρ x = some (gx, .val (.slice (some ⟨b, off, none⟩) n cap))) (hgx : gx = true) (hy : aev ρ y = some (gy, .val (.int kk i))) (hgy : gy = true) (h0 : 0 ≤ i ∧ i < n) : POp P H ρ o (.p b (off + i.toNat * k)) := by
 refine .same YB fun I w f ho => ?_
 have h1 := rel_val (ho.get Yl hx hgx)
 have h2 := rel_val (ho.get Yl hy hgy)
 exact ⟨.pointer (some ⟨b, off + i.toNat * k, none⟩), by simp [execOp, h, h1, h2, run_indexSl ht.h b off n cap kk i h0.1 h0.2 w], .val _⟩
theorem run_sliceC {t : TypeId} {k : Nat} (ht : slSize P t = some k) (b off n cap l m : Nat) (lo hi : Option Value) (kl kh : IntKind) (hl : match lo with | none => l = 0 | some v => v = .int kl (l : Int)) (hh : match hi with | none => m = n | some v => v = .int kh (m : Int)) (h1 : l ≤ m) (h2 : m ≤ cap) (h3 : l < cap) (w : World) :
  (Instr.sliceAt t (.slice (some ⟨b, off, none⟩) n cap) lo hi none).run P w = .ok (.slice (some ⟨b, off + l * k, none⟩) (m - l) (cap - l)) w := by
 obtain ⟨e, inf, hu, hi', hk⟩ := slSize_spec ht
 have hne : ¬ (cap = l) := by omega
 cases lo <;> cases hi <;> simp only at hl hh <;> subst hl <;> subst hh <;>
  simp [Instr.sliceAt, Instr.slice, run_underlying hu, Instr.sliceBounds, Instr.sliceBound, asIntOf, sizeOf, typeInfo, hi', hk, h1, h2, hne, Addr.add] <;> omega
theorem POp.slC {t : TypeId} {x : Operand} {lo hi : Option Operand} {k b off n cap l m : Nat} {gx gl gh : Bool} {kl kh : IntKind} [ht : HasSl P t k] (h : o.op = .slice t x lo hi none) (hx : aev ρ x = some (gx, .val (.slice (some ⟨b, off, none⟩) n cap))) (hgx : gx = true)
  (hlo : match lo with | none => l = 0 | some y => aev ρ y = some (gl, .val (.int kl (l : Int)))) (hgl : gl = true) (hhi : match hi with | none => m = n | some y => aev ρ y = some (gh, .val (.int kh (m : Int)))) (hgh : gh = true) (h1 : l ≤ m) (h2 : m ≤ cap) (h3 : l < cap) :
  POp P H ρ o (.val (.slice (some ⟨b, off + l * k, none⟩) (m - l) (cap - l))) := by
 refine .same YB fun I w f ho => ?_
 have hr := rel_val (ho.get Yl hx hgx)
 have hl0 : ∀ y, lo = some y → f.eval y = .int kl (l : Int) := fun y e => by
  subst e; exact rel_val (ho.get Yl hlo hgl)
 have hh0 : ∀ y, hi = some y → f.eval y = .int kh (m : Int) := fun y e => by
  subst e; exact rel_val (ho.get Yl hhi hgh)
 refine ⟨_, ?_, .val (.slice (some ⟨b, off + l * k, none⟩) (m - l) (cap - l))⟩
 have := run_sliceC ht.h b off n cap l m (lo.map f.eval) (hi.map f.eval) kl kh (by cases lo with | none => exact hlo | some y => exact hl0 y rfl) (by cases hi with | none => exact hhi | some y => exact hh0 y rfl) h1 h2 h3 w
 simp [execOp, h, hr, this]
theorem Borrow.blk {t b k cap : Nat} {els : List (List AV)} {more : List AV} {pre post : List AV} (hm : Ent.blk b t (els.flatten ++ more) ∈ H) (hk : ∀ e ∈ els, e.length = k) (hc : els.length ≤ cap) (hcm : cap ≤ maxLen) : Borrow H (pre ++ .val (.slice (some ⟨b, 0, none⟩) els.length cap) :: post) (pre ++ .sl k els :: post) := by
 intro B I w Hc vs hw hh hs hr
 obtain ⟨hB, us, hb, hrel, hni⟩ := hh.ok _ (hs _ hm)
 let J : Imm := fun b' o' => I b' o' ∨ (b' = b ∧ o' < us.size)
 have kk : Keeps I w J w := ⟨fun _ _ h => .inl h, fun _ _ _ => rfl⟩
 refine ⟨J, fun b' o' h => ?_, ?_⟩
 ·rcases h with h | ⟨rfl, h⟩
  ·exact hw.there b' o' h
  ·exact ⟨us[o'], by rw [cell_of_blk hb]; exact Array.getElem?_eq_getElem h⟩
 obtain ⟨as, zs, rfl, r1, r2⟩ := hr.append_inv
 cases r2 with
 | cons _ u _ zs hx ht =>
  have := rel_val hx
  subst this
  have hlen := hrel.length
  rw [List.length_append, flatten_len hk] at hlen
  have hsz : us.size = els.length * k + more.length := by simpa using hlen
  have hcells : Cells J w b 0 (els.flatten ++ more) := cells_of hb _ us.toList 0 (hrel.keep kk) (fun j u hu => by simpa using hu) (fun j hj => .inr ⟨rfl, by rw [List.length_append, flatten_len hk] at hj; omega⟩)
  have hc2 := hcells.take els.flatten.length
  rw [List.take_left] at hc2
  exact (r1.keep kk).append (.cons _ _ _ _ (.sl _ _ _ _ _ _ rfl hc hcm (els_of_cells els 0 hk hc2)) (ht.keep kk))
end
section
variable {c : Ctx} {r : Option Nat} {P : Program} {ops : Array Oper} {l rest : List Oper} {o : Oper} {env : List (Nat × AV)} {H : List Ent} {Q : Exit → Act → World → Prop} {d : Nat}
end
section
variable {c : Ctx} {r : Option Nat} {P : Program} {l : List Oper} {Q : Exit → Act → World → Prop}
end
section
variable {P : Program} {L rest : List Oper} {ss : List Nat} {n i d : Nat} {o : Oper} {env : List (Nat × AV)} {K : List (Nat × AV) → Prop} {x : AV} {H : List Ent} {Hb : Nat → Nat → List Ent} {de : Nat}
end
theorem post_of_below {H : Type} {enc : TypeId × Value → H} {P : Program} {f : Func} {s : ChangeSpec} {apart fresh handsOn again : Bool} {W W' : World} {args : Array Value} {v : Value} {ds gs : List (DataW H)} {before pa pv : List MemPlace}
  (hW : DataW.Whole enc P f.params.toList s.vars apart W args.toList ds gs before)
  (hres : ∀ (b : Nat) (sp : Nat → Bool) (hd : Bool), DataW.TrodAll enc P W' b sp hd f.resultTypes.toList (v.resultList f.resultTypes.size) (s.fn H (ds ++ gs)).results [])
  (hargs : ∀ sp : Nat → Bool, (∀ p ∈ before, sp p.block = true) → DataW.TrodAll enc P W' 0 sp true f.params.toList args.toList (s.fn H (ds ++ gs)).args pa)
  (hvars : ∀ sp : Nat → Bool, (∀ p ∈ before, sp p.block = true) → DataW.TrodVars enc P W' sp s.vars (s.fn H (ds ++ gs)).vars pv)
  (hps : before = pa ++ pv) (hb : Below W.heap.size W W')
  (hok : ∀ (j : Nat) (t : TypeId) (r : Value), f.resultTypes[j]? = some t → (v.resultList f.resultTypes.size)[j]? = some r → Value.okWide P W' .any 0 t r) :
  s.post enc P f apart fresh handsOn again W args v W' := by
 have hold : ∀ p ∈ before, (fun b => decide (b < W.heap.size)) p.block = true := fun p hp => by simpa using hW.lt p hp
 have hlt : ∀ p ∈ before, p.block < W.heap.size := fun p hp => hW.lt p hp
 refine ⟨ds, gs, before, [], pa, pv, hW, hres _ _ _, hargs _ hold, hvars _ hold, hb.frame _, fun _ => ?_⟩
 obtain ⟨_, _, _, _, _, hz, hn⟩ := hW
 refine ⟨hok, _, _, ([] ++ pa) ++ pv, ⟨[] ++ pa, pv, trodAll_append (hargs _ (fun _ _ => rfl)) (hres _ _ _), hvars _ (fun _ _ => rfl), rfl, ?_, ?_⟩, ?_⟩
 ·intro b off hp
  have hp' : MemPlace.cell b off ∈ before := by rw [hps]; simpa using hp
  rw [hb.frozen (p := ⟨b, off, none⟩) (hlt _ hp')]
  exact hz b off hp'
 ·intro ha
  have := hn ha
  rw [hps] at this
  simpa using this
 ·intro p hp _
  rw [hps]
  simpa using hp
def mkInfo (P : Program) (t : TypeId) : Option (TypeId × Nat × Value) :=
 match P.underlying t with
 | some (.slice e) => match P.info? e with
  | some i => match i.zero with
   | some z => match z.cells.toList with
    | [v] => bif Nat.beq i.size 1 then some (e, i.bytes, v) else none
    | _ => none
   | none => none
  | none => none
 | _ => none
class HasMk (P : Program) (t : Nat) (x : outParam (Nat × Nat × Value)) : Prop where h : mkInfo P t = some x
theorem mkInfo_spec {P : Program} {t e by_ : Nat} {v : Value} (h : mkInfo P t = some (e, by_, v)) : ∃ i z, P.underlying t = some (.slice e) ∧ P.info? e = some i ∧ i.zero = some z ∧ i.size = 1 ∧ i.bytes = by_ ∧ z.cells = #[v] := by
 unfold mkInfo at h
 split at h
 ·rename_i e' hu
  split at h
  ·rename_i i hi
   split at h
   ·rename_i z hz
    split at h
    ·rename_i v' hv
     cases hc : Nat.beq i.size 1 with
     | false => simp [hc] at h
     | true =>
      simp only [hc, cond_true, Option.some.injEq, Prod.mk.injEq] at h
      obtain ⟨rfl, rfl, rfl⟩ := h
      exact ⟨i, z, hu, hi, hz, Nat.eq_of_beq_eq_true hc, rfl, by apply Array.ext'; simpa using hv⟩
    ·cases h
   ·cases h
  ·cases h
 ·cases h
theorem madeCells_one (v : Value) (n : Nat) : madeCells #[v] n = (List.replicate n v).toArray := by
 apply Array.ext'
 simp only [madeCells, Array.toList_map, Array.toList_range, List.size_toArray, List.length_singleton, Nat.mod_one]
 apply List.ext_getElem
 ·simp
 ·intro i h1 h2; simp
section
variable {P : Program} {c : Ctx} {r : Option Nat} {ops : Array Oper} {rest : List Oper} {env : List (Nat × AV)} {H : List Ent} {Q : Exit → Act → World → Prop} {o : Oper} {d : Nat}
theorem OL.mkSl {x y : Operand} {t e by_ n : Nat} {v : Value} {kx ky : IntKind} {g1 g2 : Bool} [hM : HasMk P t (e, by_, v)] (hgd : o.guard = none) (hd : o.dst = some d) (hn : Nat.blt d c.n = true) (h : o.op = .makeSlice t x y)
  (hx : aev (envGet env) x = some (g1, .val (.int kx (n : Int)))) (hg1 : g1 = true) (hy : aev (envGet env) y = some (g2, .val (.int ky (n : Int)))) (hg2 : g2 = true) (hb : by_ * n ≤ 281474976710656) (hm : n ≤ maxLen)
  (next : ∀ b, OL c r P ops rest ⟨(d, .val (.slice (some ⟨b, 0, none⟩) n n)) :: env, .blk b e (List.replicate n (.val v)) :: H⟩ Q) : OL c r P ops (o :: rest) ⟨env, H⟩ Q := by
 intro a w s
 refine wpListIn_plain hgd fun K hK => ?_
 obtain ⟨I, hw, he, hh, hv⟩ := s.mem
 obtain ⟨i, z, hu, hi, hz, hk, hby, hzs⟩ := mkInfo_spec hM.h
 have ho := hv
 have e1 : a.eval x = .int kx (n : Int) := rel_val ((hv.ops o).get Yl hx hg1)
 have e2 : a.eval y = .int ky (n : Int) := rel_val ((hv.ops o).get Yl hy hg2)
 have hrun := run_make (P := P) w t e i z hu hi hz kx ky (n : Int) (n : Int) Yb (Int.le_refl _) YaG (by simp [maxLen] at hm; omega)
 rw [hzs, hk, Nat.mul_one, Int.toNat_natCast, madeCells_one] at hrun
 refine Runs.of_value (R := fun u w' => u = .slice (some ⟨w.heap.size, 0, none⟩) n n ∧ w' = w.alloc (.cells (List.replicate n v).toArray e)) (E := fun _ _ => False) YB (v := .slice (some ⟨w.heap.size, 0, none⟩) n n) (w' := w.alloc (.cells (List.replicate n v).toArray e)) (by simp [execOp, h, e1, e2, hrun]) ⟨rfl, rfl⟩ K Q ?_ (fun _ _ h => h.elim)
 rintro u w' ⟨rfl, rfl⟩
 have h1 : RelL I w (List.replicate n (.val v)) (List.replicate n v) := by have := relL_val (I := I) (w := w) (List.replicate n v); rwa [List.map_replicate] at this
 refine hK _ _ (next w.heap.size _ _ ⟨YW, YO, I, hw.alloc _, he.trans (ext_alloc hw _), hh.new hw e _ _ YaF, ?_⟩)
 rw [hd]
 exact (hv.keep (keeps_alloc hw _)).put (dst := some d) Ybq (.val _)
theorem OL.mkSlC {x y : Operand} {t e by_ : Nat} (n : Nat) {m : Int} {v : Value} {kx ky : IntKind} {g1 g2 : Bool} [hM : HasMk P t (e, by_, v)] (hgd : o.guard = none) (hd : o.dst = some d) (hn : Nat.blt d c.n = true) (h : o.op = .makeSlice t x y)
  (hx : aev (envGet env) x = some (g1, .val (.int kx m))) (hg1 : g1 = true) (hy : aev (envGet env) y = some (g2, .val (.int ky m))) (hg2 : g2 = true) (he : m = (n : Int)) (hb : by_ * n ≤ 281474976710656) (hm : n ≤ maxLen)
  (next : ∀ b, OL c r P ops rest ⟨(d, .val (.slice (some ⟨b, 0, none⟩) n n)) :: env, .blk b e (List.replicate n (.val v)) :: H⟩ Q) : OL c r P ops (o :: rest) ⟨env, H⟩ Q := by
 subst he; exact OL.mkSl hgd hd hn h hx hg1 hy hg2 hb hm next
end
def allI (w : World) : Imm := fun b o => ∃ c, w.cell? ⟨b, o, none⟩ = some c
theorem allI_ok (w : World) : WOk w.heap.size (allI w) w := ⟨Nat.le_refl _, fun _ _ h => h⟩
section
variable {H : Type} {enc : TypeId × Value → H} {P : Program} {w : World} {base : Nat} {spare : Nat → Bool} {held : Bool}
def Reads (enc : TypeId × Value → H) (P : Program) (w : World) (base : Nat) (spare : Nat → Bool) (held : Bool) (n : Nat) (t : TypeId) {α : Type} (e : α → List AV) : Prop :=
 ∀ fuel, fuel ≤ n → ∀ cs x, DataW.trod enc P w base spare held fuel t cs = some x → ∃ y : α, RelL (allI w) w (e y) cs
theorem Reads.le {n m : Nat} {t : TypeId} {α : Type} {e : α → List AV} (h : Reads enc P w base spare held n t e) (hm : m ≤ n) : Reads enc P w base spare held m t e := fun f hf => h f (Nat.le_trans hf hm)
theorem reads_int {n : Nat} {t : TypeId} (ht : P.underlying t = some (.int .i64)) : Reads enc P w base spare held n t (fun q : Int => [AV.i q]) := fun fuel _ cs x h => by
 obtain ⟨q, rfl, _⟩ := DataW.trod_int ht h
 exact ⟨q, .cons _ _ _ _ (.val _) .nil⟩
theorem cells_all {b o : Nat} : ∀ {xs : List AV} {cs : List Value}, RelL (allI w) w xs cs → (∀ i, i < cs.length → w.cell? ⟨b, o + i, none⟩ = cs[i]?) → Cells (allI w) w b o xs
 | [], cs, _, _ => .nil _ _
 | x :: xs, cs, h, hc => by
  cases h with
  | cons _ v _ vs hx ht =>
   have h0 := hc 0 Ys
   simp at h0
   exact .cons _ _ _ _ _ h0 ⟨v, h0⟩ hx (cells_all ht fun i hi => by
    have := hc (i + 1) YE
    rw [Nat.add_assoc, Nat.add_comm 1 i]; simpa using this)
theorem reads_slice {n k : Nat} {t e : TypeId} {α : Type} {en : α → List AV} (ht : P.underlying t = some (.slice e)) (hk : P.cellsOf e = k) (hk0 : 0 < k) (hen : ∀ y, (en y).length = k) (he : Reads enc P w base spare held n e en) :
  Reads enc P w base spare held (n + 1) t (fun l : List α => [AV.sl k (l.map en)]) := fun fuel hf cs x h => by
 rcases DataW.trod_slice ht h with ⟨rfl, _⟩ | ⟨a, len, cap, elems, rest, m, rfl, rfl, rfl, hb, hc, hm, hl, hget, _⟩
 ·exact ⟨[], .cons _ _ _ _ (.sl0 _ _ _) .nil⟩
 ·have key : ∀ j, j ≤ len → ∃ l : List α, l.length = j ∧ (j = 0 ∨ a.spot = none) ∧ Els (allI w) w k a.block a.off (l.map en) := by
   intro j
   induction j with
   | zero => intro _; exact ⟨[], rfl, .inl rfl, .nil _ _ _⟩
   | succ j ih =>
    intro hj
    obtain ⟨l, h1, h2, h3⟩ := ih Yb
    have hg := hget j Yb
    rw [List.getElem?_eq_getElem Yb] at hg
    obtain ⟨cs', h4, h5⟩ := Option.bind_eq_some_iff.1 hg
    obtain ⟨h6, h7, h8⟩ := World.cells?_some h4
    obtain ⟨y, hy⟩ := he m Yb cs' _ h5
    have hlen : cs'.length = k := by rw [h7, hk]
    have hsp : a.spot = none := by
     by_cases hj0 : j = 0
     ·have h9 := h8 0 Yb
      rw [List.getElem?_eq_getElem Yb, hj0, Nat.zero_mul] at h9
      have e3 : (a.add 0).add 0 = a := by simp [Addr.add]
      rw [e3] at h9
      cases hs : a.spot with
      | none => rfl
      | some q =>
       exfalso
       unfold World.cell? at h9
       rw [hs] at h9
       split at h9 <;> simp at h9
     ·exact h2.resolve_left Yb
    refine ⟨l ++ [y], by simp [h1], .inr hsp, ?_⟩
    rw [List.map_append]
    have hcl : Cells (allI w) w a.block (a.off + j * k) (en y) := cells_all hy fun i hi => by
     have h9 := h8 i Yb
     have e2 : (a.add (j * P.cellsOf e)).add i = ⟨a.block, a.off + j * k + i, none⟩ := by
      rw [Addr.add_add, hk]
      unfold Addr.add
      split
      ·obtain ⟨ab, ao, asp⟩ := a
       simp at hsp; subst hsp; simp; omega
      ·simp <;> omega
     rw [e2] at h9; exact h9
    exact h3.append (.cons _ _ _ _ _ (hen y) (by rw [List.length_map, h1]; exact hcl) (.nil _ _ _))
  obtain ⟨l, h1, h2, h3⟩ := key len (Nat.le_refl _)
  refine ⟨l, .cons _ _ _ _ ?_ .nil⟩
  rcases h2 with h2 | h2
  ·have : l = [] := List.eq_nil_of_length_eq_zero Yb
   subst this h2
   exact .sl0 _ _ _
  ·obtain ⟨b, o, sp⟩ := a
   simp at h2; subst h2
   exact .sl _ _ _ _ _ _ (by simp [h1]) hc hm h3
theorem relL_join {I : Imm} {xs ys : List AV} {cs : List Value} {a n m : Nat} (h1 : RelL I w xs ((cs.drop a).take n)) (h2 : RelL I w ys ((cs.drop (a + n)).take m)) : RelL I w (xs ++ ys) ((cs.drop a).take (n + m)) := by
 rw [List.take_add, List.drop_drop]; exact h1.append h2
theorem rel_agg {I : Imm} {xs : List AV} {v : Value} (h : RelL I w xs v.cells.toList) (hn : xs.length ≠ 1) : Rel I w (.agg xs) v := by
 have hl := h.length
 cases v with
 | agg vs => exact .agg _ _ h
 | _ => simp [Value.cells] at hl; omega
end
theorem args_stay {H : Type} {enc : TypeId × Value → H} {P : Program} (hl : laidOutB P = true) {W W' : World} (hb : Below W.heap.size W W') {sp : Nat → Bool} :
  ∀ {ts : List TypeId} {vs : List Value} {ds : List (DataW H)} {ps : List MemPlace}, (∀ t ∈ ts, P.readableRec t = true ∧ t < P.types.size) → DataW.TrodAll enc P W 0 (fun _ => true) true ts vs ds ps →
   (∀ p ∈ ps, p.block < W.heap.size) → (∀ p ∈ ps, sp p.block = true) → DataW.TrodAll enc P W' 0 sp true ts vs ds ps
 | [], vs, ds, ps, _, h, _, _ => by
  obtain ⟨rfl, rfl, rfl⟩ := trodAll_nil h
  exact h
 | t :: ts, vs, ds, ps, ht, h, h1, h2 => by
  obtain ⟨v, vs1, d, ds1, a, b, rfl, rfl, rfl, h3, h4⟩ := trodAll_cons h
  have hr := ht t (.head _)
  exact ⟨a, b, Go.WideElems.Trod_stays hl hr.1 hr.2 h3 (fun p hp => hb.same (h1 p (List.mem_append_left _ hp))) (fun p hp => h2 p (List.mem_append_left _ hp)),
   args_stay hl hb (fun t' ht' => ht t' (.tail _ ht')) h4 (fun p hp => h1 p (List.mem_append_right _ hp)) (fun p hp => h2 p (List.mem_append_right _ hp)), rfl⟩
structure Bulk {H : Type} (sz : DataW H → Nat) : Prop where
 len : ∀ es sp, es.length ≤ sz (.slice es sp)
 el : ∀ es sp, ∀ e ∈ es, sz e ≤ sz (.slice es sp)
 ag : ∀ ps, ∀ e ∈ ps, sz e ≤ sz (.agg ps)
section
variable {H : Type} {enc : TypeId × Value → H} {P : Program} {w : World} {base : Nat} {spare : Nat → Bool} {held : Bool}
def ReadsB (enc : TypeId × Value → H) (P : Program) (w : World) (base : Nat) (spare : Nat → Bool) (held : Bool) (sz : DataW H → Nat) (n : Nat) (t : TypeId) {α : Type} (e : α → List AV) (Q : α → Nat → Prop) : Prop :=
 ∀ fuel, fuel ≤ n → ∀ cs x, DataW.trod enc P w base spare held fuel t cs = some x → ∃ y : α, RelL (allI w) w (e y) cs ∧ Q y (sz x.1)
theorem Reads.b {sz : DataW H → Nat} {n : Nat} {t : TypeId} {α : Type} {e : α → List AV} (h : Reads enc P w base spare held n t e) : ReadsB enc P w base spare held sz n t e (fun _ _ => True) := fun f hf cs x hx =>
 let ⟨y, hy⟩ := h f hf cs x hx; ⟨y, hy, trivial⟩
theorem ReadsB.le {sz : DataW H → Nat} {n m : Nat} {t : TypeId} {α : Type} {e : α → List AV} {Q : α → Nat → Prop} (h : ReadsB enc P w base spare held sz n t e Q) (hm : m ≤ n) : ReadsB enc P w base spare held sz m t e Q := fun f hf => h f (Nat.le_trans hf hm)
theorem readsB_slice {sz : DataW H → Nat} (hB : Bulk sz) {n k : Nat} {t e : TypeId} {α : Type} {en : α → List AV} {Q : α → Nat → Prop} (hQ : ∀ y a b, a ≤ b → Q y a → Q y b) (ht : P.underlying t = some (.slice e)) (hk : P.cellsOf e = k) (hk0 : 0 < k) (hen : ∀ y, (en y).length = k) (he : ReadsB enc P w base spare held sz n e en Q) :
  ReadsB enc P w base spare held sz (n + 1) t (fun l : List α => [AV.sl k (l.map en)]) (fun l b => l.length ≤ b ∧ ∀ y ∈ l, Q y b) := fun fuel hf cs x h => by
 rcases DataW.trod_slice ht h with ⟨rfl, _⟩ | ⟨a, len, cap, elems, rest, m, rfl, rfl, rfl, hb, hc, hm, hl, hget, _⟩
 ·exact ⟨[], .cons _ _ _ _ (.sl0 _ _ _) .nil, Nat.zero_le _, fun y hy => by cases hy⟩
 ·have key : ∀ j, j ≤ len → ∃ l : List α, l.length = j ∧ (j = 0 ∨ a.spot = none) ∧ Els (allI w) w k a.block a.off (l.map en) ∧ ∀ y ∈ l, Q y (sz (.slice (elems.map (·.1)) (rest.map (·.1)))) := by
   intro j
   induction j with
   | zero => intro _; exact ⟨[], rfl, .inl rfl, .nil _ _ _, fun y hy => by cases hy⟩
   | succ j ih =>
    intro hj
    obtain ⟨l, h1, h2, h3, hq⟩ := ih Yb
    have hg := hget j Yb
    rw [List.getElem?_eq_getElem Yb] at hg
    obtain ⟨cs', h4, h5⟩ := Option.bind_eq_some_iff.1 hg
    obtain ⟨h6, h7, h8⟩ := World.cells?_some h4
    obtain ⟨y, hy, hyq⟩ := he m Yb cs' _ h5
    have hlen : cs'.length = k := by rw [h7, hk]
    have hsp : a.spot = none := by
     by_cases hj0 : j = 0
     ·have h9 := h8 0 Yb
      rw [List.getElem?_eq_getElem Yb, hj0, Nat.zero_mul] at h9
      have e3 : (a.add 0).add 0 = a := by simp [Addr.add]
      rw [e3] at h9
      cases hs : a.spot with
      | none => rfl
      | some q =>
       exfalso
       unfold World.cell? at h9
       rw [hs] at h9
       split at h9 <;> simp at h9
     ·exact h2.resolve_left Yb
    refine ⟨l ++ [y], by simp [h1], .inr hsp, ?_, fun z hz => ?_⟩
    rotate_left
    ·rcases List.mem_append.1 hz with hz | hz
     ·exact hq z hz
     ·simp at hz; subst hz
      exact hQ _ _ _ (hB.el _ _ _ (List.mem_map.2 ⟨_, List.getElem_mem _, rfl⟩)) hyq
    rw [List.map_append]
    have hcl : Cells (allI w) w a.block (a.off + j * k) (en y) := cells_all hy fun i hi => by
     have h9 := h8 i Yb
     have e2 : (a.add (j * P.cellsOf e)).add i = ⟨a.block, a.off + j * k + i, none⟩ := by
      rw [Addr.add_add, hk]
      unfold Addr.add
      split
      ·obtain ⟨ab, ao, asp⟩ := a
       simp at hsp; subst hsp; simp; omega
      ·simp <;> omega
     rw [e2] at h9; exact h9
    exact h3.append (.cons _ _ _ _ _ (hen y) (by rw [List.length_map, h1]; exact hcl) (.nil _ _ _))
  obtain ⟨l, h1, h2, h3, hq⟩ := key len (Nat.le_refl _)
  refine ⟨l, .cons _ _ _ _ ?_ .nil, by have h9 := hB.len (elems.map (·.1)) (rest.map (·.1)); rw [List.length_map] at h9; exact Nat.le_trans Yb h9, hq⟩
  rcases h2 with h2 | h2
  ·have : l = [] := List.eq_nil_of_length_eq_zero Yb
   subst this h2
   exact .sl0 _ _ _
  ·obtain ⟨b, o, sp⟩ := a
   simp at h2; subst h2
   exact .sl _ _ _ _ _ _ (by simp [h1]) hc hm h3
end
theorem Del.perm {H H' : List Ent} {e : Ent} (h : Del H e H') : H.Perm (e :: H') := by
 induction h with
 | head => exact .refl _
 | tail f e H H' _ ih => exact (ih.cons f).trans (.swap _ _ _)
theorem HeapOk.turn {B : Nat} {I : Imm} {w : World} {H H' : List Ent} {e e' : Ent} (h : HeapOk B I w H) (hu : Upd H e e' H') (hok : e.ok B I w → e'.ok B I w) (hft : ∀ b, e'.foot = some b → e.foot = some b) : HeapOk B I w H' :=
 h.upd hu ⟨fun _ _ x => x, fun _ _ _ => rfl⟩ (fun _ _ _ => rfl) (fun _ _ x => .inl x) (hok (h.ok _ hu.mem)) (fun b hb => .inl (hft b hb))
theorem Ent.row_blk {B : Nat} {I : Imm} {w : World} {t k n : Nat} {v : Value} {cs : List AV} (hn : n ≠ 0) (h : Ent.ok B I w (.row t k v n cs)) :
  ∃ b cap more, v = .slice (some ⟨b, 0, none⟩) n cap ∧ n ≤ cap ∧ cap ≤ maxLen ∧ (cs ++ more).length = cap * k ∧ cs.length = n * k ∧ Ent.ok B I w (.blk b t (cs ++ more)) := by
 obtain ⟨xs, hrow, hr, hni⟩ := h
 rcases hrow.2 with ⟨rfl, h0⟩ | ⟨g, cap, cur, rfl, hBg, hg, hnc, hcm, hcs, htk⟩
 ·exact absurd h0 hn
 ·have hlen := hr.length
  have hx := hrow.1
  have hle : n * k ≤ cur.size := by rw [hcs]; exact Nat.mul_le_mul_right k hnc
  refine ⟨g, cap, (cur.toList.drop (n * k)).map .val, rfl, hnc, hcm, ?_, Yb, hBg, cur, hg, ?_, fun o => hni g rfl o⟩
  ·have hz : cs.length = n * k := by omega
   have hy : cur.toList.length = cap * k := hcs
   rw [List.length_append, List.length_map, List.length_drop, hz, hy, Nat.add_sub_cancel' (hcs ▸ hle)]
  ·have h2 := hr.append (relL_val (I := I) (w := w) (cur.toList.drop (n * k)))
   rw [← htk] at h2
   rwa [List.take_append_drop] at h2
section
variable {c : Ctx} {r : Option Nat} {P : Program} {ops : Array Oper} {l rest : List Oper} {o : Oper} {env : List (Nat × AV)} {H : List Ent} {Q : Exit → Act → World → Prop} {d : Nat}
theorem CW.rowBlk {p : Code} {t k n : Nat} {v : Value} {cs : List AV} {H' : Nat → Nat → List AV → List Ent} (hn : n ≠ 0) (hu : ∀ b cap more, Upd H (.row t k v n cs) (.blk b t (cs ++ more)) (H' b cap more))
  (h : ∀ b cap more, v = .slice (some ⟨b, 0, none⟩) n cap → n ≤ cap → cap ≤ maxLen → (cs ++ more).length = cap * k → cs.length = n * k → CW c r P p ⟨env, H' b cap more⟩ Q) : CW c r P p ⟨env, H⟩ Q := fun a w s => by
 obtain ⟨I, hw, he, hh, hv⟩ := s.mem
 obtain ⟨b, cap, more, e1, e2, e3, e4, e5, e6⟩ := Ent.row_blk hn (hh.ok _ (hu 0 0 []).mem)
 refine h b cap more e1 e2 e3 e4 e5 a w ⟨s.ds, s.size, I, hw, he, hh.turn (hu b cap more) (fun _ => e6) (fun x hx => ?_), hv⟩
 subst e1; exact hx
theorem Sat.freezeRow {t k : Nat} {v : Value} {els : List (List AV)} {H' : List Ent} {a : Act} {w : World} (s : Sat c ⟨env, H⟩ a w) (hd : envGet env d = some (.val v)) (hD : Del H (.row t k v els.length els.flatten) H') (hk : ∀ e ∈ els, e.length = k) : Sat c ⟨(d, .sl k els) :: env, H'⟩ a w := by
 obtain ⟨I, hw, he, hh, hv⟩ := s.mem
 obtain ⟨J, j1, j2, j3, j4⟩ := HeapOk.freezeRow hw (hh.perm hD.perm) hk
 refine ⟨s.ds, s.size, J, j1, he.trans j2, j3, fun t x hx => ?_⟩
 rw [envGet_cons] at hx
 split at hx
 ·rename_i e; cases hx; subst e; rw [rel_val (hv _ _ hd)]; exact j4
 ·exact (hv t x hx).keep j2.keeps
theorem CW.freezeRow {p : Code} {t k : Nat} {v : Value} {els : List (List AV)} {H' : List Ent} (hd : envGet env d = some (.val v)) (hD : Del H (.row t k v els.length els.flatten) H') (hk : ∀ e ∈ els, e.length = k)
  (h : CW c r P p ⟨(d, .sl k els) :: env, H'⟩ Q) : CW c r P p ⟨env, H⟩ Q := fun a w s => h a w (s.freezeRow hd hD hk)
theorem Done.freezeRow {ex : Exit} {t k : Nat} {v : Value} {els : List (List AV)} {H' : List Ent} (hd : envGet env d = some (.val v)) (hD : Del H (.row t k v els.length els.flatten) H') (hk : ∀ e ∈ els, e.length = k)
  (h : Done c ⟨(d, .sl k els) :: env, H'⟩ ex Q) : Done c ⟨env, H⟩ ex Q := fun a w s => h a w (s.freezeRow hd hD hk)
end
end Go.Eng
