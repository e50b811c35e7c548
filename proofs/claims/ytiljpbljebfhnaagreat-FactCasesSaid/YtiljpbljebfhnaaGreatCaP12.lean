/- The engine, part 26: operations in whatever order, of which one writes a variable that others have read. No condition: general lemmas over any program. -/
import Derived.Test.YtiljpbljebfhnaaGreatCaP11

set_option linter.unusedVariables false
set_option linter.unusedSimpArgs false
namespace Go.Eng
open Go.RowKit (Below)

def segChkW (l : List Oper) (k m dW : Nat) : Bool :=
  let ms := masks l []
  (l.zipIdx.all fun p => (deps p.1).all fun j => Nat.blt j p.2) &&
  (l.zipIdx.all fun p => Nat.blt p.2 m || (List.range m).all fun j => Nat.blt j k || (ms.getD p.2 0).testBit j) &&
  ((l.take m).zipIdx.all fun p => Nat.blt p.2 k || ((l.take m).zipIdx.all fun q => match q.1.dst with
    | some d => (Nat.beq p.2 q.2 || Nat.blt q.2 k || !(match p.1.dst with | some d' => Nat.beq d d' | none => false)) && (!((looks l p.1).any (Nat.beq d)) || Nat.beq d dW || Nat.blt q.2 k || (Nat.blt q.2 p.2 && (ms.getD p.2 0).testBit q.2))
    | none => true))

structure SegOkW (l : List Oper) (k m dW : Nat) : Prop where
  back : ∀ i o, l[i]? = some o → ∀ j ∈ deps o, j < i
  tail : ∀ i, m ≤ i → i < l.length → ∀ j, k ≤ j → j < m → ((masks l []).getD i 0).testBit j = true
  apart : ∀ i oi j oj d, k ≤ i → i < m → l[i]? = some oi → k ≤ j → j < m → l[j]? = some oj → oj.dst = some d → i ≠ j → oi.dst ≠ some d
  looked : ∀ i oi j oj d, d ≠ dW → k ≤ i → i < m → l[i]? = some oi → k ≤ j → j < m → l[j]? = some oj → oj.dst = some d → d ∈ looks l oi → j < i ∧ ((masks l []).getD i 0).testBit j = true

theorem segOkW_of {l : List Oper} {k m dW : Nat} (h : segChkW l k m dW = true) : SegOkW l k m dW := by
  simp only [segChkW, Bool.and_eq_true, List.all_eq_true] at h
  obtain ⟨⟨h1, h2⟩, h3⟩ := h
  have key : ∀ i oi j oj d, k ≤ i → i < m → l[i]? = some oi → k ≤ j → j < m → l[j]? = some oj → oj.dst = some d → (i = j ∨ oi.dst ≠ some d) ∧ (d ≠ dW → d ∈ looks l oi → j < i ∧ ((masks l []).getD i 0).testBit j = true) := by
    intro i oi j oj d hki hi hoi hkj hj hoj hd
    have hti : (l.take m)[i]? = some oi := by rw [List.getElem?_take, if_pos hi]; exact hoi
    have htj : (l.take m)[j]? = some oj := by rw [List.getElem?_take, if_pos hj]; exact hoj
    have h4 := h3 _ (mem_zipIdx_of hti)
    simp only [Bool.or_eq_true, List.all_eq_true] at h4
    have nk : ∀ x, k ≤ x → ¬ Nat.blt x k = true := fun x hx hb => by
      have := Nat.lt_of_succ_le (by simpa [Nat.blt] using hb); omega
    rcases h4 with h4 | h4
    · exact absurd h4 (nk i hki)
    have := h4 _ (mem_zipIdx_of htj)
    simp only [hd, Bool.and_eq_true, Bool.or_eq_true, Bool.not_eq_true'] at this
    obtain ⟨ha, hb⟩ := this
    refine ⟨?_, fun hdw hm => ?_⟩
    · rcases ha with (ha | ha) | ha
      · exact .inl (Nat.eq_of_beq_eq_true ha)
      · exact absurd ha (nk j hkj)
      · refine .inr fun e => ?_
        rw [e] at ha
        simp at ha
    · rcases hb with ((hb | hb) | hb) | hb
      · exfalso
        rw [List.any_eq_false] at hb
        exact hb d hm (by simp)
      · exact absurd (Nat.eq_of_beq_eq_true hb) hdw
      · exact absurd hb (nk j hkj)
      · exact ⟨Nat.lt_of_succ_le (by simpa [Nat.blt] using hb.1), hb.2⟩
  refine ⟨fun i o ho j hj => ?_, fun i hi hl j hkj hj => ?_, fun i oi j oj d hki hi hoi hkj hj hoj hd hne => ?_, fun i oi j oj d hdw hki hi hoi hkj hj hoj hd hm => (key i oi j oj d hki hi hoi hkj hj hoj hd).2 hdw hm⟩
  · have := h1 _ (mem_zipIdx_of ho) j hj
    exact Nat.lt_of_succ_le (by simpa [Nat.blt] using this)
  · have := h2 _ (mem_zipIdx_of (List.getElem?_eq_getElem hl))
    simp only [Bool.or_eq_true] at this
    rcases this with h | h
    · have : i < m := Nat.lt_of_succ_le (by simpa [Nat.blt] using h)
      omega
    · rw [List.all_eq_true] at h
      have := h j (by simpa using hj)
      simp only [Bool.or_eq_true] at this
      rcases this with h | h
      · have : j < k := Nat.lt_of_succ_le (by simpa [Nat.blt] using h)
        omega
      · exact h
  · rcases (key i oi j oj d hki hi hoi hkj hj hoj hd).1 with h | h
    · exact absurd h hne
    · exact h


section
variable {c : Ctx} {r : Option Nat} {P : Program} {l : List Oper} {st : St} {Q : Exit → Act → World → Prop}
/-- operations that come in whatever order, upon which all that are left wait -/
theorem DP.anyW {k m : Nat} {Hs : Nat → Mem} {ss : List Nat} (dW : Nat) (hst : envGet st.env dW = some .any) (hchk : segChkW l k m dW = true) (hss : ssChk ss k m = true) (hkm : k ≤ m) (hml : m ≤ l.length) (hlk : (l.all fun o => (looks l o).all fun t => Nat.blt t c.n) = true) {env0 : List (Nat × AV)} (hE : ∀ a w I, EnvOk I w (envGet env0) a → EnvOk I w (envGet st.env) a) (hH : ∀ a w I, HeapOk c.B I w st.H → EnvOk I w (envGet env0) a → Hs 0 c.B a I w)
    (h : TD P Hs l ss c.n k ((l.drop k).take (m - k)) st.env fun env => envGet env dW = some .any ∧ ∀ a w I, a.defers = c.ds → a.tmps.size = c.n → WOk c.B I w → Ext c.B c.I0 c.w0 I w → Hs ss.length c.B a I w → EnvOk I w (envGet env) a → KD c r P l Q m a w) : DP c r P l Q k ⟨env0, st.H⟩ := by
  have ok := segOkW_of hchk
  obtain ⟨hsr, hnd⟩ := ssChk_of hss
  obtain ⟨xs, hxl, ⟨hdW, htail⟩, hspec⟩ := TD_spec _ _ _ _ h
  have hxm : xs.length = m - k := by rw [hxl, List.length_take, List.length_drop]; omega
  generalize hS : (l.drop k).take (m - k) = S at *
  have takeAt : ∀ (i : Nat) (o : Oper), S[i]? = some o ↔ i < m - k ∧ l[k + i]? = some o := by
    intro i o
    rw [← hS, List.getElem?_take]
    by_cases hi : i < m - k
    · rw [if_pos hi, List.getElem?_drop]; simp [hi]
    · rw [if_neg hi]; simp [hi]
  generalize hF : puts st.env S xs = envF at htail hdW
  have hlook : ∀ (i : Nat) (o : Oper), l[i]? = some o → ∀ t ∈ looks l o, t < c.n := by
    intro i o ho t ht
    simp only [List.all_eq_true] at hlk
    have := hlk o (List.mem_of_getElem? ho) t ht
    exact Nat.lt_of_succ_le (by simpa [Nat.blt] using this)
  have fin : ∀ (i : Nat) (o : Oper) (x : AV), i < m - k → l[k + i]? = some o → xs[i]? = some x → TOk P Hs l ss (k + i) envF o x ∧ dstOk c.n o.dst = true := by
    intro i o x hi ho hx
    obtain ⟨h1, h2⟩ := hspec i o x ((takeAt i o).2 ⟨hi, ho⟩) hx
    refine ⟨?_, h2⟩
    have same : ∀ t ∈ looks l o, envGet (puts st.env (S.take i) (xs.take i)) t = envGet envF t := by
      intro t ht
      by_cases htW : t = dW
      · subst htW
        rw [hdW]
        by_cases hw : ∃ (j : Nat) (o' : Oper), j < i ∧ S[j]? = some o' ∧ o'.dst = some t
        · obtain ⟨j, o', hji, hoj, hdj⟩ := hw
          obtain ⟨hjm, hoj'⟩ := (takeAt _ _).1 hoj
          have hxj : xs[j]? = some xs[j] := List.getElem?_eq_getElem (by omega)
          have e1 : envGet (puts st.env S xs) t = some xs[j] := puts_at S xs st.env j t o' _ hoj hxj hdj (fun q oq hoq eq => by
            obtain ⟨hqm, hoq'⟩ := (takeAt _ _).1 hoq
            rcases Nat.decEq q j with hne | he
            · exact absurd hdj (ok.apart (k + j) o' (k + q) oq t (by omega) (by omega) hoj' (by omega) (by omega) hoq' eq (by omega))
            · exact he)
          have e2 : envGet (puts st.env (S.take i) (xs.take i)) t = some xs[j] := puts_at (S.take i) (xs.take i) st.env j t o' _ (by rw [List.getElem?_take, if_pos hji]; exact hoj) (by rw [List.getElem?_take, if_pos hji]; exact hxj) hdj (fun q oq hoq eq => by
            rw [List.getElem?_take] at hoq
            split at hoq
            · obtain ⟨hqm, hoq'⟩ := (takeAt _ _).1 hoq
              rcases Nat.decEq q j with hne | he
              · exact absurd hdj (ok.apart (k + j) o' (k + q) oq t (by omega) (by omega) hoj' (by omega) (by omega) hoq' eq (by omega))
              · exact he
            · cases hoq)
          rw [e2, ← e1, hF, hdW]
        · rw [puts_other _ _ _ _ (fun q oq hoq eq => by
            rw [List.getElem?_take] at hoq
            split at hoq
            · rename_i hq; exact hw ⟨q, oq, hq, hoq, eq⟩
            · cases hoq), hst]
      rw [← hF, puts_split i S xs st.env hxl]
      symm
      apply puts_other
      intro j o' ho' e
      rw [List.getElem?_drop] at ho'
      obtain ⟨hj, hoj⟩ := (takeAt _ _).1 ho'
      have := (ok.looked (k + i) o (k + (i + j)) o' t htW (by omega) (by omega) ho (by omega) (by omega) hoj e ht).1
      omega
    exact fun j hj1 hj2 => (h1 j hj1 hj2).congr same
  have finAt : ∀ (i : Nat) (o : Oper) (x : AV) (t : Nat), i < m - k → l[k + i]? = some o → xs[i]? = some x → o.dst = some t → envGet envF t = some x := by
    intro i o x t hi ho hx hd
    rw [← hF]
    refine puts_at S xs st.env i t o x ((takeAt i o).2 ⟨hi, ho⟩) hx hd (fun j o' ho' e => ?_)
    obtain ⟨hj, hoj⟩ := (takeAt _ _).1 ho'
    rcases Nat.decEq j i with hne | he
    · exact absurd hd (ok.apart (k + i) o (k + j) o' t (by omega) (by omega) ho (by omega) (by omega) hoj e (by omega))
    · exact he
  have finOther : ∀ t, (∀ (i : Nat) (o : Oper), i < m - k → l[k + i]? = some o → o.dst ≠ some t) → envGet envF t = envGet st.env t := by
    intro t ht
    rw [← hF]
    exact puts_other _ _ _ _ fun i o ho => let ⟨h1, h2⟩ := (takeAt i o).1 ho; ht i o h1 h2
  have main : ∀ (cnt fuel : Nat) (listed : Array Bool) (a : Act) (w : World) (I : Imm), listed.size = l.length → (cnt = (List.range m).countP fun i => !listed.getD i false) → cnt + (l.length - m) ≤ fuel → Closed l (fun i => listed.getD i false = true) →
      (∀ i, i < k → listed.getD i false = true) → (∀ i, listed.getD i false = true → i < m) → a.defers = c.ds → a.tmps.size = c.n → WOk c.B I w → Ext c.B c.I0 c.w0 I w → Hs (ss.countP fun s => listed.getD s false) c.B a I w →
      (∀ t x, envGet envF t = some x → (∀ (i : Nat) (o : Oper), i < m - k → l[k + i]? = some o → o.dst = some t → listed.getD (k + i) false = true) → Rel I w x (a.tmps.getD t undef)) →
      wpAnyIn (FW r) 0 P .any l.toArray Q fuel listed a w := by
    intro cnt
    induction cnt with
    | zero =>
      intro fuel listed a w I hsz hf hfu hcl hlk' hlm hd hts hw he hh hv
      have hall : ∀ i, i < m → listed.getD i false = true := by
        intro i hi
        have := List.countP_eq_zero.1 hf.symm i (by simpa using hi)
        simpa using this
      have hst : ss.countP (fun s => listed.getD s false) = ss.length := List.countP_eq_length.2 fun s hs => by simpa using hall s (hsr s hs).2
      rw [hst] at hh
      exact htail a w I hd hts hw he hh (fun t x hx => hv t x hx (fun i o hi _ _ => hall (k + i) (by omega))) fuel listed hsz (fun i => ⟨hlm i, hall i⟩) (by omega)
    | succ cnt ih =>
      intro fuel listed a w I hsz hf hfu hcl hlk' hlm hd hts hw he hh hv
      obtain ⟨fuel, rfl⟩ : ∃ f, fuel = f + 1 := ⟨fuel - 1, by omega⟩
      have hex : ∃ i, i < m ∧ listed.getD i false = false ∧ ∀ j, j < i → listed.getD j false = true := by
        have : ∃ i, i < m ∧ listed.getD i false = false := by
          refine Classical.byContradiction fun hn => ?_
          have : (List.range m).countP (fun i => !listed.getD i false) = 0 := by
            rw [List.countP_eq_zero]
            intro i hi
            simp only [List.mem_range] at hi
            cases hx : listed.getD i false with
            | true => simp
            | false => exact absurd ⟨i, hi, hx⟩ hn
          omega
        obtain ⟨i, hi⟩ := this
        induction i using Nat.strongRecOn with
        | _ i ihi =>
          by_cases hx : ∃ j, j < i ∧ listed.getD j false = false
          · obtain ⟨j, hj, hj2⟩ := hx
            exact ihi j hj ⟨by omega, hj2⟩
          · exact ⟨i, hi.1, hi.2, fun j hj => by
              cases hy : listed.getD j false with
              | true => rfl
              | false => exact absurd ⟨j, hj, hy⟩ hx⟩
      obtain ⟨i0, hi0m, hi0, hi0b⟩ := hex
      have hi0k : k ≤ i0 := by
        rcases Nat.lt_or_ge i0 k with h | h
        · rw [hlk' i0 h] at hi0; cases hi0
        · exact h
      refine ⟨fun h0 => ?_, fun i hi => ?_⟩
      · exfalso
        have hok : l[i0]? = some l[i0] := List.getElem?_eq_getElem (by omega)
        have : i0 ∈ Region.ready .any l.toArray listed := by
          rw [mem_ready]
          refine ⟨by rw [getD_true_iff (by omega)]; exact hi0, l[i0], by simp, fun e he hb => ?_⟩
          exact hi0b _ (ok.back i0 _ hok e.on (by simp only [deps, List.mem_filterMap]; exact ⟨e, by simpa using he, by simp [hb]⟩))
        rw [h0] at this; cases this
      · obtain ⟨h1, o, h2, h3⟩ := mem_ready.1 hi
        have ho : l[i]? = some o := by simpa using h2
        have hlt : i < l.length := (List.getElem?_eq_some_iff.1 ho).1
        rw [getD_true_iff (by omega)] at h1
        have hdeps : ∀ k ∈ deps o, listed.getD k false = true := by
          intro k hk
          simp only [deps, List.mem_filterMap] at hk
          obtain ⟨e, he, hb⟩ := hk
          split at hb
          · rename_i hbi; simp at hb; subst hb; exact h3 e (by simpa using he) hbi
          · cases hb
        have hms : (masks l [])[i]? = some ((masks l []).getD i 0) := by
          have : i < (masks l []).length := by rw [masks_len]; simpa using hlt
          simp [List.getD, this]
        have hanc := masks_spec l _ hcl l [] (by simp) (by simp) (by simp) i _ o hms ho hdeps
        have hik : k ≤ i := by
          rcases Nat.lt_or_ge i k with h | h
          · rw [hlk' i h] at h1; cases h1
          · exact h
        have him : i < m := by
          rcases Nat.lt_or_ge i m with h | h
          · exact h
          · have := hanc i0 (ok.tail i h hlt i0 hi0k hi0m)
            rw [hi0] at this; cases this
        obtain ⟨q, rfl⟩ : ∃ q, i = k + q := ⟨i - k, by omega⟩
        have hq : q < m - k := by omega
        have hxi : xs[q]? = some xs[q] := List.getElem?_eq_getElem (by omega)
        obtain ⟨hA, hdst⟩ := fin q o _ hq ho hxi
        have avail : ∀ t ∈ looks l o, t ≠ dW → ∀ (i' : Nat) (o' : Oper), i' < m - k → l[k + i']? = some o' → o'.dst = some t → listed.getD (k + i') false = true := fun t ht htW i' o' hi' ho' hd' => hanc _ (ok.looked (k + q) o (k + i') o' t htW hik him ho (by omega) (by omega) ho' hd' ht).2
        have hlo : loOf l ss (k + q) ≤ ss.countP fun s => listed.getD s false := by
          unfold loOf
          exact List.countP_mono_left fun s _ hs => hanc s hs
        have hhi : (ss.countP fun s => listed.getD s false) ≤ hiOf l ss (k + q) := by
          unfold hiOf
          refine List.countP_mono_left fun s hs hl => ?_
          simp only [Bool.and_eq_true, Bool.not_eq_true']
          refine ⟨?_, ?_⟩
          · cases hb : ((masks l []).getD s 0).testBit (k + q) with
            | false => rfl
            | true =>
              exfalso
              have hsl : s < l.length := by have := (hsr s hs).2; omega
              have hos : l[s]? = some l[s] := List.getElem?_eq_getElem hsl
              have hms2 : (masks l [])[s]? = some ((masks l []).getD s 0) := by
                have : s < (masks l []).length := by rw [masks_len]; simpa using hsl
                simp [List.getD, this]
              have := masks_spec l _ hcl l [] (by simp) (by simp) (by simp) s _ _ hms2 hos (fun j hj => hcl s _ hl hos j hj) (k + q) hb
              rw [h1] at this; cases this
          · cases hb : Nat.beq s (k + q) with
            | false => rfl
            | true =>
              exfalso
              rw [Nat.eq_of_beq_eq_true hb] at hl
              rw [h1] at hl; cases hl
        refine (hA _ hlo hhi).run (c := c) ho hw hh (fun t ht z hz => by
          by_cases htW : t = dW
          · subst htW; rw [hdW] at hz; cases hz; exact .any _
          · exact hv t z hz (avail t ht htW)) (fun t ht => by rw [hts]; exact hlook _ o ho t ht) (fun d' hd' => by rw [hts]; rw [hd'] at hdst; exact Nat.lt_of_succ_le (by simpa [dstOk, Nat.blt] using hdst)) ?_
        intro v w' I' hw' he' hh' hx
        have hset : ∀ j, (listed.setIfInBounds (k + q) true).getD j false = if k + q = j then true else listed.getD j false := fun j => getD_set _ _ _ (by omega)
        refine ih fuel (listed.setIfInBounds (k + q) true) _ w' I' (by simp [hsz]) ?_ (by omega) ?_ ?_ ?_ (by rw [put_defers]; exact hd) (by rw [tmps_put_size]; exact hts) hw' (he.trans he') (by rw [stage_set hset h1 hnd]; exact hh') ?_
        · have : (List.range m).countP (fun j => !listed.getD j false) = (List.range m).countP (fun j => !(listed.setIfInBounds (k + q) true).getD j false) + 1 := by
            have key : ∀ (n : Nat), (List.range n).countP (fun j => !listed.getD j false) = (List.range n).countP (fun j => !(listed.setIfInBounds (k + q) true).getD j false) + (if k + q < n then 1 else 0) := by
              intro n
              induction n with
              | zero => simp
              | succ n ihn =>
                rw [List.range_succ, List.countP_append, List.countP_append, ihn]
                simp only [List.countP_cons, List.countP_nil, Nat.zero_add, hset n]
                by_cases e : k + q = n
                · subst e
                  rw [if_neg (Nat.lt_irrefl _), if_pos (Nat.lt_succ_self _), if_pos rfl, h1]
                  simp
                · rw [if_neg e]
                  by_cases hlt' : k + q < n
                  · rw [if_pos hlt', if_pos (Nat.lt_succ_of_lt hlt')]; omega
                  · rw [if_neg hlt', if_neg (show ¬ k + q < n + 1 by omega)]; omega
            rw [key, if_pos him]
          omega
        · intro j oj hj hoj k' hk
          rw [hset]
          by_cases e : k + q = k'
          · rw [if_pos e]
          · rw [if_neg e]
            rw [hset] at hj
            by_cases e' : k + q = j
            · subst e'
              rw [ho] at hoj; cases hoj
              exact hdeps k' hk
            · rw [if_neg e'] at hj
              exact hcl j oj hj hoj k' hk
        · intro j hj
          rw [hset, if_neg (by omega)]
          exact hlk' j hj
        · intro j hj
          rw [hset] at hj
          by_cases e : k + q = j
          · omega
          · rw [if_neg e] at hj; exact hlm j hj
        · intro t x hxt hav
          by_cases hdt : o.dst = some t
          · rw [hdt]
            have : x = xs[q] := by
              have := finAt q o _ t hq ho hxi hdt
              rw [this] at hxt; exact (Option.some.inj hxt).symm
            subst this
            rw [tmps_put_same (by rw [hts]; rw [hdt] at hdst; exact Nat.lt_of_succ_le (by simpa [dstOk, Nat.blt] using hdst))]
            exact hx
          · have hold : Rel I w x (a.tmps.getD t undef) := hv t x hxt fun i' o' hi' ho' hd' => by
              have := hav i' o' hi' ho' hd'
              rw [hset] at this
              by_cases e : k + q = k + i'
              · have e2 : q = i' := by omega
                subst e2
                rw [ho] at ho'; cases ho'
                exact absurd hd' hdt
              · rw [if_neg e] at this; exact this
            have hget : (a.put o.dst v).tmps.getD t undef = a.tmps.getD t undef := by
              cases hod : o.dst with
              | none => rfl
              | some d => exact tmps_put_other (fun e => hdt (by rw [hod, e]))
            rw [hget]
            exact hold.keep he'.keeps
  intro a w s fuel listed hsz hli hfu
  obtain ⟨I, hw, he, hh, hv0⟩ := s.mem
  have hv := hE _ _ _ hv0
  have hst0 : (ss.countP fun s => listed.getD s false) = 0 := List.countP_eq_zero.2 fun s hs hl => by have := (hli s).1 hl; have := (hsr s hs).1; omega
  refine main _ fuel listed a w I hsz rfl ?_ (fun i o hi ho j hj => (hli j).2 (by have := ok.back i o ho j hj; have := (hli i).1 hi; omega)) (fun i hi => (hli i).2 hi) (fun i hi => by have := (hli i).1 hi; omega) s.ds s.size hw he (by rw [hst0]; exact hH _ _ _ hh hv0) ?_
  · have : (List.range m).countP (fun i => !listed.getD i false) ≤ m - k := by
      have e : List.range m = List.range k ++ (List.range (m - k)).map (k + ·) := by
        rw [← List.range_add]; congr 1; omega
      rw [e, List.countP_append]
      have z : (List.range k).countP (fun i => !listed.getD i false) = 0 := by
        rw [List.countP_eq_zero]; intro i hi; simp only [List.mem_range] at hi; simp [(hli i).2 hi]
      rw [z]
      have := List.countP_le_length (p := fun i => !listed.getD i false) (l := (List.range (m - k)).map (k + ·))
      simpa using this
    omega
  · intro t x hx hav
    have : envGet st.env t = some x := by
      rw [← finOther t (fun i o hi ho hd => ?_)]
      · exact hx
      · have := hav i o hi ho hd
        have := (hli (k + i)).1 this
        omega
    exact hv t x this

end
/-- memory: the variable holds one value, or another one -/
abbrev WM (H : List Ent) (x0 x1 : AV) (dW : Nat) : Nat → Mem := fun j B a I w => HeapOk B I w H ∧ match j with
  | 0 => Rel I w x0 (a.tmps.getD dW undef)
  | _ => Rel I w x1 (a.tmps.getD dW undef)
section
variable {c : Ctx} {r : Option Nat} {P : Program} {l : List Oper} {Q : Exit → Act → World → Prop}
theorem DP.anyWC {env : List (Nat × AV)} {H : List Ent} {x0 : AV} (x1 : AV) (dW e : Nat) (k m n : Nat) (h0 : envGet env dW = some x0) (hn : c.n = n) (hchk : segChkW l k m dW = true) (hss : ssChk [e] k m = true) (hkm : Nat.ble k m = true) (hml : Nat.ble m l.length = true) (hlk : (l.all fun o => (looks l o).all fun t => Nat.blt t n) = true)
    (h : TD P (WM H x0 x1 dW) l [e] c.n k ((l.drop k).take (m - k)) ((dW, .any) :: env) fun env => envGet env dW = some .any ∧ DP c r P l Q m ⟨(dW, x1) :: env, H⟩) : DP c r P l Q k ⟨env, H⟩ := by
  refine DP.anyW (Hs := WM H x0 x1 dW) (st := ⟨(dW, .any) :: env, H⟩) dW (by simp [envGet_cons]) hchk hss (Nat.le_of_ble_eq_true hkm) (Nat.le_of_ble_eq_true hml) (by rw [hn]; exact hlk) (fun a w I hv => Sat.put1 hv (.any _)) (fun a w I hh hv => ⟨hh, hv dW x0 h0⟩) (h.mono fun env' hd => ⟨hd.1, fun a w I q1 q2 q3 q4 q5 q6 => hd.2 a w ⟨q1, q2, I, q3, q4, q5.1, Sat.put1 q6 q5.2⟩⟩)
end
section
variable {P : Program} {L rest : List Oper} {n i d e : Nat} {o : Oper} {env : List (Nat × AV)} {K : List (Nat × AV) → Prop} {x : AV} {H : List Ent} {x0 x1 : AV} {dW : Nat}
theorem opsOk_put {I : Imm} {w : World} {a : Act} {o : Oper} {env : List (Nat × AV)} {d : Nat} {y : AV} (ho : OpsOk I w (envGet env) a o) (h : Rel I w y (a.tmps.getD d undef)) : OpsOk I w (envGet ((d, y) :: env)) a o := fun z hz u hu => by
  cases z with
  | tmp t =>
    simp only [aeval] at hu
    rw [envGet_cons] at hu
    split at hu
    · rename_i e
      subst e
      cases hu
      exact h
    · exact ho _ hz u hu
  | const v => exact ho _ hz u hu
  | global g => exact ho _ hz u hu
  | func f => exact ho _ hz u hu
/-- an operation that comes ahead of the writing: it may read the variable -/
theorem TD.popW0 (hh : hiOf L [e] i = 0) (hs : stp [e] i = 0) (hg : o.guard = none) (hd : o.dst = some d) (hn : Nat.blt d n = true) (hne : Nat.beq d dW = false) (h : POp P H (envGet ((dW, x0) :: env)) o x) (next : TD P (WM H x0 x1 dW) L [e] n (i + 1) rest ((d, x) :: env) K) : TD P (WM H x0 x1 dW) L [e] n i (o :: rest) env K :=
  ⟨x, fun j h1 h2 => by
    obtain rfl : j = 0 := by omega
    rw [hs]
    refine ⟨hg, fun B I w r a hw hm ho hz => ?_⟩
    refine (h B I w r a _ hw hm.1 (fun _ h => h) (opsOk_put ho hm.2)).mono (fun v w' ⟨I', a1, a2, a3, a4⟩ => ⟨I', a1, a2, ⟨a3, ?_⟩, a4⟩) (fun _ _ h => h)
    show Rel I' w' x0 ((a.put o.dst v).tmps.getD dW undef)
    rw [hd, tmps_put_other (fun e => by subst e; simp at hne)]
    exact hm.2.keep a2.keeps, dstOk_of hd hn, by rw [hd]; exact next⟩
theorem TD.popW (hs : stp [e] i = 0) (hg : o.guard = none) (hd : o.dst = some d) (hn : Nat.blt d n = true) (hne : Nat.beq d dW = false) (h : POp P H (envGet env) o x) (next : TD P (WM H x0 x1 dW) L [e] n (i + 1) rest ((d, x) :: env) K) : TD P (WM H x0 x1 dW) L [e] n i (o :: rest) env K :=
  ⟨x, fun j h1 h2 => by
    rw [hs]
    refine ⟨hg, fun B I w r a hw hm ho hz => ?_⟩
    refine (h B I w r a _ hw hm.1 (fun _ h => h) ho).mono (fun v w' ⟨I', a1, a2, a3, a4⟩ => ⟨I', a1, a2, ⟨a3, ?_⟩, a4⟩) (fun _ _ h => h)
    have e : (a.put o.dst v).tmps.getD dW undef = a.tmps.getD dW undef := by rw [hd]; exact tmps_put_other (fun e => by subst e; simp at hne)
    match j with
    | 0 => show Rel I' w' x0 _; rw [e]; exact Rel.keep a2.keeps hm.2
    | j + 1 => show Rel I' w' x1 _; rw [e]; exact Rel.keep a2.keeps hm.2, dstOk_of hd hn, by rw [hd]; exact next⟩
theorem TD.assW (hh : hiOf L [e] i = 0) (hs : stp [e] i = 1) (hg : o.guard = none) (hd : o.dst = some dW) (hn : Nat.blt dW n = true) (h : POp P H (envGet env) o x1) (next : TD P (WM H x0 x1 dW) L [e] n (i + 1) rest ((dW, .any) :: env) K) : TD P (WM H x0 x1 dW) L [e] n i (o :: rest) env K :=
  ⟨.any, fun j h1 h2 => by
    obtain rfl : j = 0 := by omega
    rw [hs]
    refine ⟨hg, fun B I w r a hw hm ho hz => ?_⟩
    refine (h B I w r a _ hw hm.1 (fun _ h => h) ho).mono (fun v w' ⟨I', a1, a2, a3, a4⟩ => ⟨I', a1, a2, ⟨a3, ?_⟩, .any _⟩) (fun _ _ h => h)
    show Rel I' w' x1 ((a.put o.dst v).tmps.getD dW undef)
    rw [hd, tmps_put_same (hz dW hd)]; exact a4, dstOk_of hd hn, by rw [hd]; exact next⟩
end
end Go.Eng
