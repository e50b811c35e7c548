/- The engine, part 5: a statement whose order Go leaves open: pure operations in whatever order, then a tail in forced order. No condition: general lemmas over any program. -/
import Derived.Test.YtiljpbljebfhnaaGreatKP1
import Derived.OrdersIn
import Derived.Deep.Upon
import Derived.RangeFuncBound

set_option linter.unusedVariables false
set_option linter.unusedSimpArgs false
set_option linter.unnecessarySimpa false
namespace Go.Eng
open Go.RowKit (Below)

/-- what must have been carried out ahead of an operation -/
def deps (o : Oper) : List Nat := o.after.toList.filterMap fun e => if Region.binds .any e then some e.on else none

def maskOf (acc : List Nat) (o : Oper) : Nat := (deps o).foldl (fun s j => s ||| 2 ^ j ||| acc.getD j 0) 0

def masks : List Oper → List Nat → List Nat
  | [], acc => acc
  | o :: r, acc => masks r (acc ++ [maskOf acc o])

theorem fold_mask (acc : List Nat) : ∀ (l : List Nat) (s j : Nat), (l.foldl (fun s j => s ||| 2 ^ j ||| acc.getD j 0) s).testBit j = true → s.testBit j = true ∨ ∃ k ∈ l, j = k ∨ (acc.getD k 0).testBit j = true
  | [], s, j, h => .inl h
  | k :: l, s, j, h => by
    rcases fold_mask acc l _ j h with h | ⟨k', hk, h⟩
    · simp only [Nat.testBit_or, Bool.or_eq_true, Nat.testBit_two_pow, decide_eq_true_eq] at h
      rcases h with (h | h) | h
      · exact .inl h
      · exact .inr ⟨k, by simp, .inl h.symm⟩
      · exact .inr ⟨k, by simp, .inr h⟩
    · exact .inr ⟨k', by simp [hk], h⟩

/-- whoever holds an operation holds what it depends on -/
def Closed (ops : List Oper) (L : Nat → Prop) : Prop := ∀ i o, L i → ops[i]? = some o → ∀ j ∈ deps o, L j

theorem masks_spec (ops : List Oper) (L : Nat → Prop) (hL : Closed ops L) : ∀ (l : List Oper) (acc : List Nat), acc.length + l.length = ops.length → (∀ k, l[k]? = ops[acc.length + k]?) →
    (∀ (i m : Nat) (o : Oper), acc[i]? = some m → ops[i]? = some o → (∀ k ∈ deps o, L k) → ∀ j, m.testBit j = true → L j) →
    ∀ (i m : Nat) (o : Oper), (masks l acc)[i]? = some m → ops[i]? = some o → (∀ k ∈ deps o, L k) → ∀ j, m.testBit j = true → L j
  | [], acc, _, _, h => h
  | o :: l, acc, hlen, hl, h => by
    refine masks_spec ops L hL l (acc ++ [maskOf acc o]) (by simp at hlen ⊢; omega) (fun k => ?_) ?_
    · have := hl (k + 1)
      simp at this
      rw [this]; congr 1; simp; omega
    · intro i m o' hi ho hd j hj
      by_cases hlt : i < acc.length
      · rw [List.getElem?_append_left hlt] at hi
        exact h i m o' hi ho hd j hj
      · have hi' : i = acc.length := by
          have := (List.getElem?_eq_some_iff.1 hi).1
          simp at this; omega
        subst hi'
        rw [List.getElem?_append_right (Nat.le_refl _)] at hi
        simp at hi; subst hi
        have ho' : o' = o := by
          have hh := hl 0
          simp at hh
          rw [← hh] at ho
          exact (Option.some.inj ho).symm
        subst ho'
        rcases fold_mask acc (deps o') 0 j hj with h0 | ⟨k, hk, h0⟩
        · simp at h0
        · rcases h0 with rfl | h0
          · exact hd j hk
          · cases hak : acc[k]? with
            | none => simp [List.getD, hak] at h0
            | some mk =>
              simp [List.getD, hak] at h0
              have hkl := (List.getElem?_eq_some_iff.1 hak).1
              have hok : ∃ ok, ops[k]? = some ok := ⟨ops[k]'(by omega), List.getElem?_eq_getElem (by omega)⟩
              obtain ⟨ok, hok⟩ := hok
              exact h k mk ok hak hok (fun k' hk' => hL k ok (hd k hk) hok k' hk') j h0

/-- the temporaries that an operation looks at -/
def looks (ops : List Oper) (o : Oper) : List Nat :=
  (o.op.operands.toList.filterMap fun | .tmp t => some t | _ => none) ++ (match o.guard with | some (g, _) => ((ops[g]?).bind (·.dst)).toList | none => [])

/-- may the first m operations come in whatever order, the others behind them in this one? -/
def drawChk (l : List Oper) (m : Nat) : Bool :=
  let ms := masks l []
  (l.zipIdx.all fun p => (deps p.1).all fun j => Nat.blt j p.2) &&
  (l.zipIdx.all fun p => Nat.blt p.2 m || (List.range p.2).all fun j => (ms.getD p.2 0).testBit j) &&
  ((l.take m).zipIdx.all fun p => l.zipIdx.all fun q => match q.1.dst with
    | some d => (Nat.beq p.2 q.2 || !(match p.1.dst with | some d' => Nat.beq d d' | none => false)) && (!((looks l p.1).any (Nat.beq d)) || (Nat.blt q.2 p.2 && (ms.getD p.2 0).testBit q.2))
    | none => true)

structure DrawOk (l : List Oper) (m : Nat) : Prop where
  back : ∀ i o, l[i]? = some o → ∀ j ∈ deps o, j < i
  tail : ∀ i, m ≤ i → i < l.length → ∀ j, j < i → ((masks l []).getD i 0).testBit j = true
  apart : ∀ i oi j oj d, i < m → l[i]? = some oi → l[j]? = some oj → oj.dst = some d → i ≠ j → oi.dst ≠ some d
  looked : ∀ i oi j oj d, i < m → l[i]? = some oi → l[j]? = some oj → oj.dst = some d → d ∈ looks l oi → j < i ∧ ((masks l []).getD i 0).testBit j = true

theorem mem_zipIdx_of {α : Type} {l : List α} {i : Nat} {x : α} (h : l[i]? = some x) : (x, i) ∈ l.zipIdx := by
  rw [List.mem_zipIdx_iff_getElem?]; exact h

theorem drawOk_of {l : List Oper} {m : Nat} (h : drawChk l m = true) : DrawOk l m := by
  simp only [drawChk, Bool.and_eq_true, List.all_eq_true] at h
  obtain ⟨⟨h1, h2⟩, h3⟩ := h
  have key : ∀ i oi j oj d, i < m → l[i]? = some oi → l[j]? = some oj → oj.dst = some d → (i = j ∨ oi.dst ≠ some d) ∧ (d ∈ looks l oi → j < i ∧ ((masks l []).getD i 0).testBit j = true) := by
    intro i oi j oj d hi hoi hoj hd
    have hti : (l.take m)[i]? = some oi := by rw [List.getElem?_take, if_pos hi]; exact hoi
    have := h3 _ (mem_zipIdx_of hti) _ (mem_zipIdx_of hoj)
    simp only [hd, Bool.and_eq_true, Bool.or_eq_true, Bool.not_eq_true'] at this
    obtain ⟨ha, hb⟩ := this
    refine ⟨?_, fun hm => ?_⟩
    · rcases ha with ha | ha
      · exact .inl (Nat.eq_of_beq_eq_true ha)
      · refine .inr fun e => ?_
        rw [e] at ha
        simp at ha
    · rcases hb with hb | hb
      · exfalso
        rw [List.any_eq_false] at hb
        exact hb d hm (by simp)
      · exact ⟨Nat.lt_of_succ_le (by simpa [Nat.blt] using hb.1), hb.2⟩
  refine ⟨fun i o ho j hj => ?_, fun i hi hl j hj => ?_, fun i oi j oj d hi hoi hoj hd hne => ?_, fun i oi j oj d hi hoi hoj hd hm => (key i oi j oj d hi hoi hoj hd).2 hm⟩
  · have := h1 _ (mem_zipIdx_of ho) j hj
    exact Nat.lt_of_succ_le (by simpa [Nat.blt] using this)
  · have := h2 _ (mem_zipIdx_of (List.getElem?_eq_getElem hl))
    simp only [Bool.or_eq_true] at this
    rcases this with h | h
    · have : i < m := Nat.lt_of_succ_le (by simpa [Nat.blt] using h)
      omega
    · rw [List.all_eq_true] at h
      exact h j (by simpa using hj)
  · rcases (key i oi j oj d hi hoi hoj hd).1 with h | h
    · exact absurd h hne
    · exact h

/-- the first operations, one by one, in the order of the text -/
def AOk (P : Program) (H : List Ent) (ops : List Oper) (env : List (Nat × AV)) (o : Oper) (y : AV) : Prop :=
  (o.guard = none ∧ POp P H (envGet env) o y) ∨
  (∃ j want d G x, o.guard = some (j, want) ∧ (ops[j]?).bind (·.dst) = some d ∧ mkG (envGet env d) want = some G ∧ (G = true → POp P H (envGet env) o x) ∧ y = .opt G x)

def AD (P : Program) (H : List Ent) (ops : List Oper) (n : Nat) : List Oper → List (Nat × AV) → (List (Nat × AV) → Prop) → Prop
  | [], env, K => K env
  | o :: rest, env, K => ∃ x, AOk P H ops env o x ∧ dstOk n o.dst = true ∧ AD P H ops n rest (putEnv o.dst x env) K

def puts : List (Nat × AV) → List Oper → List AV → List (Nat × AV)
  | env, o :: r, x :: xs => puts (putEnv o.dst x env) r xs
  | env, _, _ => env

theorem AD_spec {P : Program} {H : List Ent} {ops : List Oper} {n : Nat} : ∀ (l : List Oper) (env : List (Nat × AV)) (K : List (Nat × AV) → Prop), AD P H ops n l env K →
    ∃ xs : List AV, xs.length = l.length ∧ K (puts env l xs) ∧ ∀ i o x, l[i]? = some o → xs[i]? = some x → AOk P H ops (puts env (l.take i) (xs.take i)) o x ∧ dstOk n o.dst = true
  | [], env, K, h => ⟨[], rfl, h, by simp⟩
  | o :: l, env, K, ⟨x, h1, h2, h3⟩ => by
    obtain ⟨xs, hl, hK, hx⟩ := AD_spec l _ K h3
    refine ⟨x :: xs, by simp [hl], hK, fun i o' x' ho' hx' => ?_⟩
    cases i with
    | zero =>
      simp at ho' hx'
      subst ho'; subst hx'
      exact ⟨h1, h2⟩
    | succ i =>
      simp at ho' hx'
      exact hx i o' x' ho' hx'

theorem envGet_putEnv {dst : Option Nat} {x : AV} {env : List (Nat × AV)} {t : Nat} : envGet (putEnv dst x env) t = if dst = some t then some x else envGet env t := by
  cases dst with
  | none => simp [putEnv]
  | some d =>
    simp only [putEnv, envGet_cons, Option.some.injEq]
    by_cases h : t = d
    · subst h; simp
    · rw [if_neg h, if_neg (Ne.symm h)]

/-- a temporary that nobody writes keeps what it stood for -/
theorem puts_other : ∀ (l : List Oper) (xs : List AV) (env : List (Nat × AV)) (t : Nat), (∀ (i : Nat) (o : Oper), l[i]? = some o → o.dst ≠ some t) → envGet (puts env l xs) t = envGet env t
  | [], _, _, _, _ => by simp [puts]
  | o :: l, [], _, _, _ => by simp [puts]
  | o :: l, x :: xs, env, t, h => by
    rw [puts, puts_other l xs _ t (fun i o' ho' => h (i + 1) o' (by simpa using ho')), envGet_putEnv, if_neg (h 0 o (by simp))]

theorem puts_at : ∀ (l : List Oper) (xs : List AV) (env : List (Nat × AV)) (i t : Nat) (o : Oper) (x : AV), l[i]? = some o → xs[i]? = some x → o.dst = some t → (∀ j o', l[j]? = some o' → o'.dst = some t → j = i) → envGet (puts env l xs) t = some x
  | [], _, _, i, _, _, _, h, _, _, _ => by simp at h
  | o :: l, [], _, i, _, _, _, _, h, _, _ => by simp at h
  | o :: l, y :: xs, env, 0, t, o', x, ho, hx, hd, hu => by
    simp at ho hx; subst ho; subst hx
    rw [puts, puts_other l xs _ t (fun i o' ho' e => by have := hu (i + 1) o' (by simpa using ho') e; omega), envGet_putEnv, if_pos hd]
  | o :: l, y :: xs, env, i + 1, t, o', x, ho, hx, hd, hu => by
    rw [puts]
    exact puts_at l xs _ i t o' x (by simpa using ho) (by simpa using hx) hd (fun j o2 h2 e => by have := hu (j + 1) o2 (by simpa using h2) e; omega)

theorem puts_split : ∀ (i : Nat) (l : List Oper) (xs : List AV) (env : List (Nat × AV)), xs.length = l.length → puts env l xs = puts (puts env (l.take i) (xs.take i)) (l.drop i) (xs.drop i)
  | 0, l, xs, env, _ => by simp [puts]
  | i + 1, [], xs, env, h => by simp [puts]
  | i + 1, o :: l, [], env, h => by simp at h
  | i + 1, o :: l, x :: xs, env, h => by
    simp only [List.take_succ_cons, List.drop_succ_cons, puts]
    exact puts_split i l xs _ (by simpa using h)

theorem POp.congr {P : Program} {H : List Ent} {ρ ρ' : Nat → Option AV} {o : Oper} {x : AV} (h : POp P H ρ o x) (he : ∀ t, .tmp t ∈ o.op.operands.toList → ρ t = ρ' t) : POp P H ρ' o x := by
  intro B I w r a Hc hw hh hs ho
  refine h B I w r a Hc hw hh hs (fun y hy z hz => ho y hy z ?_)
  cases y with
  | tmp t => rw [← hz]; exact (he t (by simpa using hy)).symm
  | _ => exact hz

theorem mem_looks {l : List Oper} {o : Oper} {t : Nat} (h : .tmp t ∈ o.op.operands.toList) : t ∈ looks l o :=
  List.mem_append_left _ (List.mem_filterMap.2 ⟨.tmp t, h, rfl⟩)

/-- an operation carried out from a state in which what it looks at is at hand -/
theorem AOk.run {c : Ctx} {r : Option Nat} {P : Program} {l : List Oper} {H : List Ent} {env : List (Nat × AV)} {o : Oper} {y : AV} {Q : Exit → Act → World → Prop} (h : AOk P H l env o y) {i : Nat} (hi : l[i]? = some o)
    {a : Act} {w : World} {I : Imm} (hw : WOk c.B I w) (hh : HeapOk c.B I w H) (hv : ∀ t ∈ looks l o, ∀ z, envGet env t = some z → Rel I w z (a.tmps.getD t undef)) (hn : ∀ t ∈ looks l o, t < a.tmps.size)
    {K : Act → World → Prop} (hK : ∀ v w' I', WOk c.B I' w' → Ext c.B I w I' w' → HeapOk c.B I' w' H → Rel I' w' y v → K (a.put o.dst v) w') : wpOpIn (FW r) 0 P l.toArray Q i K a w := by
  have hops : OpsOk I w (envGet env) a o := fun x hx z hz => by
    cases x with
    | tmp t => exact hv t (mem_looks (by simpa using hx)) z hz
    | const v => simp [aeval] at hz; subst hz; exact rel_const v
    | global g => simp [aeval] at hz; subst hz; exact .val _
    | func f => simp [aeval] at hz; subst hz; exact .fn _ _ _ _ _ .nil .nil
  have hio : l.toArray[i]? = some o := by simpa using hi
  unfold wpOpIn
  simp only [hio]
  rcases h with ⟨hg, hp⟩ | ⟨j, want, d, G, x, hg, hj, hG, hp, rfl⟩
  · have hwant : Region.wanted o (yielded l.toArray a.tmps) = true := by simp [Region.wanted, hg]
    rw [if_pos hwant]
    exact hp c.B I w r a H hw hh (fun _ x => x) hops K Q (fun v w' ⟨I', h1, h2, h3, h4⟩ => hK v w' I' h1 h2 h3 h4) (fun _ _ h => h.elim)
  · have hdl : d ∈ looks l o := List.mem_append_right _ (by simp [hg, hj])
    have hwant := mkG_wanted (ops := l.toArray) (I := I) (w := w) (a := a) (o := o) (j := j) (d := d) (y := envGet env d) (by simpa using hj) hg (fun z hz => hv d hdl z hz) hG (hn d hdl)
    rw [hwant]
    cases G with
    | true =>
      rw [if_pos rfl]
      exact hp rfl c.B I w r a H hw hh (fun _ x => x) hops K Q (fun v w' ⟨I', h1, h2, h3, h4⟩ => hK v w' I' h1 h2 h3 (.opt _ _ _ (fun _ => h4) (fun e => by cases e))) (fun _ _ h => h.elim)
    | false =>
      rw [if_neg (by simp)]
      exact ⟨fun _ _ => trivial, hK undef w I hw (Ext.refl _ _ _) hh (.opt _ _ _ (fun e => by cases e) (fun _ => rfl))⟩

theorem getD_set (listed : Array Bool) (i j : Nat) (h : i < listed.size) : (listed.setIfInBounds i true).getD j false = if i = j then true else listed.getD j false := by
  by_cases e : i = j
  · subst e; simp [Array.getD, h]
  · rw [if_neg e]; exact getD_set_ne false e

theorem getD_true_iff {listed : Array Bool} {j : Nat} (h : j < listed.size) (d : Bool) : listed.getD j d = listed.getD j false := by
  simp [Array.getD, h]

/-- **A statement whose order is open.** -/
theorem CW.draw {c : Ctx} {r : Option Nat} {P : Program} {id : Nat} {l : List Oper} {st : St} {Q : Exit → Act → World → Prop} (m : Nat) (hm : P.follows .mixedOrders = true) (hchk : drawChk l m = true) (hml : m ≤ l.length)
    (h : AD P st.H l c.n (l.take m) st.env fun env => OL c r P l.toArray (l.drop m) ⟨env, st.H⟩ Q) (hlk : (l.all fun o => (looks l o).all fun t => Nat.blt t c.n) = true) : CW c r P (.region id l.toArray true) st Q := by
  have ok := drawOk_of hchk
  obtain ⟨xs, hxl, htail, hspec⟩ := AD_spec _ _ _ h
  have hxm : xs.length = m := by rw [hxl, List.length_take]; exact Nat.min_eq_left hml
  generalize hF : puts st.env (l.take m) xs = envF at htail
  have takeAt : ∀ (i : Nat) (o : Oper), (l.take m)[i]? = some o ↔ i < m ∧ l[i]? = some o := by
    intro i o
    rw [List.getElem?_take]
    by_cases hi : i < m
    · rw [if_pos hi]; simp [hi]
    · rw [if_neg hi]; simp [hi]
  have hlook : ∀ (i : Nat) (o : Oper), l[i]? = some o → ∀ t ∈ looks l o, t < c.n := by
    intro i o ho t ht
    simp only [List.all_eq_true] at hlk
    have := hlk o (List.mem_of_getElem? ho) t ht
    exact Nat.lt_of_succ_le (by simpa [Nat.blt] using this)
  -- what the operations stand for, at the end
  have fin : ∀ (i : Nat) (o : Oper) (x : AV), i < m → l[i]? = some o → xs[i]? = some x → AOk P st.H l envF o x ∧ dstOk c.n o.dst = true := by
    intro i o x hi ho hx
    obtain ⟨h1, h2⟩ := hspec i o x ((takeAt i o).2 ⟨hi, ho⟩) hx
    refine ⟨?_, h2⟩
    have same : ∀ t ∈ looks l o, envGet (puts st.env ((l.take m).take i) (xs.take i)) t = envGet envF t := by
      intro t ht
      rw [← hF, puts_split i (l.take m) xs st.env hxl]
      symm
      apply puts_other
      intro j o' ho' e
      rw [List.getElem?_drop] at ho'
      obtain ⟨hj, hoj⟩ := (takeAt _ _).1 ho'
      have := (ok.looked i o (i + j) o' t hi ho hoj e ht).1
      omega
    rcases h1 with ⟨hg, hp⟩ | ⟨j, want, d, G, y, hg, hj, hG, hp, rfl⟩
    · exact .inl ⟨hg, hp.congr fun t ht => same t (mem_looks ht)⟩
    · have hdl : d ∈ looks l o := List.mem_append_right _ (by simp [hg, hj])
      exact .inr ⟨j, want, d, G, y, hg, hj, by rw [← same d hdl]; exact hG, fun e => (hp e).congr fun t ht => same t (mem_looks ht), rfl⟩
  have finAt : ∀ (i : Nat) (o : Oper) (x : AV) (t : Nat), i < m → l[i]? = some o → xs[i]? = some x → o.dst = some t → envGet envF t = some x := by
    intro i o x t hi ho hx hd
    rw [← hF]
    refine puts_at (l.take m) xs st.env i t o x ((takeAt i o).2 ⟨hi, ho⟩) hx hd (fun j o' ho' e => ?_)
    obtain ⟨hj, hoj⟩ := (takeAt _ _).1 ho'
    rcases Nat.decEq j i with hne | he
    · exact absurd hd (ok.apart i o j o' t hi ho hoj e (Ne.symm hne))
    · exact he
  have finOther : ∀ t, (∀ (i : Nat) (o : Oper), i < m → l[i]? = some o → o.dst ≠ some t) → envGet envF t = envGet st.env t := by
    intro t ht
    rw [← hF]
    exact puts_other _ _ _ _ fun i o ho => let ⟨h1, h2⟩ := (takeAt i o).1 ho; ht i o h1 h2
  intro a w s
  refine wpIn_region_any hm ?_
  show wpAnyIn (FW r) 0 P .any l.toArray Q l.toArray.size (Array.replicate l.toArray.size false) a w.drew
  -- the state while operations come in whatever order
  have main : ∀ (fuel : Nat) (listed : Array Bool) (a : Act) (w : World) (I : Imm), listed.size = l.length → (fuel = (List.range l.length).countP fun i => !listed.getD i false) → Closed l (fun i => listed.getD i false = true) →
      (∀ i, listed.getD i false = true → i < m) → a.defers = c.ds → a.tmps.size = c.n → WOk c.B I w → Ext c.B c.I0 c.w0 I w → HeapOk c.B I w st.H →
      (∀ t x, envGet envF t = some x → (∀ (i : Nat) (o : Oper), i < m → l[i]? = some o → o.dst = some t → listed.getD i false = true) → Rel I w x (a.tmps.getD t undef)) →
      wpAnyIn (FW r) 0 P .any l.toArray Q fuel listed a w := by
    intro fuel
    induction fuel with
    | zero =>
      intro listed a w I hsz hf hcl hlm hd hts hw he hh hv
      have hall : ∀ i, i < l.length → listed.getD i false = true := by
        intro i hi
        have := List.countP_eq_zero.1 hf.symm i (by simpa using hi)
        simpa using this
      have hml' : m = l.length := by
        rcases Nat.lt_or_ge m l.length with h1 | h1
        · exact absurd (hlm m (hall m h1)) (Nat.lt_irrefl _)
        · omega
      refine ⟨?_, ?_⟩
      · cases hr : Region.ready .any l.toArray listed with
        | nil => rfl
        | cons i rs =>
          exfalso
          have hi : i ∈ Region.ready .any l.toArray listed := by rw [hr]; simp
          obtain ⟨h1, o, h2, _⟩ := mem_ready.1 hi
          have hlt : i < l.length := by
            have := (Array.getElem?_eq_some_iff.1 h2).1
            simpa using this
          rw [getD_true_iff (by omega)] at h1
          rw [hall i hlt] at h1; cases h1
      · have hs : Sat c ⟨envF, st.H⟩ a w := ⟨hd, hts, I, hw, he, hh, fun t x hx => hv t x hx (fun i o hi _ _ => hall i (by omega))⟩
        have := htail a w hs
        rw [show l.drop m = [] by rw [hml']; simp] at this
        exact this
    | succ fuel ih =>
      intro listed a w I hsz hf hcl hlm hd hts hw he hh hv
      by_cases hD : ∀ i, i < m → listed.getD i false = true
      · -- the tail
        have hs : Sat c ⟨envF, st.H⟩ a w := ⟨hd, hts, I, hw, he, hh, fun t x hx => hv t x hx (fun i o hi _ _ => hD i hi)⟩
        have ht := htail a w hs
        have tail : ∀ (k fuel : Nat) (listed : Array Bool) (a : Act) (w : World), listed.size = l.length → k ≤ l.length → m ≤ k → (∀ i, listed.getD i false = true ↔ i < k) → l.length - k ≤ fuel →
            wpListIn (FW r) 0 P l.toArray Q (l.drop k) a w → wpAnyIn (FW r) 0 P .any l.toArray Q fuel listed a w := by
          intro k
          induction hk : l.length - k generalizing k with
          | zero =>
            intro fuel listed a w hsz hkl hmk hli hfu hwp
            have hkl' : k = l.length := by omega
            have hr : Region.ready .any l.toArray listed = [] := by
              cases hr : Region.ready .any l.toArray listed with
              | nil => rfl
              | cons i rs =>
                exfalso
                have hi : i ∈ Region.ready .any l.toArray listed := by rw [hr]; simp
                obtain ⟨h1, o, h2, _⟩ := mem_ready.1 hi
                have hlt : i < l.length := by
                  have := (Array.getElem?_eq_some_iff.1 h2).1
                  simpa using this
                rw [getD_true_iff (by omega), (hli i).2 (by omega)] at h1; cases h1
            rw [show l.drop k = [] by rw [hkl']; simp] at hwp
            exact wpAnyIn_done hr hwp fuel
          | succ q ihk =>
            intro fuel listed a w hsz hkl hmk hli hfu hwp
            obtain ⟨fuel, rfl⟩ : ∃ f, fuel = f + 1 := ⟨fuel - 1, by omega⟩
            have hkl' : k < l.length := by omega
            have hok : l[k]? = some l[k] := List.getElem?_eq_getElem hkl'
            have hmem : ∀ i ∈ Region.ready .any l.toArray listed, i = k := by
              intro i hi
              obtain ⟨h1, o, h2, h3⟩ := mem_ready.1 hi
              have hlt : i < l.length := by
                have := (Array.getElem?_eq_some_iff.1 h2).1
                simpa using this
              rw [getD_true_iff (by omega)] at h1
              have hge : k ≤ i := by
                rcases Nat.lt_or_ge i k with h | h
                · rw [(hli i).2 h] at h1; cases h1
                · exact h
              rcases Nat.lt_or_ge k i with hlt' | hge'
              · exfalso
                have ho : l[i]? = some o := by simpa using h2
                have hcl2 : Closed l (fun j => listed.getD j false = true) := fun j oj hj hoj j' hj' => (hli j').2 (by have := ok.back j oj hoj j' hj'; have := (hli j).1 hj; omega)
                have hms : (masks l [])[i]? = some ((masks l []).getD i 0) := by
                  have hlen : ∀ (l' : List Oper) (acc : List Nat), (masks l' acc).length = acc.length + l'.length := by
                    intro l'; induction l' with
                    | nil => intro acc; simp [masks]
                    | cons o l' ih => intro acc; rw [masks, ih]; simp; omega
                  have : i < (masks l []).length := by rw [hlen]; simpa using hlt
                  simp [List.getD, this]
                have := masks_spec l _ hcl2 l [] (by simp) (by simp) (by simp) i _ o hms ho (fun j hj => by
                  simp only [deps, List.mem_filterMap] at hj
                  obtain ⟨e, he, hb⟩ := hj
                  split at hb
                  · rename_i hbi; simp at hb; subst hb; exact h3 e (by simpa using he) hbi
                  · cases hb) k (ok.tail i (by omega) hlt k hlt')
                exact Nat.lt_irrefl _ ((hli k).1 this)
              · omega
            rw [List.drop_eq_getElem_cons hkl'] at hwp
            refine ⟨fun h0 => ?_, fun i hi => ?_⟩
            · exfalso
              have : k ∈ Region.ready .any l.toArray listed := by
                rw [mem_ready]
                refine ⟨?_, l[k], by simpa using hok, fun e he hb => ?_⟩
                · rw [getD_true_iff (by omega)]
                  cases hx : listed.getD k false with
                  | false => rfl
                  | true => exact absurd ((hli k).1 hx) (Nat.lt_irrefl _)
                · exact (hli _).2 (ok.back k _ hok e.on (by simp only [deps, List.mem_filterMap]; exact ⟨e, by simpa using he, by simp [hb]⟩))
              rw [h0] at this; cases this
            · have hik := hmem i hi
              subst hik
              unfold wpOpIn
              have hio : l.toArray[i]? = some l[i] := by simpa using hok
              simp only [hio]
              have next : ∀ a w, wpListIn (FW r) 0 P l.toArray Q (l.drop (i + 1)) a w → wpAnyIn (FW r) 0 P .any l.toArray Q fuel (listed.setIfInBounds i true) a w := by
                intro a w hwp
                refine ihk (i + 1) (by omega) fuel _ a w (by simp [hsz]) (by omega) (by omega) (fun j => ?_) (by omega) hwp
                rw [getD_set _ _ _ (by omega)]
                by_cases e : i = j
                · subst e; simp
                · rw [if_neg e, hli]; omega
              unfold wpListIn at hwp
              split at hwp
              · rename_i hwant; rw [if_pos hwant]; exact Oper.wpIn_mono next hwp
              · rename_i hwant; rw [if_neg hwant]; exact ⟨hwp.1, next _ _ hwp.2⟩
        refine tail m (fuel + 1) listed a w hsz hml (Nat.le_refl _) (fun i => ⟨hlm i, hD i⟩) ?_ ht
        rw [hf]
        have : ((List.range l.length).drop m).countP (fun i => !listed.getD i false) ≤ (List.range l.length).countP (fun i => !listed.getD i false) := List.Sublist.countP_le (List.drop_sublist _ _)
        refine Nat.le_trans ?_ this
        have hall : ((List.range l.length).drop m).countP (fun i => !listed.getD i false) = ((List.range l.length).drop m).length := by
          rw [List.countP_eq_length]
          intro i hi
          have : m ≤ i := by
            obtain ⟨k, hk⟩ := List.mem_iff_getElem?.1 hi
            rw [List.getElem?_drop] at hk
            have := List.getElem?_eq_some_iff.1 hk
            obtain ⟨h1, h2⟩ := this
            simp at h2; omega
          cases hx : listed.getD i false with
          | false => rfl
          | true => exact absurd (hlm i hx) (by omega)
        rw [hall]; simp
      · -- one more of the first operations
        have hex : ∃ i, i < m ∧ listed.getD i false = false ∧ ∀ j, j < i → listed.getD j false = true := by
          have : ∃ i, i < m ∧ listed.getD i false = false := by
            refine Classical.byContradiction fun hn => hD fun i hi => ?_
            cases hx : listed.getD i false with
            | true => rfl
            | false => exact absurd ⟨i, hi, hx⟩ hn
          obtain ⟨i, hi⟩ := this
          induction i using Nat.strongRecOn with
          | _ i ihi =>
            by_cases hx : ∃ j, j < i ∧ listed.getD j false = false
            · obtain ⟨j, hj, hj2⟩ := hx
              exact ihi j hj ⟨by omega, hj2⟩
            · exact ⟨i, hi.1, hi.2, fun j hj => by
                cases hy : listed.getD j false with
                | true => rfl
                | false => exact absurd ⟨j, hj, hy⟩ hx⟩
        obtain ⟨i0, hi0m, hi0, hi0b⟩ := hex
        refine ⟨fun h0 => ?_, fun i hi => ?_⟩
        · exfalso
          have hok : l[i0]? = some l[i0] := List.getElem?_eq_getElem (by omega)
          have : i0 ∈ Region.ready .any l.toArray listed := by
            rw [mem_ready]
            refine ⟨by rw [getD_true_iff (by omega)]; exact hi0, l[i0], by simpa using hok, fun e he hb => ?_⟩
            exact hi0b _ (ok.back i0 _ hok e.on (by simp only [deps, List.mem_filterMap]; exact ⟨e, by simpa using he, by simp [hb]⟩))
          rw [h0] at this; cases this
        · obtain ⟨h1, o, h2, h3⟩ := mem_ready.1 hi
          have ho : l[i]? = some o := by simpa using h2
          have hlt : i < l.length := (List.getElem?_eq_some_iff.1 ho).1
          rw [getD_true_iff (by omega)] at h1
          have hdeps : ∀ k ∈ deps o, listed.getD k false = true := by
            intro k hk
            simp only [deps, List.mem_filterMap] at hk
            obtain ⟨e, he, hb⟩ := hk
            split at hb
            · rename_i hbi; simp at hb; subst hb; exact h3 e (by simpa using he) hbi
            · cases hb
          have hms : (masks l [])[i]? = some ((masks l []).getD i 0) := by
            have hlen : ∀ (l' : List Oper) (acc : List Nat), (masks l' acc).length = acc.length + l'.length := by
              intro l'; induction l' with
              | nil => intro acc; simp [masks]
              | cons o l' ih => intro acc; rw [masks, ih]; simp; omega
            have : i < (masks l []).length := by rw [hlen]; simpa using hlt
            simp [List.getD, this]
          have hanc := masks_spec l _ hcl l [] (by simp) (by simp) (by simp) i _ o hms ho hdeps
          have him : i < m := by
            rcases Nat.lt_or_ge i m with h | h
            · exact h
            · have := hanc i0 (ok.tail i h hlt i0 (by omega))
              rw [hi0] at this; cases this
          have hxi : xs[i]? = some xs[i] := List.getElem?_eq_getElem (by omega)
          obtain ⟨hA, hdst⟩ := fin i o _ him ho hxi
          have avail : ∀ t ∈ looks l o, ∀ (i' : Nat) (o' : Oper), i' < m → l[i']? = some o' → o'.dst = some t → listed.getD i' false = true := fun t ht i' o' hi' ho' hd' => hanc i' (ok.looked i o i' o' t him ho ho' hd' ht).2
          refine hA.run (c := c) ho hw hh (fun t ht z hz => hv t z hz (avail t ht)) (fun t ht => by rw [hts]; exact hlook i o ho t ht) ?_
          intro v w' I' hw' he' hh' hx
          have hset : ∀ j, (listed.setIfInBounds i true).getD j false = if i = j then true else listed.getD j false := fun j => getD_set _ _ _ (by omega)
          refine ih (listed.setIfInBounds i true) _ w' I' (by simp [hsz]) ?_ ?_ ?_ (by rw [put_defers]; exact hd) (by rw [tmps_put_size]; exact hts) hw' (he.trans he') hh' ?_
          · have : (List.range l.length).countP (fun j => !listed.getD j false) = (List.range l.length).countP (fun j => !(listed.setIfInBounds i true).getD j false) + 1 := by
              have key : ∀ (n : Nat), (List.range n).countP (fun j => !listed.getD j false) = (List.range n).countP (fun j => !(listed.setIfInBounds i true).getD j false) + (if i < n then 1 else 0) := by
                intro n
                induction n with
                | zero => simp
                | succ n ihn =>
                  rw [List.range_succ, List.countP_append, List.countP_append, ihn]
                  simp only [List.countP_cons, List.countP_nil, Nat.zero_add, hset n]
                  by_cases e : i = n
                  · subst e
                    rw [if_neg (Nat.lt_irrefl _), if_pos (Nat.lt_succ_self _), if_pos rfl, h1]
                    simp
                  · rw [if_neg e]
                    by_cases hlt' : i < n
                    · rw [if_pos hlt', if_pos (Nat.lt_succ_of_lt hlt')]; omega
                    · rw [if_neg hlt', if_neg (show ¬ i < n + 1 by omega)]; omega
              rw [key, if_pos hlt]
            omega
          · intro j oj hj hoj k hk
            rw [hset]
            by_cases e : i = k
            · rw [if_pos e]
            · rw [if_neg e]
              rw [hset] at hj
              by_cases e' : i = j
              · subst e'
                rw [ho] at hoj; cases hoj
                exact hdeps k hk
              · rw [if_neg e'] at hj
                exact hcl j oj hj hoj k hk
          · intro j hj
            rw [hset] at hj
            by_cases e : i = j
            · omega
            · rw [if_neg e] at hj; exact hlm j hj
          · intro t x hxt hav
            by_cases hdt : o.dst = some t
            · rw [hdt]
              have : x = xs[i] := by
                have := finAt i o _ t him ho hxi hdt
                rw [this] at hxt; exact (Option.some.inj hxt).symm
              subst this
              rw [tmps_put_same (by rw [hts]; rw [hdt] at hdst; exact Nat.lt_of_succ_le (by simpa [dstOk, Nat.blt] using hdst))]
              exact hx
            · have hold : Rel I w x (a.tmps.getD t undef) := hv t x hxt fun i' o' hi' ho' hd' => by
                have := hav i' o' hi' ho' hd'
                rw [hset] at this
                by_cases e : i = i'
                · subst e
                  rw [ho] at ho'; cases ho'
                  exact absurd hd' hdt
                · rw [if_neg e] at this; exact this
              have hget : (a.put o.dst v).tmps.getD t undef = a.tmps.getD t undef := by
                cases hod : o.dst with
                | none => rfl
                | some d => exact tmps_put_other (fun e => hdt (by rw [hod, e]))
              rw [hget]
              exact hold.keep he'.keeps
  obtain ⟨I, hw, he, hh, hv⟩ := s.mem
  have hrep : ∀ i, (Array.replicate l.toArray.size false).getD i false = false := by
    intro i; simp [Array.getD]
  refine main l.toArray.size _ a w.drew I (by simp) ?_ (fun i o hi => absurd ((hrep i).symm.trans hi) (by simp)) (fun i hi => absurd ((hrep i).symm.trans hi) (by simp)) s.ds s.size hw.drew (he.drew) hh.drew ?_
  · symm
    have : (List.range l.length).countP (fun i => !(Array.replicate l.toArray.size false).getD i false) = (List.range l.length).length := by
      rw [List.countP_eq_length]; intro i _; rw [hrep]; rfl
    rw [this]; simp
  · intro t x hx hav
    have : envGet st.env t = some x := by
      rw [← finOther t (fun i o hi ho hd => absurd ((hrep i).symm.trans (hav i o hi ho hd)) (by simp))]; exact hx
    exact (hv t x this).keep (show Keeps I w I w.drew from ⟨fun _ _ x => x, fun _ _ _ => rfl⟩)

theorem AD.nil {P : Program} {H : List Ent} {ops : List Oper} {n : Nat} {env : List (Nat × AV)} {K : List (Nat × AV) → Prop} (h : K env) : AD P H ops n [] env K := h
theorem AD.pop {P : Program} {H : List Ent} {ops : List Oper} {n : Nat} {env : List (Nat × AV)} {K : List (Nat × AV) → Prop} {o : Oper} {rest : List Oper} {x : AV} (hg : o.guard = none) (hd : dstOk n o.dst = true) (h : POp P H (envGet env) o x)
    (next : AD P H ops n rest (putEnv o.dst x env) K) : AD P H ops n (o :: rest) env K := ⟨x, .inl ⟨hg, h⟩, hd, next⟩
theorem AD.guarded {P : Program} {H : List Ent} {ops : List Oper} {n : Nat} {env : List (Nat × AV)} {K : List (Nat × AV) → Prop} {o : Oper} {rest : List Oper} {x : AV} {j d : Nat} {want G : Bool} (hg : o.guard = some (j, want)) (hj : (ops[j]?).bind (·.dst) = some d)
    (hG : mkG (envGet env d) want = some G) (hd : dstOk n o.dst = true) (h : G = true → POp P H (envGet env) o x) (next : AD P H ops n rest (putEnv o.dst (.opt G x) env) K) : AD P H ops n (o :: rest) env K :=
  ⟨.opt G x, .inr ⟨j, want, d, G, x, hg, hj, hG, h, rfl⟩, hd, next⟩
end Go.Eng

/- The engine, part 6: a program's tables as instances; cuts; the short names that the printed proofs use. No condition: general lemmas over any program. -/
set_option linter.unusedVariables false
set_option linter.unusedSimpArgs false
namespace Go.Eng
open Go.RowKit (Below)

class HasTy (P : Program) (t : Nat) (x : outParam (Bool × Nat)) : Prop where h : tyInfo P t = some x
class HasFld (P : Program) (t f : Nat) (x : outParam Nat) : Prop where h : fldOff P t f = some x
class HasSl (P : Program) (t : Nat) (x : outParam Nat) : Prop where h : slSize P t = some x
class HasArr (P : Program) (t : Nat) (x : outParam (Nat × Nat)) : Prop where h : arrInfo P t = some x
class HasZero (P : Program) (t : Nat) (x : outParam (List Value)) : Prop where h : zeroCells P t = some x
class IsB (P : Program) (t : Nat) : Prop where h : P.underlying t = some .bool
class HasInt (P : Program) (t : Nat) (k : outParam IntKind) : Prop where h : P.underlying t = some (.int k)

/-- a way to write the elements of a slice that is a map of an encoding -/
class MapLike {α : Type} (F : List α → List (List AV)) (enc : outParam (α → List AV)) : Prop where h : ∀ l, F l = l.map enc
instance {α : Type} (enc : α → List AV) : MapLike (List.map enc) enc := ⟨fun _ => rfl⟩

theorem isSl_of {P : Program} {t k : Nat} (h : slSize P t = some k) : isSl P t = true := by
  obtain ⟨e, i, hu, _⟩ := slSize_spec h
  simp [isSl, hu]

section
variable {P : Program} {H : List Ent} {ρ : Nat → Option AV} {o : Oper}

theorem POp.len' {x : Operand} {t : TypeId} {k k' : Nat} {els : List (List AV)} {g : Bool} [ht : HasSl P t k'] (h : o.op = .call { callee := .builtin .len, args := #[x], argTypes := #[t] }) (hx : aev ρ x = some (g, .sl k els)) (hg : g = true) : POp P H ρ o (.i els.length) :=
  .len h hx hg (isSl_of ht.h)

theorem POp.lenM {α : Type} {F : List α → List (List AV)} {enc : α → List AV} {l : List α} {x : Operand} {t : TypeId} {k k' : Nat} {g : Bool} [ht : HasSl P t k'] [hF : MapLike F enc] (h : o.op = .call { callee := .builtin .len, args := #[x], argTypes := #[t] }) (hx : aev ρ x = some (g, .sl k (F l))) (hg : g = true) : POp P H ρ o (.i l.length) := by
  rw [hF.h] at hx
  have := POp.len (H := H) h hx hg (isSl_of ht.h)
  rw [List.length_map] at this
  exact this

theorem POp.lenA {x : Operand} {t : TypeId} {k k' : Nat} {els : List (List AV)} {v : Value} {g : Bool} [ht : HasSl P t k'] (h : o.op = .call { callee := .builtin .len, args := #[x], argTypes := #[t] }) (hx : aev ρ x = some (g, .as (.sl k els) v)) (hg : g = true) : POp P H ρ o (.i els.length) :=
  .lenAs h hx hg (isSl_of ht.h)

theorem POp.lenV {x : Operand} {t : TypeId} {k' : Nat} {a : Option Addr} {n c : Nat} {g : Bool} [ht : HasSl P t k'] (h : o.op = .call { callee := .builtin .len, args := #[x], argTypes := #[t] }) (hx : aev ρ x = some (g, .val (.slice a n c))) (hg : g = true) : POp P H ρ o (.i n) :=
  .lenVal h hx hg (isSl_of ht.h)

/-- an element of a mapped list, at a place below its length -/
theorem POp.ixM {α : Type} [Inhabited α] {F : List α → List (List AV)} {enc : α → List AV} {l : List α} {t : TypeId} {x y : Operand} {k : Nat} {kk : IntKind} {i : Nat} {gx gy : Bool} [ht : HasSl P t k] [hF : MapLike F enc] (h : o.op = .indexAddr t x y) (hx : aev ρ x = some (gx, .sl k (F l))) (hgx : gx = true)
    (hy : aev ρ y = some (gy, .val (.int kk (i : Int)))) (hgy : gy = true) (h0 : i < l.length) : POp P H ρ o (.ptr (enc (l.getD i default))) :=
  .indexMap h (by rw [hF.h] at hx; exact hx) hy hgx hgy ht.h h0

theorem POp.ixI {α : Type} [Inhabited α] {F : List α → List (List AV)} {enc : α → List AV} {l : List α} {t : TypeId} {x y : Operand} {k : Nat} {kk : IntKind} {i : Int} {gx gy : Bool} [ht : HasSl P t k] [hF : MapLike F enc] (h : o.op = .indexAddr t x y) (hx : aev ρ x = some (gx, .sl k (F l))) (hgx : gx = true)
    (hy : aev ρ y = some (gy, .val (.int kk i))) (hgy : gy = true) (h0 : 0 ≤ i ∧ i < l.length) : POp P H ρ o (.ptr (enc (l.getD i.toNat default))) :=
  .indexMap0 h (by rw [hF.h] at hx; exact hx) hy hgx hgy ht.h h0.1 h0.2

theorem POp.ix {t : TypeId} {x y : Operand} {k : Nat} {els : List (List AV)} {kk : IntKind} {i : Int} {cs : List AV} {gx gy : Bool} [ht : HasSl P t k] (h : o.op = .indexAddr t x y) (hx : aev ρ x = some (gx, .sl k els)) (hgx : gx = true)
    (hy : aev ρ y = some (gy, .val (.int kk i))) (hgy : gy = true) (h0 : 0 ≤ i) (he : els[i.toNat]? = some cs) : POp P H ρ o (.ptr cs) :=
  .index h hx hy hgx hgy ht.h h0 he

theorem POp.ldA {t : TypeId} {x : Operand} {cs : List AV} {n : Nat} {g : Bool} [ht : HasTy P t (true, n)] (h : o.op = .load t x) (hx : aev ρ x = some (g, .ptr cs)) (hg : g = true) (hn : Nat.ble n cs.length = true) : POp P H ρ o (.agg (cs.take n)) := .loadAgg h hx hg ht.h hn
theorem POp.ld1 {t : TypeId} {x : Operand} {cs : List AV} {y : AV} {n : Nat} {g : Bool} [ht : HasTy P t (false, n)] (h : o.op = .load t x) (hx : aev ρ x = some (g, .ptr cs)) (hg : g = true) (hn : cs[0]? = some y) : POp P H ρ o y := .loadOne h hx hg ht.h hn
theorem POp.ldAH {t tb : TypeId} {x : Operand} {b off : Nat} {cs ys : List AV} {n : Nat} {g : Bool} [ht : HasTy P t (true, n)] (h : o.op = .load t x) (hx : aev ρ x = some (g, .p b off)) (hg : g = true) (hm : Ent.blk b tb cs ∈ H) (hy : (cs.drop off).take n = ys) (hn : Nat.beq ys.length n = true) : POp P H ρ o (.agg ys) := .loadAggH h hx hg hm ht.h hy hn
theorem POp.ld1H {t tb : TypeId} {x : Operand} {b off : Nat} {cs : List AV} {y : AV} {n : Nat} {g : Bool} [ht : HasTy P t (false, n)] (h : o.op = .load t x) (hx : aev ρ x = some (g, .p b off)) (hg : g = true) (hm : Ent.blk b tb cs ∈ H) (hy : cs[off]? = some y) : POp P H ρ o y := .loadOneH h hx hg hm ht.h hy
theorem POp.fa {t : TypeId} {x : Operand} {f off b o' d : Nat} {g : Bool} [hf : HasFld P t f off] (h : o.op = .fieldAddr t x f) (hx : aev ρ x = some (g, .p b o')) (hg : g = true) (hd : o' + off = d) : POp P H ρ o (.p b d) := hd ▸ .field h hx hg hf.h
theorem POp.faP {t : TypeId} {x : Operand} {f off : Nat} {cs ys : List AV} {g : Bool} [hf : HasFld P t f off] (h : o.op = .fieldAddr t x f) (hx : aev ρ x = some (g, .ptr cs)) (hg : g = true) (hd : cs.drop off = ys) : POp P H ρ o (.ptr ys) := hd ▸ .fieldP h hx hg hf.h
theorem POp.ia {t : TypeId} {x y : Operand} {b o' n k : Nat} {kk : IntKind} {i : Int} {gx gy : Bool} [ht : HasArr P t (n, k)] (h : o.op = .indexAddr t x y) (hx : aev ρ x = some (gx, .p b o')) (hgx : gx = true) (hy : aev ρ y = some (gy, .val (.int kk i))) (hgy : gy = true) (h0 : 0 ≤ i ∧ i < n) :
    POp P H ρ o (.p b (o' + i.toNat * k)) := .indexArr h hx hy hgx hgy ht.h h0.1 h0.2
theorem POp.iaP {t : TypeId} {x y : Operand} {cs : List AV} {n k : Nat} {kk : IntKind} {i : Int} {gx gy : Bool} [ht : HasArr P t (n, k)] (h : o.op = .indexAddr t x y) (hx : aev ρ x = some (gx, .ptr cs)) (hgx : gx = true) (hy : aev ρ y = some (gy, .val (.int kk i))) (hgy : gy = true) (h0 : 0 ≤ i ∧ i < n) :
    POp P H ρ o (.ptr (cs.drop (i.toNat * k))) := .indexArrP h hx hy hgx hgy ht.h h0.1 h0.2
theorem POp.eqB {op : BinOp} {t t' : TypeId} {x y : Operand} {a b : Bool} {gx gy : Bool} [ht : IsB P t] (h : o.op = .binOp .eql t x y t') (hx : aev ρ x = some (gx, .b a)) (hgx : gx = true) (hy : aev ρ y = some (gy, .b b)) (hgy : gy = true) : POp P H ρ o (.b (a == b)) := .eqb h hx hy hgx hgy ht.h (.inl ⟨rfl, rfl⟩)
theorem POp.neB {op : BinOp} {t t' : TypeId} {x y : Operand} {a b : Bool} {gx gy : Bool} [ht : IsB P t] (h : o.op = .binOp .neq t x y t') (hx : aev ρ x = some (gx, .b a)) (hgx : gx = true) (hy : aev ρ y = some (gy, .b b)) (hgy : gy = true) : POp P H ρ o (.b (a != b)) := .eqb h hx hy hgx hgy ht.h (.inr ⟨rfl, rfl⟩)
theorem POp.cv {s d : TypeId} {x : Operand} {k ks kd : IntKind} {n m : Int} {g : Bool} [hs : HasInt P s ks] [hd : HasInt P d kd] (h : o.op = .convert s d x) (hx : aev ρ x = some (g, .val (.int k n))) (hg : g = true) (hw : kd.wrap n = m) : POp P H ρ o (.val (.int kd m)) := .convInt h hx hg (by rw [hs.h]; rfl) hd.h hw
theorem POp.sl' {t : TypeId} {x : Operand} {lo hi : Option Operand} {k : Nat} {els : List (List AV)} {l n : Nat} {gx gl gh : Bool} {kl kh : IntKind} [ht : HasSl P t k] (h : o.op = .slice t x lo hi none) (hx : aev ρ x = some (gx, .sl k els)) (hgx : gx = true)
    (hlo : match lo with | none => l = 0 | some y => aev ρ y = some (gl, .val (.int kl (l : Int)))) (hgl : gl = true) (hhi : match hi with | none => n = els.length | some y => aev ρ y = some (gh, .val (.int kh (n : Int)))) (hgh : gh = true)
    (h1 : l ≤ n ∧ n ≤ els.length) : POp P H ρ o (.sl k ((els.take n).drop l)) := .slice h hx hgx hlo hgl hhi hgh ht.h h1.1 h1.2
end

section
variable {c : Ctx} {r : Option Nat} {P : Program} {ops : Array Oper} {l rest : List Oper} {o : Oper} {st : St} {Q : Exit → Act → World → Prop} {x : AV}

theorem OL.al {t : TypeId} {zs : List Value} [hz : HasZero P t zs] (hgd : o.guard = none) (hd : dstOk c.n o.dst = true) (h : o.op = .alloc t)
    (next : ∀ b, OL c r P ops rest ⟨putEnv o.dst (.p b 0) st.env, .blk b t (zs.map .val) :: st.H⟩ Q) : OL c r P ops (o :: rest) st Q := OL.alloc hgd hd h hz.h next

theorem OL.sto {t tb : TypeId} {p z : Operand} {y : AV} {gp g : Bool} {b off n : Nat} {cs ds : List AV} {H' : List Ent} {agg : Bool} [ht : HasTy P t (agg, n)] (hgd : o.guard = none) (hd : dstOk c.n o.dst = true) (h : o.op = .store t p z)
    (hp : aev (envGet st.env) p = some (gp, .p b off)) (hgp : gp = true) (hz : aev (envGet st.env) z = some (g, y)) (hg : g = true) (hb : bOk y = true) (h1 : allOne (bcells y) = true)
    (hn : Nat.beq (bcells y).length n = true) (hu : Upd st.H (.blk b tb cs) (.blk b tb ds) H') (hfit : Nat.ble (off + n) cs.length = true) (hds : cs.take off ++ bcells y ++ cs.drop (off + n) = ds)
    (next : OL c r P ops rest ⟨putEnv o.dst .any st.env, H'⟩ Q) : OL c r P ops (o :: rest) st Q := by
  have hn' := Nat.eq_of_beq_eq_true hn
  subst hds
  subst hn'
  exact OL.store hgd hd h hp hgp hz hg hb h1 ht.h hfit hu next

/-- what follows is proved once for all the ways that lead there -/
theorem CW.cut {ι : Type} (inv : ι → St) {p q : Code} (h : CW c r P p st (Exit.then (fun a w => ∃ i, Sat c (inv i) a w) Q)) (hq : ∀ i, CW c r P q (inv i) Q) : CW c r P (.seq p q) st Q := by
  intro a w s
  refine wpIn_seq (wpIn_mono (h a w s) fun e a w hh => ?_)
  cases e with
  | normal => obtain ⟨i, hi⟩ := hh; exact hq i a w hi
  | _ => exact hh

theorem Done.cut {ι : Type} {inv : ι → St} (i : ι) (he : envLe (inv i).env st.env) (hH : (inv i).H.Sublist st.H) : Done c st .normal (Exit.then (fun a w => ∃ i, Sat c (inv i) a w) Q) :=
  fun a w s => ⟨i, s.weaken (envLe_get he) hH⟩

/-- what a reading says of its list's length -/
theorem CW.bound {p : Code} {t k : Nat} {els : List (List AV)} (ht : envGet st.env t = some (.sl k els)) (h : els.length ≤ maxLen → CW c r P p st Q) : CW c r P p st Q := by
  intro a w s
  refine h ?_ a w s
  obtain ⟨I, hw, he, hh, hv⟩ := s.mem
  have h0 := hv t _ ht
  generalize a.tmps.getD t undef = u at h0
  cases h0 with
  | sl0 => simp
  | sl k els b off len cap hl hc hm h => omega

theorem CW.boundM {α : Type} {F : List α → List (List AV)} {enc : α → List AV} [hF : MapLike F enc] {xs : List α} {p : Code} {t k : Nat} (ht : envGet st.env t = some (.sl k (F xs))) (h : xs.length ≤ 9223372036854775807 → CW c r P p st Q) : CW c r P p st Q :=
  CW.bound ht fun hb => h (by rw [hF.h, List.length_map] at hb; simpa [maxLen] using hb)

/-- a loop, by a relation between the measure and the state -/
theorem CW.loopJ (J : Nat → St → Prop) {p : Code} (h0 : ∃ m st', J m st' ∧ envLe st'.env st.env ∧ st'.H.Sublist st.H)
    (round : ∀ m st', J m st' → CW c r P p st' (Exit.then (fun a w => ∃ m' st'', m' < m ∧ J m' st'' ∧ Sat c st'' a w) Q)) : CW c r P (.loop p) st Q := by
  obtain ⟨m, st', hJ, he, hH⟩ := h0
  refine CW.loop (ι := {x : Nat × St // J x.1 x.2}) (fun i => i.1.2) (fun i => i.1.1) ⟨(m, st'), hJ⟩ he hH fun ⟨⟨m, st'⟩, hJ⟩ a w s => ?_
  refine wpIn_mono (round m st' hJ a w s) fun e a w hh => ?_
  cases e with
  | normal => obtain ⟨m', st'', h1, h2, h3⟩ := hh; exact ⟨⟨(m', st''), h2⟩, h1, h3⟩
  | _ => exact hh

theorem Done.againJ {J : Nat → St → Prop} {m m' : Nat} {st' : St} (hJ : J m' st') (hm : m' < m) (he : envLe st'.env st.env) (hH : st'.H.Sublist st.H) :
    Done c st .normal (Exit.then (fun a w => ∃ m' st'', m' < m ∧ J m' st'' ∧ Sat c st'' a w) Q) :=
  fun a w s => ⟨m', st', hm, hJ, s.weaken (envLe_get he) hH⟩

theorem CW.cutJ (J : St → Prop) {p q : Code} (h : CW c r P p st (Exit.then (fun a w => ∃ st', J st' ∧ Sat c st' a w) Q)) (hq : ∀ st', J st' → CW c r P q st' Q) : CW c r P (.seq p q) st Q := by
  intro a w s
  refine wpIn_seq (wpIn_mono (h a w s) fun e a w hh => ?_)
  cases e with
  | normal => obtain ⟨i, hi, hs⟩ := hh; exact hq i hi a w hs
  | _ => exact hh

theorem Done.cutJ {J : St → Prop} {st' : St} (hJ : J st') (he : envLe st'.env st.env) (hH : st'.H.Sublist st.H) : Done c st .normal (Exit.then (fun a w => ∃ st', J st' ∧ Sat c st' a w) Q) :=
  fun a w s => ⟨st', hJ, s.weaken (envLe_get he) hH⟩

theorem CW.drawN {id : Nat} {l : List Oper} (m n : Nat) (hn : c.n = n) (hm : P.follows .mixedOrders = true) (hchk : drawChk l m = true) (hml : Nat.ble m l.length = true)
    (hlk : (l.all fun o => (looks l o).all fun t => Nat.blt t n) = true)
    (h : AD P st.H l c.n (l.take m) st.env fun env => OL c r P l.toArray (l.drop m) ⟨env, st.H⟩ Q) : CW c r P (.region id l.toArray true) st Q :=
  CW.draw m hm hchk (Nat.le_of_ble_eq_true hml) h (by rw [hn]; exact hlk)

theorem CW.eqCode {p q : Code} (e : p = q) (h : CW c r P q st Q) : CW c r P p st Q := e ▸ h
end

def envOf : Nat → List AV → List (Nat × AV)
  | _, [] => []
  | i, x :: xs => (i, x) :: envOf (i + 1) xs

theorem envOf_get : ∀ (xs : List AV) (i t : Nat) (y : AV), envGet (envOf i xs) t = some y → i ≤ t ∧ xs[t - i]? = some y
  | [], i, t, y, h => by simp [envOf, envGet] at h
  | x :: xs, i, t, y, h => by
    rw [envOf, envGet_cons] at h
    split at h
    · rename_i e; subst e; simp at h; subst h; simp
    · rename_i e
      obtain ⟨h1, h2⟩ := envOf_get xs (i + 1) t y h
      refine ⟨by omega, ?_⟩
      have e1 : t - i = (t - (i + 1)) + 1 := by omega
      rw [e1]; simpa using h2

/-- a function's contract, out of its code -/
theorem ACall.mk' {P : Program} {f : FuncId} {fn : Func} {code : Code} {xs : List AV} {H : List Ent} {Φ : AV → List Ent → Prop} {E : AV → Prop} {n : Nat} (hf : P.funcs[f]? = some fn) (hb : fn.body = some code) (hnm : (fn.name == "runtime.NumGoroutine") = false)
    (hn : fn.ntmps = n) (hl : Nat.ble xs.length n = true) (h : ∀ B I w, CW ⟨B, I, w, n, []⟩ none P code ⟨envOf 0 xs, H⟩ (bodyPost P fn (RetP B I w Φ E))) : ACall P f xs H Φ E :=
  ACall.of hf hb hnm hn (envOf 0 xs) (fun t y hy => by have := (envOf_get xs 0 t y hy).2; simpa using this) (Nat.le_of_ble_eq_true hl) h

theorem ACall.weak {P : Program} {f : FuncId} {xs : List AV} {H : List Ent} {Φ Φ' : AV → List Ent → Prop} {E E' : AV → Prop} (h : ACall P f xs H Φ E) (h1 : ∀ x H, Φ x H → Φ' x H) (h2 : ∀ x, E x → E' x) : ACall P f xs H Φ' E' :=
  ⟨h.1, fun B I w vs hw hh hv => (h.2 B I w vs hw hh hv).mono fun e w' ⟨I', H', a, b, d, hr⟩ => ⟨I', H', a, b, d, hr.elim (fun ⟨v, x, e1, e2, e3⟩ => .inl ⟨v, x, e1, e2, h1 _ _ e3⟩) (fun ⟨v, x, e1, e2, e3⟩ => .inr ⟨v, x, e1, e2, h2 _ e3⟩)⟩⟩
end Go.Eng

/- The engine, part 7: boxes that are never written, literals of structs and slices, weaker readings, lists onto which is appended. No condition: general lemmas over any program. -/
set_option linter.unusedVariables false
set_option linter.unusedSimpArgs false
namespace Go.Eng
open Go.RowKit (Below)

/-! ### weaker readings -/
def AVle (x y : AV) : Prop := ∀ I w v, Rel I w x v → Rel I w y v
inductive AVleL : List AV → List AV → Prop
  | nil : AVleL [] []
  | cons {x y : AV} {xs ys : List AV} (h : AVle x y) (t : AVleL xs ys) : AVleL (x :: xs) (y :: ys)
theorem AVle.refl (x : AV) : AVle x x := fun _ _ _ h => h
theorem AVle.trans {x y z : AV} (h : AVle x y) (h' : AVle y z) : AVle x z := fun I w v r => h' I w v (h I w v r)
theorem AVle.nil (k : Nat) : AVle (.val (.slice none 0 0)) (.sl k []) := fun I w v h => by cases h; exact .sl0 _ _ _
theorem AVle.empty (k : Nat) (a : Option Addr) (c : Nat) : AVle (.val (.slice a 0 c)) (.sl k []) := fun I w v h => by cases h; exact .sl0 _ _ _
theorem AVle.e0 (k : Nat) : AVle .e0 (.sl k []) := fun I w v h => by cases h; exact .sl0 _ _ _
theorem AVle.nil0 : AVle (.val (.slice none 0 0)) .e0 := fun I w v h => by cases h; exact .e0 _
theorem AVle.asL (x : AV) (v : Value) : AVle (.as x v) x := fun I w u h => by cases h; assumption
theorem AVle.asR (x : AV) (v : Value) : AVle (.as x v) (.val v) := fun I w u h => by cases h; exact .val _
theorem AVle.one {x : AV} (hb : bOk x = true) (hx : ∀ cs, x ≠ .agg cs) : AVle x .one := fun I w v h => .single _ (h.one hb hx)
theorem AVle.any (x : AV) : AVle x .any := fun _ _ _ _ => .any _
theorem AVleL.rel {I : Imm} {w : World} : ∀ {xs ys : List AV} {vs : List Value}, AVleL xs ys → RelL I w xs vs → RelL I w ys vs
  | _, _, _, .nil, h => h
  | _, _, _, .cons h t, .cons _ _ _ _ hx ht => .cons _ _ _ _ (h _ _ _ hx) (AVleL.rel t ht)
theorem AVleL.refl : ∀ xs : List AV, AVleL xs xs
  | [] => .nil
  | _ :: xs => .cons (.refl _) (AVleL.refl xs)
theorem AVleL.length {xs ys : List AV} (h : AVleL xs ys) : ys.length = xs.length := by
  induction h with
  | nil => rfl
  | cons _ _ ih => simp [ih]
theorem AVle.agg {xs ys : List AV} (h : AVleL xs ys) : AVle (.agg xs) (.agg ys) := fun I w v r => by cases r; exact .agg _ _ (h.rel (by assumption))
theorem AVle.tup {xs ys : List AV} (h : AVleL xs ys) : AVle (.tup xs) (.tup ys) := fun I w v r => by cases r; exact .tup _ _ (h.rel (by assumption))
theorem AVle.fn {f : Fn} {fs fs' cs cs' : List AV} (h : AVleL fs fs') (h' : AVleL cs cs') : AVle (.fn f fs cs) (.fn f fs' cs') := fun I w v r => by cases r; exact .fn _ _ _ _ _ (h.rel (by assumption)) (h'.rel (by assumption))
theorem AVle.iface {t : TypeId} {x y : AV} (h : AVle x y) : AVle (.iface t x) (.iface t y) := fun I w v r => by cases r; exact .iface _ _ _ (h _ _ _ (by assumption))
theorem AVleL.cells {I : Imm} {w : World} {b : Nat} : ∀ {o : Nat} {xs ys : List AV}, AVleL xs ys → Cells I w b o xs → Cells I w b o ys
  | _, _, _, .nil, h => h
  | _, _, _, .cons h t, .cons _ _ _ c _ hc hI hx ht => .cons _ _ _ c _ hc hI (h _ _ _ hx) (AVleL.cells t ht)
theorem AVle.ptr {xs ys : List AV} (h : AVleL xs ys) : AVle (.ptr xs) (.ptr ys) := fun I w v r => by cases r; exact .ptr _ _ _ (h.cells (by assumption))
inductive AVleE : List (List AV) → List (List AV) → Prop
  | nil : AVleE [] []
  | cons {x y : List AV} {xs ys : List (List AV)} (h : AVleL x y) (t : AVleE xs ys) : AVleE (x :: xs) (y :: ys)
theorem AVleE.refl : ∀ xs : List (List AV), AVleE xs xs
  | [] => .nil
  | _ :: xs => .cons (.refl _) (AVleE.refl xs)
theorem AVleE.length {xs ys : List (List AV)} (h : AVleE xs ys) : ys.length = xs.length := by
  induction h with
  | nil => rfl
  | cons _ _ ih => simp [ih]
theorem AVleE.els {I : Imm} {w : World} {k b : Nat} : ∀ {o : Nat} {xs ys : List (List AV)}, AVleE xs ys → Els I w k b o xs → Els I w k b o ys
  | _, _, _, .nil, h => h
  | _, _, _, .cons h t, .cons _ _ _ _ _ hk hc ht => .cons _ _ _ _ _ (by rw [h.length]; exact hk) (h.cells hc) (AVleE.els t ht)
theorem AVle.sl {k : Nat} {xs ys : List (List AV)} (h : AVleE xs ys) : AVle (.sl k xs) (.sl k ys) := fun I w v r => by
  cases r with
  | sl0 => cases h; exact .sl0 _ _ _
  | sl _ _ b off len cap hl hc hm he => exact .sl _ _ _ _ _ _ (by rw [h.length]; exact hl) hc hm (h.els he)

section
variable {P : Program} {H : List Ent} {ρ : Nat → Option AV} {o : Oper}

theorem POp.le {x y : AV} (h : POp P H ρ o x) (hle : AVle x y) : POp P H ρ o y := by
  intro B I w r a Hc hw hh hs ho
  exact (h B I w r a Hc hw hh hs ho).mono (fun v w' ⟨I', h1, h2, h3, h4⟩ => ⟨I', h1, h2, h3, hle _ _ _ h4⟩) (fun _ _ h => h)

theorem CallOk.le {f : FuncId} {xs ys : List AV} (h : CallOk P ρ o f xs) (hle : AVleL xs ys) : CallOk P ρ o f ys :=
  ⟨fun I w a ho => let ⟨vs, h1, h2⟩ := h.run I w a ho; ⟨vs, hle.rel h1, h2⟩, h.nodefer⟩

/-- a call whose arguments are read as less -/
theorem POp.callLe {f : FuncId} {xs ys : List AV} {y : AV} (hc : CallOk P ρ o f xs) (hle : AVleL xs ys) (h : PCall P f ys y) : POp P H ρ o y := POp.call (hc.le hle) h

/-! ### boxes that are never written -/
theorem POp.boxI {t : TypeId} {z : Operand} {y : AV} {g : Bool} (h : o.op = .box t z) (hz : aev ρ z = some (g, y)) (hg : g = true) (hb : bOk y = true) : POp P H ρ o (.ptr (bcells y)) := by
  intro B I w r a Hc hw hh _ ho
  have h1 := bcells_rel (ho.get (by simp [h, Op.operands]) hz hg) hb
  obtain ⟨a1, a2, a3, a4⟩ := Imm.add_new hw t (a.eval z).cells
  refine Runs.of_value (v := .pointer (some ⟨w.heap.size, 0, none⟩)) (w' := w.alloc (.cells (a.eval z).cells t)) (by simp [h]) (by simp [execOp, h, Instr.box, newVar, newRow]) ⟨_, a1, a2, a3 _ hh, .ptr _ _ _ (a4 _ h1)⟩

/-! ### struct literals -/
theorem foldl_set : ∀ (news : List Value) (off j : Nat) (cells : Array Value), off + j + news.length ≤ cells.size →
    (news.zipIdx j).foldl (fun (cs : Array Value) (x : Value × Nat) => cs.setIfInBounds (off + x.2) x.1) cells = (cells.toList.take (off + j) ++ news ++ cells.toList.drop (off + j + news.length)).toArray
  | [], off, j, cells, h => by simp
  | v :: news, off, j, cells, h => by
    simp only [List.length_cons] at h
    rw [List.zipIdx_cons, List.foldl_cons, foldl_set news off (j + 1) _ (by simp; omega)]
    congr 1
    have hlt : off + j < cells.toList.length := by simp; omega
    simp only [Array.toList_setIfInBounds]
    have e1 : off + (j + 1) = off + j + 1 := by omega
    rw [e1, List.take_set, List.drop_set_of_lt (by omega)]
    have e2 : off + j + (v :: news).length = off + j + 1 + news.length := by simp; omega
    rw [e2, List.take_succ_eq_append_getElem hlt, List.set_append_right _ _ (by simp [Nat.min_le_left]), List.append_assoc, List.append_assoc, List.append_assoc]
    have hm : off + j - (cells.toList.take (off + j)).length = 0 := by simp; omega
    rw [hm]
    rfl

/-- .. on readings -/
def bfill (place : Nat → Option (Nat × Nat)) : List AV → List (Nat × AV) → Option (List AV)
  | cs, [] => some cs
  | cs, (i, x) :: rest =>
    match place i with
    | none => none
    | some (off, size) => bif bOk x && Nat.beq (bcells x).length size && Nat.ble (off + size) cs.length then bfill place (cs.take off ++ bcells x ++ cs.drop (off + size)) rest else none

theorem bfill_rel {I : Imm} {w : World} {place : Nat → Option (Nat × Nat)} : ∀ (parts : List (Nat × AV)) (vals : List (Nat × Value)) (cs : List AV) (vs : Array Value) (ys : List AV), RelL I w cs vs.toList →
    parts.map (·.1) = vals.map (·.1) → RelL I w (parts.map (·.2)) (vals.map (·.2)) → bfill place cs parts = some ys → ∃ us, Instr.fill place vs vals = some us ∧ RelL I w ys us.toList
  | [], [], cs, vs, ys, h, _, _, hf => by simp [bfill] at hf; subst hf; exact ⟨vs, rfl, h⟩
  | [], _ :: _, _, _, _, _, hk, _, _ => by simp at hk
  | _ :: _, [], _, _, _, _, hk, _, _ => by simp at hk
  | (i, x) :: parts, (i', v) :: vals, cs, vs, ys, h, hk, hr, hf => by
    simp only [List.map_cons, List.cons.injEq] at hk
    obtain ⟨hi, hk⟩ := hk
    subst hi
    cases hr with
    | cons _ _ _ _ hx ht =>
      simp only [bfill] at hf
      split at hf
      · cases hf
      · rename_i off size hp
        cases hc : (bOk x && Nat.beq (bcells x).length size && Nat.ble (off + size) cs.length) with
        | false => simp [hc] at hf
        | true =>
          simp only [hc, cond_true] at hf
          simp only [Bool.and_eq_true] at hc
          obtain ⟨⟨hb, hs⟩, hfit⟩ := hc
          have hs := Nat.eq_of_beq_eq_true hs
          have hfit := Nat.le_of_ble_eq_true hfit
          have hxr := bcells_rel hx hb
          have hvl : v.cells.size = size := by have := hxr.length; simp at this; omega
          have hcl : vs.size = cs.length := by have := h.length; simpa using this
          have hrel : RelL I w (cs.take off ++ bcells x ++ cs.drop (off + size)) (vs.toList.take off ++ v.cells.toList ++ vs.toList.drop (off + size)) := ((h.take off).append hxr).append (h.drop _)
          obtain ⟨us, h1, h2⟩ := bfill_rel parts vals _ (vs.toList.take off ++ v.cells.toList ++ vs.toList.drop (off + size)).toArray ys (by simpa using hrel) hk ht hf
          refine ⟨us, ?_, h2⟩
          rw [Instr.fill, hp]
          have hne : ¬ (v.cells.size ≠ size ∨ off + v.cells.size > vs.size) := by omega
          have hfs := foldl_set v.cells.toList off 0 vs (by simp; omega)
          simp only [hvl, ne_eq, not_true_eq_false, false_or, gt_iff_lt, decide_eq_true_eq, Bool.or_eq_true, bne_self_eq_false, Bool.false_or]
          rw [if_neg (by simp; omega)]
          rw [← h1]
          congr 1
          have e3 : v.cells.zipIdx = (v.cells.toList.zipIdx 0).toArray := by
            apply Array.ext'
            simp
          rw [e3, List.foldl_toArray]
          simp only [Nat.add_zero, Array.length_toList, hvl] at hfs
          rw [← hfs]

/-- what 'build' starts from, and where its parts stand -/
def buildInfo (P : Program) (t : TypeId) : Option (List Value × List (Nat × Nat)) :=
  match P.info? t, P.underlying t with
  | some it, some (.struct fields) =>
    match it.zero, fields.toList.mapM (fun f => (P.info? f.type).map fun i => (f.offset, i.size)) with
    | some z, some places => some (z.cells.toList, places)
    | _, _ => none
  | some it, some (.array n e) =>
    match it.zero, P.info? e with
    | some z, some ie => some (z.cells.toList, (List.range n).map fun i => (i * ie.size, ie.size))
    | _, _ => none
  | _, _ => none
class HasBuild (P : Program) (t : Nat) (x : outParam (List Value × List (Nat × Nat))) : Prop where h : buildInfo P t = some x

def partsOf (ps : List (Nat × Operand)) (ys : List (Bool × AV)) : List (Nat × AV) := (ps.map (·.1)).zip (ys.map (·.2))

theorem fill_congr {p q : Nat → Option (Nat × Nat)} : ∀ (parts : List (Nat × Value)) (vs : Array Value) (us : Array Value), (∀ i x, p i = some x → q i = some x) → Instr.fill p vs parts = some us → Instr.fill q vs parts = some us
  | [], vs, us, _, h => h
  | (i, v) :: parts, vs, us, hpq, h => by
    rw [Instr.fill] at h ⊢
    cases hp : p i with
    | none => simp [hp] at h
    | some x =>
      rw [hp] at h
      rw [hpq i x hp]
      simp only at h ⊢
      split at h
      · cases h
      · rename_i hc
        rw [if_neg hc]
        exact fill_congr parts _ _ hpq h

theorem build_run {t : TypeId} {zs : List Value} {places : List (Nat × Nat)} (hb : buildInfo P t = some (zs, places)) (parts : Array (Nat × Value)) (us : Array Value) (h : Instr.fill (places[·]?) zs.toArray parts.toList = some us) (w : World) :
    (Instr.build t parts).run P w = .ok (.agg us) w := by
  refine run_build w t parts us ?_
  unfold buildInfo at hb
  unfold Program.built
  split at hb
  · rename_i it fields hi hu
    cases hz : it.zero with
    | none => simp [hz] at hb
    | some z =>
      simp only [hi, hu, hz]
      cases hp : fields.toList.mapM (fun f => (P.info? f.type).map fun i => (f.offset, i.size)) with
      | none => simp [hz, hp] at hb
      | some pl =>
        simp [hz, hp] at hb
        obtain ⟨rfl, rfl⟩ := hb
        simpa using h
  · rename_i it n e hi hu
    cases hz : it.zero with
    | none => simp [hz] at hb
    | some z =>
      cases hie : P.info? e with
      | none => simp [hz, hie] at hb
      | some ie =>
        simp [hz, hie] at hb
        obtain ⟨rfl, rfl⟩ := hb
        simp only [hi, hu, hz, hie]
        refine fill_congr _ _ _ (fun i x hx => ?_) (by simpa using h)
        cases hr : (List.range n)[i]? with
        | none => simp [hr] at hx
        | some j =>
          have hj : j = i := by
            have := List.getElem?_eq_some_iff.1 hr
            obtain ⟨hlt, he⟩ := this
            simpa using he.symm
          subst hj
          simpa [hr] using hx
  · cases hb

theorem parts_rel {I : Imm} {w : World} {a : Act} (ho : OpsOk I w ρ a o) (ps : Array (Nat × Operand)) (hm : ∀ x ∈ ps.toList.map (·.2), x ∈ o.op.operands) {ys : List (Bool × AV)} (hy : aevs ρ (ps.toList.map (·.2)) = some ys) (hg : ys.all (·.1) = true) :
    (partsOf ps.toList ys).map (·.1) = ((ps.map fun (i, x) => (i, a.eval x)).toList).map (·.1) ∧ RelL I w ((partsOf ps.toList ys).map (·.2)) (((ps.map fun (i, x) => (i, a.eval x)).toList).map (·.2)) := by
  have h2 := aevs_rel ho _ ys hm hy (by simpa using hg)
  have hl : ys.length = ps.toList.length := by have := h2.length; simp at this; simp [this]
  constructor
  · show ((ps.toList.map (·.1)).zip (ys.map (·.2))).map (·.1) = _
    rw [List.map_fst_zip (by simp [hl])]
    simp [Function.comp_def]
  · show RelL I w (((ps.toList.map (·.1)).zip (ys.map (·.2))).map (·.2)) _
    rw [List.map_snd_zip (by simp [hl])]
    simpa [Function.comp_def] using h2

theorem POp.build' {t : TypeId} {ps : Array (Nat × Operand)} {zs : List Value} {places : List (Nat × Nat)} {ys : List (Bool × AV)} {cs : List AV} [hB : HasBuild P t (zs, places)] (h : o.op = .build t ps)
    (hy : aevs ρ (ps.toList.map (·.2)) = some ys) (hg : ys.all (·.1) = true) (hf : bfill (places[·]?) (zs.map .val) (partsOf ps.toList ys) = some cs) : POp P H ρ o (.agg cs) := by
  refine .same (by simp [h]) fun I w a ho => ?_
  obtain ⟨e1, e2⟩ := parts_rel ho ps (by simp [h, Op.operands]) hy hg
  obtain ⟨us, h1, h2⟩ := bfill_rel _ _ (zs.map .val) zs.toArray cs (by simpa using relL_val zs) e1 e2 hf
  refine ⟨.agg us, ?_, .agg _ _ h2⟩
  simp [execOp, h, build_run hB.h _ us h1 w]

/-! ### slice literals -/
/-- the element's size and its zero cells -/
def rowInfo (P : Program) (t : TypeId) : Option (Nat × List Value) :=
  match P.underlying t with
  | some (.slice e) => match P.info? e with
    | some i => i.zero.map fun z => (i.size, z.cells.toList)
    | none => none
  | _ => none
class HasRow (P : Program) (t : Nat) (x : outParam (Nat × List Value)) : Prop where h : rowInfo P t = some x

theorem rowInfo_spec {t : TypeId} {k : Nat} {zs : List Value} (h : rowInfo P t = some (k, zs)) : ∃ e i z, P.underlying t = some (.slice e) ∧ P.info? e = some i ∧ i.zero = some z ∧ i.size = k ∧ z.cells.toList = zs := by
  unfold rowInfo at h
  split at h
  · rename_i e hu
    split at h
    · rename_i i hi
      cases hz : i.zero with
      | none => simp [hz] at h
      | some z => simp [hz] at h; exact ⟨e, i, z, hu, hi, hz, h.1, h.2⟩
    · cases h
  · cases h

/-- the cells before the parts are laid -/
def rowZero (n k : Nat) (zs : List Value) : List Value := (List.range (n * k)).map fun i => zs.getD (i % zs.length) default

theorem els_of_cells {I : Imm} {w : World} {k b : Nat} : ∀ (els : List (List AV)) (o : Nat), (∀ e ∈ els, e.length = k) → Cells I w b o els.flatten → Els I w k b o els
  | [], o, _, _ => .nil _ _ _
  | e :: els, o, hl, h => by
    rw [List.flatten_cons] at h
    have hk := hl e (.head _)
    have h1 : Cells I w b o e := by have := h.take e.length; rwa [List.take_left] at this
    have h2 : Cells I w b (o + k) els.flatten := by have := h.drop e.length; rw [List.drop_left, hk] at this; exact this
    exact .cons _ _ _ _ _ hk h1 (els_of_cells els _ (fun e he => hl e (.tail _ he)) h2)

theorem buildSlice_run {t : TypeId} {n k : Nat} {zs : List Value} (hr : rowInfo P t = some (k, zs)) (parts : Array (Nat × Value)) (us : Array Value) (hsm : n * k ≤ 16777216) (hpos : 0 < n * k)
    (h : Instr.fill (fun i => some (i * k, k)) (rowZero n k zs).toArray parts.toList = some us) (w : World) :
    ∃ e, (Instr.buildSlice t n parts).run P w = .ok (.slice (some ⟨w.heap.size, 0, none⟩) n n) (w.alloc (.cells us e)) := by
  obtain ⟨e, i, z, hu, hi, hz, hk, hzs⟩ := rowInfo_spec hr
  have hsm' : ¬ n * i.size > 2 ^ 24 := by rw [hk]; omega
  have hpos' : ¬ n * i.size = 0 := by rw [hk]; omega
  have hf : Instr.fill (fun j => some (j * i.size, i.size)) ((Array.range (n * i.size)).map (z.cells[· % z.cells.size]!)) parts.toList = some us := ?_
  · exact ⟨e, by simp [Instr.buildSlice, run_underlying hu, sizeOf, typeInfo, zeroValue, hi, hz, hsm', hpos', hf, newRow]⟩
  rw [hk, ← h]
  congr 1
  apply Array.ext'
  simp only [rowZero, Array.toList_map, Array.toList_range, ← hzs]
  refine List.map_congr_left fun j _ => ?_
  simp [Array.getElem!_eq_getD, Array.getD_eq_getD_getElem?, List.getD_eq_getElem?_getD]

theorem POp.row {t : TypeId} {n k : Nat} {ps : Array (Nat × Operand)} {zs : List Value} {ys : List (Bool × AV)} {els : List (List AV)} [hR : HasRow P t (k, zs)] (h : o.op = .buildSlice t n ps)
    (hy : aevs ρ (ps.toList.map (·.2)) = some ys) (hg : ys.all (·.1) = true) (hels : (partsOf ps.toList ys).map (fun x => bcells x.2) = els) (hlen : Nat.beq els.length n = true) (hk : els.all (fun e => Nat.beq e.length k) = true)
    (hsm : Nat.ble (n * k) 16777216 = true) (hpos : Nat.blt 0 (n * k) = true)
    (hf : bfill (fun i => some (i * k, k)) ((rowZero n k zs).map .val) (partsOf ps.toList ys) = some els.flatten) : POp P H ρ o (.sl k els) := by
  intro B I w r a Hc hw hh _ ho
  obtain ⟨e1, e2⟩ := parts_rel ho ps (by simp [h, Op.operands]) hy hg
  obtain ⟨us, h1, h2⟩ := bfill_rel _ _ ((rowZero n k zs).map .val) (rowZero n k zs).toArray els.flatten (by simpa using relL_val _) e1 e2 hf
  have hsm := Nat.le_of_ble_eq_true hsm
  have hpos : 0 < n * k := Nat.le_of_ble_eq_true hpos
  obtain ⟨e, hrun⟩ := buildSlice_run hR.h (ps.map fun (i, x) => (i, a.eval x)) us hsm hpos h1 w
  obtain ⟨a1, a2, a3, a4⟩ := Imm.add_new hw e us
  have hn := Nat.eq_of_beq_eq_true hlen
  have hnk : n ≤ n * k := by
    rcases Nat.eq_zero_or_pos k with rfl | hk'
    · simp at hpos
    · exact Nat.le_mul_of_pos_right n hk'
  refine Runs.of_value (v := .slice (some ⟨w.heap.size, 0, none⟩) n n) (w' := w.alloc (.cells us e)) (by simp [h]) (by simp [execOp, h, hrun]) ⟨_, a1, a2, a3 _ hh, .sl _ _ _ _ _ _ hn (Nat.le_refl _) (by simp only [maxLen]; omega) ?_⟩
  refine els_of_cells els 0 (fun x hx => ?_) (a4 _ h2)
  have := List.all_eq_true.1 hk x hx
  exact Nat.eq_of_beq_eq_true this

/-- an empty slice literal -/
theorem POp.row0 {t : TypeId} {k : Nat} {zs : List Value} [hR : HasRow P t (k, zs)] (h : o.op = .buildSlice t 0 #[]) : POp P H ρ o .e0 := by
  intro B I w r a Hc hw hh _ ho
  obtain ⟨e, i, z, hu, hi, hz, hk, hzs⟩ := rowInfo_spec hR.h
  have hrun : (Instr.buildSlice t 0 #[]).run P w = .ok (.slice (some ⟨w.heap.size, 0, none⟩) 0 0) (w.alloc (.cells #[] e)) := by
    simp [Instr.buildSlice, run_underlying hu, sizeOf, typeInfo, hi, Instr.fill, newRow, show Array.range 0 = #[] from by decide +kernel]
  exact Runs.of_value (v := .slice (some ⟨w.heap.size, 0, none⟩) 0 0) (w' := w.alloc (.cells #[] e)) (by simp [h]) (by simp [execOp, h, hrun]) ⟨I, hw.alloc _, ext_alloc hw _, hh.alloc hw _, .e0 _⟩
end
end Go.Eng

/- The engine, part 8: append, what becomes immutable, results. No condition: general lemmas over any program. -/
set_option linter.unusedVariables false
set_option linter.unusedSimpArgs false
namespace Go.Eng
open Go.RowKit (Below)

/-! ### what becomes immutable -/
inductive Del : List Ent → Ent → List Ent → Prop
  | head (e : Ent) (H : List Ent) : Del (e :: H) e H
  | tail (f e : Ent) (H H' : List Ent) (h : Del H e H') : Del (f :: H) e (f :: H')

theorem Del.mem {H H' : List Ent} {e : Ent} (h : Del H e H') : e ∈ H := by
  induction h with
  | head => exact .head _
  | tail _ _ _ _ _ ih => exact .tail _ ih
theorem Del.sub {H H' : List Ent} {e : Ent} (h : Del H e H') : H'.Sublist H := by
  induction h with
  | head => exact List.sublist_cons_self _ _
  | tail _ _ _ _ _ ih => exact ih.cons_cons _
theorem Del.apart {H H' : List Ent} {e : Ent} (h : Del H e H') (hp : H.Pairwise fun e f => ∀ b, e.foot = some b → f.foot ≠ some b) : ∀ f ∈ H', ∀ b, e.foot = some b → f.foot ≠ some b := by
  induction h with
  | head e H => exact (List.pairwise_cons.1 hp).1
  | tail g e H H' h ih =>
    obtain ⟨h1, h2⟩ := List.pairwise_cons.1 hp
    intro f hf b hb hfb
    rcases List.mem_cons.1 hf with rfl | hf
    · exact h1 e h.mem b hfb hb
    · exact ih h2 f hf b hb hfb

theorem Imm.freeze {B : Nat} {I : Imm} {w : World} {H H' : List Ent} (hw : WOk B I w) (hh : HeapOk B I w H) {b n : Nat} {e : Ent} (hd : Del H e H') (hf : e.foot = some b) {vs : Array Value} {t : TypeId} (hb : w.heap[b]? = some (.cells vs t (0, 0))) (hn : n ≤ vs.size) :
    WOk B (I.add b n) w ∧ Ext B I w (I.add b n) w ∧ HeapOk B (I.add b n) w H' ∧ (∀ xs us, RelL I w xs us → us = vs.toList.take n → Cells (I.add b n) w b 0 xs) := by
  have k : Keeps I w (I.add b n) w := ⟨fun _ _ x => .inl x, fun _ _ _ => rfl⟩
  refine ⟨⟨hw.base, fun b' o h => ?_⟩, ⟨k.imm, k.cell, Below.refl _ _⟩, ?_, ?_⟩
  · rcases h with h | ⟨rfl, h⟩
    · exact hw.there b' o h
    · exact ⟨vs[o]'(by omega), by rw [cell_of_blk hb]; exact Array.getElem?_eq_getElem (by omega)⟩
  · refine (hh.sub hd.sub).keep k (fun _ _ _ _ => rfl) (fun f hfm b' hb' o ho => ?_)
    rcases ho with ho | ⟨rfl, _⟩
    · exact ho
    · exact absurd hb' (hd.apart hh.apart f hfm _ hf)
  · intro xs us hx hu
    have key : ∀ (ys : List AV) (zs : List Value) (o : Nat), RelL I w ys zs → zs = (vs.toList.take n).drop o → Cells (I.add b n) w b o ys := by
      intro ys
      induction ys with
      | nil => intro zs o _ _; exact .nil _ _
      | cons y ys ih =>
        intro zs o hr hu
        cases hr with
        | cons _ v _ us' hx ht =>
          have h0 : (vs.toList.take n)[o]? = some v := by
            have := congrArg (fun l => l[0]?) hu
            simpa using this.symm
          have hlt : o < n := by
            have := (List.getElem?_eq_some_iff.1 h0).1
            simp at this; omega
          refine .cons _ _ _ v _ ?_ (.inr ⟨rfl, hlt⟩) (hx.keep k) (ih us' (o + 1) ht ?_)
          · rw [cell_of_blk hb]; rw [List.getElem?_take] at h0; simpa [hlt] using h0
          · have := congrArg List.tail hu
            simpa [List.tail_drop] using this
    exact key xs us 0 hx (by simpa using hu)

section
variable {c : Ctx} {r : Option Nat} {P : Program} {ops : Array Oper} {l rest : List Oper} {o : Oper} {st : St} {Q : Exit → Act → World → Prop} {x : AV} {H : List Ent} {ρ : Nat → Option AV}

theorem Sat.put1 {a : Act} {w : World} {d : Nat} {y : AV} {env : List (Nat × AV)} {I : Imm} (hv : EnvOk I w (envGet env) a) (h : Rel I w y (a.tmps.getD d undef)) : EnvOk I w (envGet ((d, y) :: env)) a := by
  intro t z hz
  rw [envGet_cons] at hz
  split at hz
  · rename_i e; subst e; simp at hz; subst hz; exact h
  · exact hv t z hz

/-- a block of which only pointers are known becomes immutable -/
theorem Sat.freezeP {a : Act} {w : World} {d b off : Nat} {t : TypeId} {cs : List AV} {H' : List Ent} (s : Sat c st a w) (hd : envGet st.env d = some (.p b off)) (hD : Del st.H (.blk b t cs) H') : Sat c ⟨(d, .ptr (cs.drop off)) :: st.env, H'⟩ a w := by
  obtain ⟨I, hw, he, hh, hv⟩ := s.mem
  obtain ⟨hB, vs, hb, hr, hni⟩ := hh.ok _ hD.mem
  obtain ⟨a1, a2, a3, a4⟩ := Imm.freeze (n := vs.size) hw hh hD (b := b) rfl hb (Nat.le_refl _)
  refine ⟨s.ds, s.size, _, a1, he.trans a2, a3, Sat.put1 (hv.keep a2.keeps) ?_⟩
  have h0 := rel_val (hv d _ hd)
  rw [h0]
  have := (a4 cs vs.toList hr (by rw [← Array.length_toList, List.take_length])).drop off
  exact .ptr _ _ _ (by simpa using this)

theorem CW.freezeP {p : Code} {d b off : Nat} {t : TypeId} {cs : List AV} {H' : List Ent} (hd : envGet st.env d = some (.p b off)) (hD : Del st.H (.blk b t cs) H') (h : CW c r P p ⟨(d, .ptr (cs.drop off)) :: st.env, H'⟩ Q) : CW c r P p st Q :=
  fun a w s => h a w (s.freezeP hd hD)
theorem OL.freezeP {d b off : Nat} {t : TypeId} {cs : List AV} {H' : List Ent} (hd : envGet st.env d = some (.p b off)) (hD : Del st.H (.blk b t cs) H') (h : OL c r P ops l ⟨(d, .ptr (cs.drop off)) :: st.env, H'⟩ Q) : OL c r P ops l st Q :=
  fun a w s => h a w (s.freezeP hd hD)

/-- a row that was written becomes immutable -/
theorem Sat.freezeS {a : Act} {w : World} {d b n cap k : Nat} {t : TypeId} {els : List (List AV)} {more : List AV} {H' : List Ent} (s : Sat c st a w) (hd : envGet st.env d = some (.val (.slice (some ⟨b, 0, none⟩) n cap))) (hD : Del st.H (.blk b t (els.flatten ++ more)) H')
    (hn : els.length = n) (hk : ∀ e ∈ els, e.length = k) (hc : n ≤ cap) (hm : cap ≤ maxLen) : Sat c ⟨(d, .sl k els) :: st.env, H'⟩ a w := by
  obtain ⟨I, hw, he, hh, hv⟩ := s.mem
  obtain ⟨hB, vs, hb, hr, hni⟩ := hh.ok _ hD.mem
  obtain ⟨a1, a2, a3, a4⟩ := Imm.freeze (n := vs.size) hw hh hD (b := b) rfl hb (Nat.le_refl _)
  refine ⟨s.ds, s.size, _, a1, he.trans a2, a3, Sat.put1 (hv.keep a2.keeps) ?_⟩
  have h0 := rel_val (hv d _ hd)
  rw [h0]
  have h1 := (a4 _ vs.toList hr (by rw [← Array.length_toList, List.take_length])).take els.flatten.length
  rw [List.take_left] at h1
  exact .sl _ _ _ _ _ _ hn hc hm (els_of_cells els 0 hk h1)
theorem CW.freezeS {p : Code} {d b n cap k : Nat} {t : TypeId} {els : List (List AV)} {more : List AV} {H' : List Ent} (hd : envGet st.env d = some (.val (.slice (some ⟨b, 0, none⟩) n cap))) (hD : Del st.H (.blk b t (els.flatten ++ more)) H')
    (hn : els.length = n) (hk : ∀ e ∈ els, e.length = k) (hc : n ≤ cap) (hm : cap ≤ maxLen) (h : CW c r P p ⟨(d, .sl k els) :: st.env, H'⟩ Q) : CW c r P p st Q :=
  fun a w s => h a w (s.freezeS hd hD hn hk hc hm)

/-- a reading is turned into a weaker one -/
theorem Sat.le {a : Act} {w : World} {d : Nat} {x y : AV} (s : Sat c st a w) (hd : envGet st.env d = some x) (h : AVle x y) : Sat c ⟨(d, y) :: st.env, st.H⟩ a w := by
  obtain ⟨I, hw, he, hh, hv⟩ := s.mem
  exact ⟨s.ds, s.size, I, hw, he, hh, Sat.put1 hv (h _ _ _ (hv d _ hd))⟩
theorem CW.le {p : Code} (d : Nat) {x y : AV} (hd : envGet st.env d = some x) (hle : AVle x y) (h : CW c r P p ⟨(d, y) :: st.env, st.H⟩ Q) : CW c r P p st Q := fun a w s => h a w (s.le hd hle)
theorem OL.le (d : Nat) {x y : AV} (hd : envGet st.env d = some x) (hle : AVle x y) (h : OL c r P ops l ⟨(d, y) :: st.env, st.H⟩ Q) : OL c r P ops l st Q := fun a w s => h a w (s.le hd hle)
theorem Done.le {e : Exit} (d : Nat) {x y : AV} (hd : envGet st.env d = some x) (hle : AVle x y) (h : Done c ⟨(d, y) :: st.env, st.H⟩ e Q) : Done c st e Q := fun a w s => h a w (s.le hd hle)
theorem Done.freezeP {e : Exit} {d b off : Nat} {t : TypeId} {cs : List AV} {H' : List Ent} (hd : envGet st.env d = some (.p b off)) (hD : Del st.H (.blk b t cs) H') (h : Done c ⟨(d, .ptr (cs.drop off)) :: st.env, H'⟩ e Q) : Done c st e Q :=
  fun a w s => h a w (s.freezeP hd hD)

/-! ### append -/
/-- the element's type, size, bytes -/
def appInfo (P : Program) (t : TypeId) : Option (TypeId × Nat × Nat) :=
  match P.underlying t with
  | some (.slice e) => match P.info? e with
    | some i => match i.zero with
      | some z => bif Nat.beq z.cells.size i.size && Nat.blt 0 i.size then some (e, i.size, i.bytes) else none
      | none => none
    | none => none
  | _ => none
class HasApp (P : Program) (t : Nat) (x : outParam (Nat × Nat × Nat)) : Prop where h : appInfo P t = some x

theorem appInfo_spec {t e k by_ : Nat} (h : appInfo P t = some (e, k, by_)) : ∃ i z, P.underlying t = some (.slice e) ∧ P.info? e = some i ∧ i.zero = some z ∧ i.size = k ∧ i.bytes = by_ ∧ z.cells.size = k ∧ 0 < k := by
  unfold appInfo at h
  split at h
  · rename_i e' hu
    split at h
    · rename_i i hi
      split at h
      · rename_i z hz
        cases hc : (Nat.beq z.cells.size i.size && Nat.blt 0 i.size) with
        | false => simp [hc] at h
        | true =>
          simp only [hc, cond_true, Option.some.injEq, Prod.mk.injEq] at h
          obtain ⟨rfl, rfl, rfl⟩ := h
          simp only [Bool.and_eq_true] at hc
          exact ⟨i, z, hu, hi, hz, rfl, rfl, Nat.eq_of_beq_eq_true hc.1, Nat.le_of_ble_eq_true hc.2⟩
      · cases h
    · cases h
  · cases h

theorem Els.values {I : Imm} {w : World} {k b o : Nat} {els : List (List AV)} (h : Els I w k b o els) : ∃ us, RelL I w els.flatten us ∧ us.length = els.length * k ∧ ∀ j u, us[j]? = some u → w.cell? ((⟨b, o, none⟩ : Addr).add j) = some u := by
  obtain ⟨us, h1, h2⟩ := h.cells.values
  refine ⟨us, h1, ?_, fun j u hu => ?_⟩
  · rw [h1.length, h.flatten_length]
  · have : (⟨b, o, none⟩ : Addr).add j = ⟨b, o + j, none⟩ := by unfold Addr.add; split <;> simp_all
    rw [this]; exact h2 j u hu

theorem all_one_flatten {els : List (List AV)} (h : els.all allOne = true) : allOne els.flatten = true := by
  simp only [allOne, List.all_eq_true, List.mem_flatten] at h ⊢
  rintro x ⟨e, he, hx⟩
  exact h e he x hx

/-- what is appended, read out of a slice of readings -/
theorem src_of {I : Imm} {w : World} {tx e' k : Nat} {els : List (List AV)} {v : Value} (hk : P.underlying tx = some (.slice e')) (h : Rel I w (.sl k els) v) (h1 : els.all allOne = true) :
    ∃ us, RelL I w els.flatten us ∧ Src P k tx v els.length us w := by
  cases h with
  | sl0 _ a cp =>
    refine ⟨[], .nil, ?_⟩
    cases a with
    | none => exact Src.ofNil w hk _
    | some a => exact Src.ofSlice w hk a 0 cp [] (by simp) (by simp) (by simp)
  | sl _ _ b off len cap hl hc hm he =>
    obtain ⟨us, r1, r2, r3⟩ := he.values
    subst hl
    exact ⟨us, r1, Src.ofSlice w hk _ _ cap us r2 r3 (relL_one r1 (all_one_flatten h1))⟩

theorem run_appendOp {s z : Operand} {t tx : TypeId} (h : o.op = .call { callee := .builtin .append, args := #[s, z], argTypes := #[t, tx] }) (a : Act) (w : World) {v : Value} {w' : World}
    (hr : (Builtin.append_ #[t, tx] o.type #[a.eval s, a.eval z]).run P w = .ok v w') : (execOp a.eval o).run P w = .ok (.value v) w' := by
  simp [execOp, h, resolve, invoke, builtin, hr]

/-- .. onto nothing: a new row that is never written -/
theorem POp.appendI {s z : Operand} {t tx e k by_ k' : Nat} {els : List (List AV)} {y0 y : AV} {g1 g2 : Bool} [hA : HasApp P t (e, k, by_)] [hX : HasSl P tx k'] (h : o.op = .call { callee := .builtin .append, args := #[s, z], argTypes := #[t, tx] })
    (hs : aev ρ s = some (g1, y0)) (hg1 : g1 = true) (hy0 : AVle y0 .e0) (hz : aev ρ z = some (g2, y)) (hg2 : g2 = true) (hy : AVle y (.sl k els)) (h1 : els.all allOne = true) (hb : els.length * by_ ≤ 140737488355328) (hb' : els.length ≤ 9223372036854775807) : POp P H ρ o (.sl k els) := by
  intro B I w r a Hc hw hh _ ho
  obtain ⟨i, zv, hu, hi, hzz, hsz, hby, hzs, hk0⟩ := appInfo_spec hA.h
  obtain ⟨e', _, hu', _⟩ := slSize_spec hX.h
  obtain ⟨ad, hsv⟩ : ∃ ad, a.eval s = .slice ad 0 0 := by
    have h0 := hy0 _ _ _ (ho.get (by simp [h, Op.operands, Call.operands]) hs hg1)
    generalize a.eval s = u at h0
    cases h0; exact ⟨_, rfl⟩
  obtain ⟨us, r1, r2⟩ := src_of (P := P) (tx := tx) hu' (hy _ _ _ (ho.get (by simp [h, Op.operands, Call.operands]) hz hg2)) h1
  rw [← hsz] at r2
  by_cases hn : els.length = 0
  · have hel : els = [] := List.eq_nil_of_length_eq_zero hn
    subst hel
    have hus : us = [] := by cases r1; rfl
    subst hus
    have hr := run_append_nothing (P := P) w t tx o.type e i hu hi ad 0 0 (Nat.le_refl _) (a.eval z) r2
    exact Runs.of_value (by simp [h]) (run_appendOp h a w (by rw [hsv]; exact hr)) ⟨I, hw, Ext.refl _ _ _, hh, .sl0 _ _ _⟩
  · have hfc : (Builtin.firstCells i.size 0 (.slice ad 0 0)).run P w.drew = .ok (#[] : Array Value) w.drew := by
      cases ad with
      | none => simp [Builtin.firstCells]
      | some ad => exact run_firstCells_some w.drew i.size 0 ad 0 0 [] (by simp) (by simp)
    have hnc : Builtin.nextslicecap (0 + els.length) 0 * i.bytes ≤ 281474976710656 := growslice_fits (by omega) (by rw [hby, Nat.zero_add]; exact hb)
    have hr := run_append_grow_src (P := P) w t tx o.type e i zv hu hi hzz ad 0 0 [] hfc (a.eval z) els.length us r2 (by omega) (by omega) hnc
    simp only [Nat.zero_add, List.nil_append] at hr
    generalize hG : grownCap w els.length 0 e = G at hr
    have hge : els.length ≤ G := by rw [← hG]; exact grownCap_ge w els.length 0 e
    have hcm : G ≤ maxLen := by rw [← hG]; exact grownCap_le_maxLen w els.length 0 e (by simp only [maxLen]; omega)
    obtain ⟨a1, a2, a3, a4⟩ := Imm.add_new hw.drew e (us.toArray ++ Builtin.zeroCells zv.cells (G - els.length))
    have kd : Keeps I w I w.drew := ⟨fun _ _ x => x, fun _ _ _ => rfl⟩
    have r1' := r1.keep kd
    have hz2 := relL_val (I := I) (w := w.drew) (Builtin.zeroCells zv.cells (G - els.length)).toList
    have hcells := a4 (els.flatten ++ (Builtin.zeroCells zv.cells (G - els.length)).toList.map .val) (by simpa using r1'.append hz2)
    have hc2 := hcells.take els.flatten.length
    rw [List.take_left] at hc2
    have hlen : ∀ x ∈ els, x.length = k := by
      have h0 := hy _ _ _ (ho.get (by simp [h, Op.operands, Call.operands]) hz hg2)
      generalize a.eval z = u at h0
      cases h0 with
      | sl0 => simp at hn
      | sl _ _ b off len cap hl hc hm he => 
        intro x hx
        obtain ⟨j, hj⟩ := List.mem_iff_getElem?.1 hx
        exact (he.get hj).1
    exact Runs.of_value (by simp [h]) (run_appendOp h a w (by rw [hsv]; exact hr)) ⟨_, a1, (Ext.trans ⟨kd.imm, kd.cell, (Below.refl _ _).drew⟩ a2), a3 _ hh.drew, .sl _ _ _ _ _ _ rfl hge hcm (els_of_cells els 0 hlen hc2)⟩

/-- a list onto which nothing has been appended yet -/
theorem Sat.ownNil {a : Act} {w : World} {d e k : Nat} (s : Sat c st a w) (hd : envGet st.env d = some (.val (.slice none 0 0))) : Sat c ⟨(d, .as (.sl k []) (.slice none 0 0)) :: st.env, .own e k (.slice none 0 0) :: st.H⟩ a w := by
  obtain ⟨I, hw, he, hh, hv⟩ := s.mem
  refine ⟨s.ds, s.size, I, hw, he, ⟨fun f hf => ?_, List.pairwise_cons.2 ⟨fun f hf b hb => by simp [Ent.foot, Value.ownBlock] at hb, hh.apart⟩⟩, Sat.put1 hv ?_⟩
  · rcases List.mem_cons.1 hf with rfl | hf
    · exact ⟨0, [], World.ownsRow_nil _ _ _ _, fun g hg => by simp [Value.ownBlock] at hg⟩
    · exact hh.ok f hf
  · rw [rel_val (hv d _ hd)]
    exact .as _ _ (.sl0 _ _ _)
theorem CW.ownNil {p : Code} (d e k : Nat) (hd : envGet st.env d = some (.val (.slice none 0 0))) (h : CW c r P p ⟨(d, .as (.sl k []) (.slice none 0 0)) :: st.env, .own e k (.slice none 0 0) :: st.H⟩ Q) : CW c r P p st Q :=
  fun a w s => h a w (s.ownNil hd)
theorem OL.ownNil (d e k : Nat) (hd : envGet st.env d = some (.val (.slice none 0 0))) (h : OL c r P ops l ⟨(d, .as (.sl k []) (.slice none 0 0)) :: st.env, .own e k (.slice none 0 0) :: st.H⟩ Q) : OL c r P ops l st Q :=
  fun a w s => h a w (s.ownNil hd)

theorem keeps_drew {I : Imm} {w : World} : Keeps I w I w.drew := ⟨fun _ _ x => x, fun _ _ _ => rfl⟩
theorem ext_drew {B : Nat} {I : Imm} {w : World} : Ext B I w I w.drew := ⟨fun _ _ x => x, fun _ _ _ => rfl, (Below.refl _ _).drew⟩

theorem flatten_len {k : Nat} : ∀ {els : List (List AV)}, (∀ x ∈ els, x.length = k) → els.flatten.length = els.length * k
  | [], _ => by simp
  | e :: els, h => by rw [List.flatten_cons, List.length_append, flatten_len (fun x hx => h x (.tail _ hx)), h e (.head _), List.length_cons, Nat.add_mul]; omega

theorem Rel.elsLen {I : Imm} {w : World} {k : Nat} {els : List (List AV)} {v : Value} (h : Rel I w (.sl k els) v) : ∀ x ∈ els, x.length = k := by
  cases h with
  | sl0 => intro x hx; cases hx
  | sl _ _ b off len cap hl hc hm he =>
    intro x hx
    obtain ⟨j, hj⟩ := List.mem_iff_getElem?.1 hx
    exact (he.get hj).1

theorem cells_of {I : Imm} {w : World} {b : Nat} {vs : Array Value} {t : TypeId} (hb : w.heap[b]? = some (.cells vs t (0, 0))) : ∀ (ys : List AV) (zs : List Value) (o : Nat), RelL I w ys zs → (∀ j u, zs[j]? = some u → vs[o + j]? = some u) → (∀ j, j < ys.length → I b (o + j)) → Cells I w b o ys
  | [], _, o, _, _, _ => .nil _ _
  | y :: ys, _, o, .cons _ v _ zs hx ht, hz, hI => by
    refine .cons _ _ _ v _ (by rw [cell_of_blk hb]; simpa using hz 0 v rfl) (by simpa using hI 0 (by simp)) hx (cells_of hb ys zs (o + 1) ht (fun j u hu => ?_) (fun j hj => ?_))
    · have := hz (j + 1) u (by simpa using hu)
      have e : o + (j + 1) = o + 1 + j := by omega
      rwa [e] at this
    · have := hI (j + 1) (by simp; omega)
      have e : o + (j + 1) = o + 1 + j := by omega
      rwa [e] at this

theorem OL.appendOwn {s z : Operand} {t tx e k by_ k' : Nat} {els news : List (List AV)} {v : Value} {y : AV} {g1 g2 : Bool} {H' : Value → List Ent} [hA : HasApp P t (e, k, by_)] [hX : HasSl P tx k'] (hgd : o.guard = none) (hd : dstOk c.n o.dst = true)
    (h : o.op = .call { callee := .builtin .append, args := #[s, z], argTypes := #[t, tx] }) (hs : aev (envGet st.env) s = some (g1, .as (.sl k els) v)) (hg1 : g1 = true) (hz : aev (envGet st.env) z = some (g2, y)) (hg2 : g2 = true) (hy : AVle y (.sl k news))
    (h1 : news.all allOne = true) (hu : ∀ v', Upd st.H (.own e k v) (.own e k v') (H' v')) (hb : (els.length + news.length) * by_ ≤ 140737488355328) (hb' : els.length + news.length ≤ 9223372036854775807)
    (next : ∀ v', OL c r P ops rest ⟨putEnv o.dst (.as (.sl k (els ++ news)) v') st.env, H' v'⟩ Q) : OL c r P ops (o :: rest) st Q := by
  intro a w sat
  refine wpListIn_plain hgd fun K hK => ?_
  obtain ⟨I, hw, he, hh, hv⟩ := sat.mem
  obtain ⟨i, zv, hut, hi, hzz, hsz, hby, hzs, hk0⟩ := appInfo_spec hA.h
  obtain ⟨e', _, hu', _⟩ := slSize_spec hX.h
  have hsv0 := (hv.ops o).get (by simp [h, Op.operands, Call.operands]) hs hg1
  obtain ⟨hsv, hold⟩ : a.eval s = v ∧ Rel I w (.sl k els) v := by
    generalize a.eval s = u at hsv0
    cases hsv0 with
    | as _ _ hx => exact ⟨rfl, hx⟩
  have hzr := hy _ _ _ ((hv.ops o).get (by simp [h, Op.operands, Call.operands]) hz hg2)
  obtain ⟨us, r1, r2⟩ := src_of (P := P) (tx := tx) hu' hzr h1
  rw [← hsz] at r2
  obtain ⟨n, xs, hrow, hni⟩ := hh.ok _ (hu v).mem
  -- what is asked of what comes of it
  suffices hmain : ∃ v' I' w', (Builtin.append_ #[t, tx] o.type #[v, a.eval z]).run P w = .ok v' w' ∧ WOk c.B I' w' ∧ Ext c.B I w I' w' ∧ HeapOk c.B I' w' (H' v') ∧ Rel I' w' (.sl k (els ++ news)) v' by
    obtain ⟨v', I', w', e1, e2, e3, e4, e5⟩ := hmain
    refine Runs.of_value (R := fun x w'' => x = v' ∧ w'' = w') (E := fun _ _ => False) (by simp [h]) (run_appendOp h a w (by rw [hsv]; exact e1)) ⟨rfl, rfl⟩ K Q ?_ (fun _ _ h => h.elim)
    rintro x w'' ⟨rfl, rfl⟩
    refine hK _ _ (next x _ _ ⟨by rw [put_defers]; exact sat.ds, by rw [tmps_put_size]; exact sat.size, I', e2, he.trans e3, e4, ?_⟩)
    exact (hv.keep e3.keeps).put (by rw [sat.size]; exact hd) (.as _ _ e5)
  have hnl := hzr.elsLen
  have hol := hold.elsLen
  -- nothing is appended
  by_cases hn : news.length = 0
  · have hel : news = [] := List.eq_nil_of_length_eq_zero hn
    subst hel
    have hus : us = [] := by cases r1; rfl
    subst hus
    obtain ⟨ad, m, cp, hvv, hle⟩ : ∃ ad m cp, v = .slice ad m cp ∧ m ≤ cp := by
      rcases hrow.2 with ⟨rfl, _⟩ | ⟨g, cap, cur, rfl, _, _, hc, _⟩
      · exact ⟨_, _, _, rfl, Nat.le_refl _⟩
      · exact ⟨_, _, _, rfl, hc⟩
    have hr := run_append_nothing (P := P) w t tx o.type e i hut hi ad m cp hle (a.eval z) r2
    rw [← hvv] at hr
    exact ⟨v, I, w, hr, hw, Ext.refl _ _ _, hh.upd (hu v) ⟨fun _ _ x => x, fun _ _ _ => rfl⟩ (fun _ _ _ => rfl) (fun _ _ x => .inl x) ⟨n, xs, hrow, hni⟩ (fun _ hb => .inl hb), by simpa using hold⟩
  -- a new row
  have grown : ∀ (ad : Option Addr) (m old : Nat) (olds : List Value), m = els.length → RelL I w els.flatten olds → (Builtin.firstCells i.size m (.slice ad m old)).run P w.drew = .ok olds.toArray w.drew → old < m + news.length → v = .slice ad m old →
      ∃ v' I' w', (Builtin.append_ #[t, tx] o.type #[v, a.eval z]).run P w = .ok v' w' ∧ WOk c.B I' w' ∧ Ext c.B I w I' w' ∧ HeapOk c.B I' w' (H' v') ∧ Rel I' w' (.sl k (els ++ news)) v' := by
    intro ad m old olds hm hrel hfc hlt hveq
    subst hm
    have hnc : Builtin.nextslicecap (els.length + news.length) old * i.bytes ≤ 281474976710656 := growslice_fits hlt (by rw [hby]; exact hb)
    have hr := run_append_grow_src (P := P) w t tx o.type e i zv hut hi hzz ad els.length old olds hfc (a.eval z) news.length us r2 hlt (by omega) hnc
    rw [← hveq] at hr
    generalize hG : grownCap w (els.length + news.length) old e = G at hr
    have hge : els.length + news.length ≤ G := by rw [← hG]; exact grownCap_ge w _ old e
    have hcm : G ≤ maxLen := by rw [← hG]; exact grownCap_le_maxLen w _ old e (by simp only [maxLen]; omega)
    generalize hcur : (olds ++ us).toArray ++ Builtin.zeroCells zv.cells (G - (els.length + news.length)) = cur at hr
    have hlo : olds.length = els.length * k := by rw [hrel.length, flatten_len hol]
    have hlu : us.length = news.length * k := by rw [r1.length, flatten_len hnl]
    have hcs : cur.size = G * k := by
      rw [← hcur]
      simp only [Array.size_append, List.size_toArray, List.length_append, size_zeroCells, hzs, hlo, hlu, ← Nat.add_mul]
      congr 1; omega
    have hxlen : (olds ++ us).length = (els.length + news.length) * k := by rw [List.length_append, hlo, hlu, Nat.add_mul]
    have htk : cur.toList.take ((els.length + news.length) * k) = olds ++ us := by
      rw [← hcur, ← hxlen, Array.toList_append]
      exact List.take_left
    -- the first cells become immutable, the spare ones stay private
    have hwd := hw.drew
    let I' : Imm := fun b o => I b o ∨ (b = w.heap.size ∧ o < (els.length + news.length) * k)
    have hkk : Keeps I w I' (w.drew.alloc (.cells cur e)) := ⟨fun _ _ x => .inl x, fun b o x => (keeps_alloc hwd _).cell b o x⟩
    have hnew : (w.drew.alloc (.cells cur e)).heap[w.heap.size]? = some (.cells cur e (0, 0)) := heap_alloc_new w.drew _
    refine ⟨.slice (some ⟨w.heap.size, 0, none⟩) (els.length + news.length) G, I', _, hr, ⟨(hwd.alloc _).base, fun b o hx => ?_⟩, ⟨hkk.imm, hkk.cell, (ext_drew.trans (ext_alloc hwd (.cells cur e))).below⟩, ?_, ?_⟩
    · rcases hx with hx | ⟨rfl, hx⟩
      · exact (hwd.alloc _).there b o hx
      · have : o < cur.size := by rw [hcs]; exact Nat.lt_of_lt_of_le hx (Nat.mul_le_mul_right k hge)
        exact ⟨cur[o], by rw [cell_of_blk hnew]; exact Array.getElem?_eq_getElem this⟩
    · refine hh.upd (hu _) hkk (fun b hlt _ => Below.heap_alloc w.drew _ b hlt) (fun b o hx => hx.elim .inl (fun hx => .inr (.inr (by rw [hx.1]; exact Nat.le_refl _)))) ?_ (fun b hb => .inr ?_)
      · refine ⟨els.length + news.length, olds ++ us, ⟨hxlen, .inr ⟨w.heap.size, G, cur, rfl, hw.base, hnew, hge, hcm, hcs, htk⟩⟩, fun g hg o ho hI => ?_⟩
        simp [Value.ownBlock] at hg; subst hg
        rcases hI with hI | ⟨_, hI⟩
        · exact absurd (hw.lt hI) (Nat.lt_irrefl _)
        · omega
      · simp [Ent.foot, Value.ownBlock] at hb; omega
    · refine .sl _ _ _ _ _ _ (by simp) hge hcm (els_of_cells _ _ (fun x hx => (List.mem_append.1 hx).elim (hol x) (hnl x)) ?_)
      rw [List.flatten_append]
      refine cells_of hnew _ (olds ++ us) 0 ((hrel.append r1).keep hkk) (fun j u hu => ?_) (fun j hj => .inr ⟨rfl, ?_⟩)
      · rw [← htk, List.getElem?_take] at hu
        split at hu
        · simpa using hu
        · cases hu
      · rw [← List.flatten_append, flatten_len (fun x hx => (List.mem_append.1 hx).elim (hol x) (hnl x)), List.length_append] at hj
        omega
  rcases hrow.2 with ⟨hv0, hn0⟩ | ⟨g, cap, cur, hv1, hBg, hg, hnc, hcm, hcs, htake⟩
  · -- from nil
    subst hv0
    have hel : els = [] := by
      cases hold with
      | sl0 => rfl
    subst hel
    exact grown none 0 0 [] rfl .nil (by simp [Builtin.firstCells]) (by simp; omega) rfl
  · subst hv1
    have hnels : n = els.length := by cases hold with
      | sl0 => rfl
      | sl _ _ _ _ _ _ hl _ _ _ => exact hl.symm
    subst hnels
    have hcells : Els I w k g 0 els := by cases hold with
      | sl0 => exact .nil _ _ _
      | sl _ _ _ _ _ _ _ _ _ he => exact he
    obtain ⟨olds, q1, q2, q3⟩ := hcells.values
    have hcl : ∀ j u, olds[j]? = some u → cur[j]? = some u := fun j u hu => by
      have := q3 j u hu
      have e1 : (⟨g, 0, none⟩ : Addr).add j = ⟨g, j, none⟩ := by unfold Addr.add; split <;> simp_all
      rw [e1, cell_of_blk hg] at this
      exact this
    have holds : olds = xs := by
      rw [← htake]
      apply List.ext_getElem?
      intro j
      rw [List.getElem?_take]
      by_cases hj : j < els.length * k
      · rw [if_pos hj]
        have hlt : j < olds.length := by omega
        rw [List.getElem?_eq_getElem hlt]
        have := hcl j _ (List.getElem?_eq_getElem hlt)
        simpa using this.symm
      · rw [if_neg hj, List.getElem?_eq_none (by omega)]
    by_cases hroom : els.length + news.length ≤ cap
    · -- in place
      have hfit : els.length * i.size + us.length ≤ cur.size := by rw [hcs, r2.newsLen, hsz, ← Nat.add_mul]; exact Nat.mul_le_mul_right _ hroom
      have hlu : us.length = news.length * k := by rw [r1.length, flatten_len hnl]
      have hst := run_storeCells_at P g (els.length * i.size) e us 0 cur w hg (by simpa using hfit) r2.one
      simp only [Nat.add_zero] at hst
      have hr : (Builtin.append_ #[t, tx] o.type #[.slice (some ⟨g, 0, none⟩) els.length cap, a.eval z]).run P w = .ok (.slice (some ⟨g, 0, none⟩) (els.length + news.length) cap) (w.setRow g (cur.toList.take (els.length * i.size) ++ us ++ cur.toList.drop (els.length * i.size + us.length)).toArray) := by
        rcases r2.kind with ⟨e'', hk⟩ | hk <;> simp [Builtin.append_, run_underlying hut, run_underlying hk, sizeOf, typeInfo, hi, r2.len, hroom, r2.cells, Addr.add_lit, hst]
      rw [hsz] at hr
      generalize hcur' : (cur.toList.take (els.length * k) ++ us ++ cur.toList.drop (els.length * k + us.length)).toArray = cur' at hr
      have hblk : (w.setRow g cur').heap[g]? = some (.cells cur' e (0, 0)) := setRow_heap w g cur cur' e (0, 0) hg
      let I' : Imm := fun b o => I b o ∨ (b = g ∧ o < (els.length + news.length) * k)
      have hcs' : cur'.size = cap * k := by
        rw [← hcur']
        simp only [List.size_toArray, List.length_append, List.length_take, List.length_drop, Array.length_toList]
        rw [hsz] at hfit
        omega
      have htk' : cur'.toList.take ((els.length + news.length) * k) = xs ++ us := by
        rw [← hcur', htake]
        have : (els.length + news.length) * k = (xs ++ us).length := by rw [List.length_append, hrow.1, hlu, Nat.add_mul]
        rw [this]
        exact List.take_left
      have hold' : ∀ j, j < els.length * k → cur'[j]? = cur[j]? := fun j hj => by
        rw [← hcur']
        have h0 : j < cur.size := by rw [hcs]; exact Nat.lt_of_lt_of_le hj (Nat.mul_le_mul_right k hnc)
        simp only [List.getElem?_toArray]
        rw [List.append_assoc, List.getElem?_append_left (by simp; omega), List.getElem?_take, if_pos hj]
        simp
      have hkk : Keeps I w I' (w.setRow g cur') := ⟨fun _ _ x => .inl x, fun b o x => by
        by_cases hb : b = g
        · subst hb
          have ho : o < els.length * k := Nat.lt_of_not_le fun hle => hni b rfl o hle x
          rw [cell_of_blk hblk, cell_of_blk hg]
          exact hold' o ho
        · exact World.cell?_of_block (a := ⟨b, o, none⟩) (setRow_other w g b cur' hb)⟩
      refine ⟨_, I', _, hr, ⟨by simpa using hw.base, fun b o hx => ?_⟩, ⟨hkk.imm, hkk.cell, ⟨rfl, rfl, rfl, by simp, fun j hj => setRow_other w g j cur' (by omega)⟩⟩, ?_, ?_⟩
      · rcases hx with hx | ⟨rfl, hx⟩
        · rw [hkk.cell b o hx]; exact hw.there b o hx
        · have : o < cur'.size := by rw [hcs']; exact Nat.lt_of_lt_of_le hx (Nat.mul_le_mul_right k hroom)
          exact ⟨cur'[o], by rw [cell_of_blk hblk]; exact Array.getElem?_eq_getElem this⟩
      · refine hh.upd (hu _) hkk (fun b hlt hne => setRow_other w g b cur' (fun e => hne (by subst e; rfl))) (fun b o hx => hx.elim .inl (fun hx => .inr (.inl (by rw [hx.1]; rfl)))) ?_ (fun b hb => .inl hb)
        refine ⟨els.length + news.length, xs ++ us, ⟨by rw [List.length_append, hrow.1, hlu, Nat.add_mul], .inr ⟨g, cap, cur', rfl, hBg, hblk, hroom, hcm, hcs', htk'⟩⟩, fun g' hg' o ho hI => ?_⟩
        simp [Value.ownBlock] at hg'; subst hg'
        rcases hI with hI | ⟨_, hI⟩
        · exact hni g rfl o (Nat.le_trans (Nat.mul_le_mul_right k (by omega)) ho) hI
        · omega
      · refine .sl _ _ _ _ _ _ (by simp) hroom hcm (els_of_cells _ _ (fun x hx => (List.mem_append.1 hx).elim (hol x) (hnl x)) ?_)
        rw [List.flatten_append]
        rw [holds] at q1
        refine cells_of hblk _ (xs ++ us) 0 ((q1.append r1).keep hkk) (fun j u hu => ?_) (fun j hj => .inr ⟨rfl, ?_⟩)
        · rw [← htk', List.getElem?_take] at hu
          split at hu
          · simpa using hu
          · cases hu
        · rw [← List.flatten_append, flatten_len (fun x hx => (List.mem_append.1 hx).elim (hol x) (hnl x)), List.length_append] at hj
          omega
    · refine grown (some ⟨g, 0, none⟩) els.length cap olds rfl q1 ?_ (by omega) rfl
      rw [hsz]
      exact run_firstCells_some w.drew k els.length ⟨g, 0, none⟩ els.length cap olds q2 (by simpa using q3)
end
end Go.Eng

/- The engine, part 9: results, function values, ranges over functions. No condition: general lemmas over any program. -/
set_option linter.unusedVariables false
set_option linter.unusedSimpArgs false
namespace Go.Eng
open Go.RowKit (Below)

/-! ### results -/
inductive ResOk (P : Program) (st : St) : List ResultVar → List AV → Prop
  | nil : ResOk P st [] []
  | tmp {t : Nat} {y : AV} {rs : List ResultVar} {ys : List AV} (h : aev (envGet st.env) (.tmp t) = some (true, y)) (r : ResOk P st rs ys) : ResOk P st (.tmp t :: rs) (y :: ys)
  | cellA {t ty b off tb n : Nat} {cs zs : List AV} {rs : List ResultVar} {ys : List AV} (hT : HasTy P ty (true, n)) (h : envGet st.env t = some (.p b off)) (hm : Ent.blk b tb cs ∈ st.H) (hz : (cs.drop off).take n = zs) (hn : Nat.beq zs.length n = true) (r : ResOk P st rs ys) : ResOk P st (.cell t ty :: rs) (.agg zs :: ys)
  | cell1 {t ty b off tb n : Nat} {cs : List AV} {z : AV} {rs : List ResultVar} {ys : List AV} (hT : HasTy P ty (false, n)) (h : envGet st.env t = some (.p b off)) (hm : Ent.blk b tb cs ∈ st.H) (hz : cs[off]? = some z) (r : ResOk P st rs ys) : ResOk P st (.cell t ty :: rs) (z :: ys)
  | ptrA {t ty n : Nat} {cs : List AV} {rs : List ResultVar} {ys : List AV} (hT : HasTy P ty (true, n)) (h : envGet st.env t = some (.ptr cs)) (hn : Nat.ble n cs.length = true) (r : ResOk P st rs ys) : ResOk P st (.cell t ty :: rs) (.agg (cs.take n) :: ys)
  | ptr1 {t ty n : Nat} {cs : List AV} {z : AV} {rs : List ResultVar} {ys : List AV} (hT : HasTy P ty (false, n)) (h : envGet st.env t = some (.ptr cs)) (hz : cs[0]? = some z) (r : ResOk P st rs ys) : ResOk P st (.cell t ty :: rs) (z :: ys)

def resStep (tmps : Array Value) : ResultVar → Sem Value
  | .tmp t => pure (tmps.getD t undef)
  | .cell a t => do loadVar t (← asAddr (tmps.getD a undef))

theorem ResOk.run {c : Ctx} {P : Program} {st : St} {a : Act} {w : World} {I : Imm} (hh : HeapOk c.B I w st.H) (hv : EnvOk I w (envGet st.env) a) : ∀ {rs : List ResultVar} {ys : List AV}, ResOk P st rs ys →
    ∃ vs, (rs.mapM (resStep a.tmps)).run P w = .ok vs w ∧ RelL I w ys vs := by
  intro rs ys h
  have stepped : ∀ {r : ResultVar} {rs : List ResultVar} {y : AV} {ys : List AV} {v : Value}, (resStep a.tmps r).run P w = .ok v w → Rel I w y v → (∃ vs, (rs.mapM (resStep a.tmps)).run P w = .ok vs w ∧ RelL I w ys vs) → ∃ vs, ((r :: rs).mapM (resStep a.tmps)).run P w = .ok vs w ∧ RelL I w (y :: ys) vs := by
    rintro r rs y ys v h1 h2 ⟨vs, h3, h4⟩
    exact ⟨v :: vs, by simp only [List.mapM_cons, Sem.run_bind, h1, h3, Result.andThen_ok, Sem.run_pure], .cons _ _ _ _ h2 h4⟩
  induction h with
  | nil => exact ⟨[], rfl, .nil⟩
  | @tmp t y rs ys h r ih =>
    refine stepped (v := a.tmps.getD t undef) rfl ?_ ih
    unfold aev at h
    cases hx : aeval (envGet st.env) (.tmp t) with
    | none => simp [hx] at h
    | some z => simp [hx] at h; exact rel_strip (hv t z hx) h rfl
  | @cellA t ty b off tb n cs zs rs ys hT h hm hz hn r ih =>
    have h0 := rel_val (hv t _ h)
    obtain ⟨_, vs, hb, hr, _⟩ := hh.ok _ hm
    have hrel : RelL I w zs ((vs.toList.drop off).take n) := by rw [← hz]; exact (hr.drop off).take n
    have hlen : ((vs.toList.drop off).take n).length = n := by rw [hrel.length]; exact Nat.eq_of_beq_eq_true hn
    have hl := run_loadVar_agg (P := P) hT.h b off ((vs.toList.drop off).take n) w hlen (fun j v hj => by
      rw [cell_of_blk hb]
      rw [List.getElem?_take] at hj
      split at hj
      · simpa using hj
      · cases hj)
    refine stepped (v := .agg ((vs.toList.drop off).take n).toArray) ?_ (.agg _ _ (by simpa using hrel)) ih
    simp [resStep, h0, asAddr, hl]
  | @cell1 t ty b off tb n cs z rs ys hT h hm hz r ih =>
    have h0 := rel_val (hv t _ h)
    obtain ⟨_, vs, hb, hr, _⟩ := hh.ok _ hm
    obtain ⟨v, h1, h2⟩ := hr.get hz
    have hl := run_loadVar_one (P := P) hT.h b off v w (by rw [cell_of_blk hb]; simpa using h1)
    refine stepped (v := v) ?_ h2 ih
    simp [resStep, h0, asAddr, hl]
  | @ptrA t ty n cs rs ys hT h hn r ih =>
    have h0 := hv t _ h
    generalize hu : a.tmps.getD t undef = u at h0
    cases h0 with
    | ptr _ b o hc =>
      obtain ⟨vs, h1, h2⟩ := (hc.take n).values
      have hlen : vs.length = n := by rw [h1.length, List.length_take]; exact Nat.min_eq_left (Nat.le_of_ble_eq_true hn)
      have hl := run_loadVar_agg (P := P) hT.h b o vs w hlen h2
      refine stepped (v := .agg vs.toArray) ?_ (.agg _ _ (by simpa using h1)) ih
      simp only [resStep, hu, asAddr, Sem.run_bind, Sem.run_pure, Result.andThen_ok, hl]
  | @ptr1 t ty n cs z rs ys hT h hz r ih =>
    have h0 := hv t _ h
    generalize hu : a.tmps.getD t undef = u at h0
    cases h0 with
    | ptr _ b o hc =>
      obtain ⟨v, h1, _, h2⟩ := hc.get hz
      have hl := run_loadVar_one (P := P) hT.h b o v w (by simpa using h1)
      refine stepped (v := v) ?_ h2 ih
      simp only [resStep, hu, asAddr, Sem.run_bind, Sem.run_pure, Result.andThen_ok, hl]

def tupOf : List AV → AV
  | [x] => x
  | xs => .tup xs

theorem ResOk.res {c : Ctx} {P : Program} {st : St} {a : Act} {w : World} {I : Imm} (hh : HeapOk c.B I w st.H) (hv : EnvOk I w (envGet st.env) a) {fn : Func} {rs : List ResultVar} (hr : fn.results = rs.toArray) {ys : List AV} (h : ResOk P st rs ys) :
    ∃ v, (results fn a.tmps).run P w = .ok v w ∧ Rel I w (tupOf ys) v := by
  obtain ⟨vs, h1, h2⟩ := h.run hh hv
  have hf : (results fn a.tmps).run P w = .ok (if h : vs.length = 1 then vs[0] else .tuple vs.toArray) w := by
    unfold Go.results
    rw [hr, List.mapM_toArray]
    simp only [Sem.run_bind, Sem.run_map]
    have key : ∀ g : ResultVar → Sem Value, (∀ r, g r = resStep a.tmps r) → (rs.mapM g).run P w = .ok vs w := fun g hg => by rw [show g = resStep a.tmps from funext hg]; exact h1
    rw [key _ (fun r => by cases r <;> rfl)]
    simp
  refine ⟨_, hf, ?_⟩
  cases h2 with
  | nil => exact .tup _ _ .nil
  | cons x v xs vs hx ht =>
    cases ht with
    | nil => simpa [tupOf] using hx
    | cons y u xs vs hy ht => exact .tup _ _ (.cons _ _ _ _ hx (.cons _ _ _ _ hy ht))

section
variable {c : Ctx} {r : Option Nat} {P : Program} {ops : Array Oper} {l rest : List Oper} {o : Oper} {st : St} {Q : Exit → Act → World → Prop} {x : AV}

theorem Done.retR {fn : Func} {B : Nat} {I0 : Imm} {w0 : World} {n : Nat} {Φ : AV → List Ent → Prop} {E : AV → Prop} {rs : List ResultVar} {ys zs : List AV} {H' : List Ent} (hr : fn.results = rs.toArray) (h : ResOk P st rs ys) (hle : AVleL ys zs)
    (hH : H'.Sublist st.H) (hΦ : Φ (tupOf zs) H') : Done ⟨B, I0, w0, n, []⟩ st .ret (bodyPost P fn (RetP B I0 w0 Φ E)) := by
  intro a w s
  obtain ⟨I, hw, he, hh, hv⟩ := s.mem
  obtain ⟨v, h1, h2⟩ := h.res (c := ⟨B, I0, w0, n, []⟩) hh hv hr
  refine ⟨s.ds, v, h1, I, H', hw, he, hh.sub hH, .inl ⟨v, _, rfl, ?_, hΦ⟩⟩
  revert h2
  cases hle with
  | nil => exact id
  | cons hx ht =>
    cases ht with
    | nil => exact hx _ _ _
    | cons hy ht => exact AVle.tup (.cons hx (.cons hy ht)) _ _ _

theorem Done.norR {fn : Func} {B : Nat} {I0 : Imm} {w0 : World} {n : Nat} {Φ : AV → List Ent → Prop} {E : AV → Prop} {rs : List ResultVar} {ys zs : List AV} {H' : List Ent} (hr : fn.results = rs.toArray) (h : ResOk P st rs ys) (hle : AVleL ys zs)
    (hH : H'.Sublist st.H) (hΦ : Φ (tupOf zs) H') : Done ⟨B, I0, w0, n, []⟩ st .normal (bodyPost P fn (RetP B I0 w0 Φ E)) :=
  fun a w s => Done.retR hr h hle hH hΦ a w s

/-! ### function values -/
/-- a function value, called -/
def FCall (P : Program) (v : Value) (vs : List Value) (w : World) (R : Ending → World → Prop) : Prop :=
  (∃ f vf vc, v = .func (.func f) vf vc ∧ fnOk P f = true ∧ Calls P f (vf ++ vs.toArray ++ vc) w R) ∨
  (∃ l, v = .func (.yield l) #[] #[] ∧ YieldAt (FW none) 0 P l vs.toArray w R)

def VCall (B : Nat) (P : Program) (g : AV) (xs : List AV) (H : List Ent) (Φ : AV → List Ent → Prop) (E : AV → Prop) : Prop :=
  ∀ (I : Imm) (w : World) (v : Value) (vs : List Value), WOk B I w → HeapOk B I w H → Rel I w g v → RelL I w xs vs → FCall P v vs w (RetP B I w Φ E)

theorem VCall.fn {B : Nat} {f : FuncId} {fs xs cs : List AV} {H : List Ent} {Φ : AV → List Ent → Prop} {E : AV → Prop} (h : ACall P f (fs ++ xs ++ cs) H Φ E) : VCall B P (.fn (.func f) fs cs) xs H Φ E := by
  intro I w v vs hw hh hv hvs
  cases hv with
  | fn _ _ _ vf vc hf hc =>
    refine .inl ⟨f, vf, vc, rfl, h.1, ?_⟩
    have := h.2 B I w (vf.toList ++ vs ++ vc.toList) hw hh ((hf.append hvs).append hc)
    have e : (vf.toList ++ vs ++ vc.toList).toArray = vf ++ vs.toArray ++ vc := by apply Array.ext'; simp
    rwa [e] at this

/-- a contract of a function at one bound -/
def BCall (B : Nat) (P : Program) (f : FuncId) (xs : List AV) (H : List Ent) (Φ : AV → List Ent → Prop) (E : AV → Prop) : Prop :=
  fnOk P f = true ∧ ∀ (I : Imm) (w : World) (vs : List Value), WOk B I w → HeapOk B I w H → RelL I w xs vs → Calls P f vs.toArray w (RetP B I w Φ E)

theorem ACall.b {B : Nat} {f : FuncId} {xs : List AV} {H : List Ent} {Φ : AV → List Ent → Prop} {E : AV → Prop} (h : ACall P f xs H Φ E) : BCall B P f xs H Φ E := ⟨h.1, h.2 B⟩

theorem VCall.fnB {B : Nat} {f : FuncId} {fs xs cs : List AV} {H : List Ent} {Φ : AV → List Ent → Prop} {E : AV → Prop} (h : BCall B P f (fs ++ xs ++ cs) H Φ E) : VCall B P (.fn (.func f) fs cs) xs H Φ E := by
  intro I w v vs hw hh hv hvs
  cases hv with
  | fn _ _ _ vf vc hf hc =>
    refine .inl ⟨f, vf, vc, rfl, h.1, ?_⟩
    have := h.2 I w (vf.toList ++ vs ++ vc.toList) hw hh ((hf.append hvs).append hc)
    have e : (vf.toList ++ vs ++ vc.toList).toArray = vf ++ vs.toArray ++ vc := by apply Array.ext'; simp
    rwa [e] at this

theorem VCall.bcall {B : Nat} {f : FuncId} {xs : List AV} {H : List Ent} {Φ : AV → List Ent → Prop} {E : AV → Prop} (hok : fnOk P f = true) (h : VCall B P (.fn (.func f) [] []) xs H Φ E) : BCall B P f xs H Φ E := by
  refine ⟨hok, fun I w vs hw hh hvs => ?_⟩
  rcases h I w (.func (.func f) #[] #[]) vs hw hh (.fn _ _ _ _ _ .nil .nil) hvs with ⟨f', vf, vc, e, _, hc⟩ | ⟨l, e, _⟩
  · simp only [Value.func.injEq, Fn.func.injEq] at e
    obtain ⟨rfl, rfl, rfl⟩ := e
    simpa using hc
  · simp at e

theorem BCall.of {B : Nat} {f : FuncId} {fn : Func} {code : Code} {xs : List AV} {H : List Ent} {Φ : AV → List Ent → Prop} {E : AV → Prop} {n : Nat} (hf : P.funcs[f]? = some fn) (hb : fn.body = some code) (hnm : (fn.name == "runtime.NumGoroutine") = false)
    (hn : fn.ntmps = n) (hl : Nat.ble xs.length n = true) (h : ∀ I w, CW ⟨B, I, w, n, []⟩ none P code ⟨envOf 0 xs, H⟩ (bodyPost P fn (RetP B I w Φ E))) : BCall B P f xs H Φ E := by
  refine ⟨by simp [fnOk, hf, hb, hnm], fun I w vs hw hh hv => calls_of_FW (n := 0) (callsIn_of_wp hf hb trivial ?_ rfl)⟩
  refine h I w _ w ⟨rfl, ?_, I, hw, Ext.refl _ _ _, hh, fun t y hy => ?_⟩
  · have := hv.length
    have := Nat.le_of_ble_eq_true hl
    simp; omega
  · obtain ⟨v, h1, h2⟩ := hv.get (by have := (envOf_get xs 0 t y hy).2; simpa using this)
    have : (vs.toArray ++ Array.replicate (fn.ntmps - vs.toArray.size) undef).getD t undef = v := by
      have hlt := (List.getElem?_eq_some_iff.1 h1).1
      simp only [Array.getD_eq_getD_getElem?]
      rw [Array.getElem?_append_left (by simpa using hlt)]
      simp [h1]
    rw [this]; exact h2

theorem run_callYield {x : Operand} {args : Array Operand} {ts : Array TypeId} {l : Nat} (h : o.op = .call { callee := .value x, args := args, argTypes := ts }) (a : Act) (w : World)
    (hx : a.eval x = .func (.yield l) #[] #[]) {fn : FuncId} {tmps : Array Value} {assign body : Code} (hy : (Instr.yield l (args.map a.eval)).run P w = .ok (.round l fn tmps assign body) w) :
    (execOp a.eval o).run P w = .ok (.round l fn tmps assign body) w := by
  simp [execOp, h, resolve, hx, Deferred.ofValue, invoke, hy]

theorem OL.vcall {x : Operand} {args : Array Operand} {ts : Array TypeId} {gv : AV} {ys : List (Bool × AV)} {xs : List AV} {g : Bool} {Φ : AV → List Ent → Prop} {E : AV → Prop} (hgd : o.guard = none) (hd : dstOk c.n o.dst = true)
    (h : o.op = .call { callee := .value x, args := args, argTypes := ts }) (hx : aev (envGet st.env) x = some (g, gv)) (hg : g = true) (ha : aevs (envGet st.env) args.toList = some ys) (hys : ys.all (·.1) = true) (hle : AVleL (ys.map (·.2)) xs)
    (hv : VCall c.B P gv xs st.H Φ E) (next : ∀ y H', Φ y H' → OL c r P ops rest ⟨putEnv o.dst y st.env, H'⟩ Q)
    (pan : ∀ y H', E y → ∀ a w, Sat c ⟨st.env, H'⟩ a w → ∀ I v, Rel I w y v → Q (.panic [{ v, recovered := false }]) a w) : OL c r P ops (o :: rest) st Q := by
  intro a w s
  refine wpListIn_plain hgd fun K hK => ?_
  obtain ⟨I, hw, he, hh, henv⟩ := s.mem
  have h1 := (henv.ops o).get (by simp [h, Op.operands, Call.operands]) hx hg
  have h2 := hle.rel (aevs_rel (henv.ops o) args.toList ys (fun z hz => by simp [h, Op.operands, Call.operands]; right; simpa using hz) ha (by simpa using hys))
  have key : Runs P r o a w (fun v w' => ∃ I' H' x, WOk c.B I' w' ∧ Ext c.B I w I' w' ∧ HeapOk c.B I' w' H' ∧ Rel I' w' x v ∧ Φ x H')
    (fun ch w' => ∃ I' H' v x, WOk c.B I' w' ∧ Ext c.B I w I' w' ∧ HeapOk c.B I' w' H' ∧ ch = [{ v, recovered := false }] ∧ Rel I' w' x v ∧ E x) := by
    have conv : ∀ e w', RetP c.B I w Φ E e w' → match e with
        | .returned v => ∃ I' H' x, WOk c.B I' w' ∧ Ext c.B I w I' w' ∧ HeapOk c.B I' w' H' ∧ Rel I' w' x v ∧ Φ x H'
        | .panicked ch => ∃ I' H' v x, WOk c.B I' w' ∧ Ext c.B I w I' w' ∧ HeapOk c.B I' w' H' ∧ ch = [{ v, recovered := false }] ∧ Rel I' w' x v ∧ E x
        | .outgrown => False := by
      rintro e w' ⟨I', H', hw', he', hh', ⟨v, x, rfl, hx, hΦ⟩ | ⟨v, x, rfl, hx, hE⟩⟩
      · exact ⟨I', H', x, hw', he', hh', hx, hΦ⟩
      · exact ⟨I', H', v, x, hw', he', hh', rfl, hx, hE⟩
    rcases hv I w _ _ hw hh h1 h2 with ⟨f, vf, vc, e1, hok, hcall⟩ | ⟨l, e1, fn, tmps, assign, body, hy, hR⟩
    · refine Runs.of_enter (by simp [h]) (run_call h hok a w e1) (by
        have e2 : (args.toList.map a.eval).toArray = args.map a.eval := by apply Array.ext'; simp
        rw [e2] at hcall
        exact hcall.mono conv)
    · have e2 : (args.toList.map a.eval).toArray = args.map a.eval := by apply Array.ext'; simp
      rw [e2] at hy
      exact Runs.of_round (by simp [h]) (run_callYield h a w e1 hy) (hR.mono conv)
  refine key K Q ?_ ?_
  · rintro v w' ⟨I', H', x, hw', he', hh', hx, hΦ⟩
    refine hK _ _ (next x H' hΦ _ _ ⟨by rw [put_defers]; exact s.ds, by rw [tmps_put_size]; exact s.size, I', hw', he.trans he', hh', ?_⟩)
    exact (henv.keep he'.keeps).put (by rw [s.size]; exact hd) hx
  · rintro ch w' ⟨I', H', v, x, hw', he', hh', rfl, hx, hE⟩
    exact pan x H' hE a w' ⟨s.ds, s.size, I', hw', he.trans he', hh', henv.keep he'.keeps⟩ I' v hx

/-! ### the order of private memory -/
theorem HeapOk.perm {B : Nat} {I : Imm} {w : World} {H H' : List Ent} (h : HeapOk B I w H) (hp : H.Perm H') : HeapOk B I w H' :=
  ⟨fun e he => h.ok e (hp.mem_iff.2 he), (hp.pairwise_iff (fun {x y} hxy b hb hx => hxy b hx hb)).1 h.apart⟩
theorem Sat.perm {a : Act} {w : World} {H' : List Ent} (s : Sat c st a w) (hp : st.H.Perm H') : Sat c ⟨st.env, H'⟩ a w :=
  ⟨s.ds, s.size, let ⟨I, hw, hx, hh, hv⟩ := s.mem; ⟨I, hw, hx, hh.perm hp, hv⟩⟩
theorem OL.perm {H' : List Ent} (hp : st.H.Perm H') (h : OL c r P ops l ⟨st.env, H'⟩ Q) : OL c r P ops l st Q := fun a w s => h a w (s.perm hp)
theorem CW.perm {p : Code} {H' : List Ent} (hp : st.H.Perm H') (h : CW c r P p ⟨st.env, H'⟩ Q) : CW c r P p st Q := fun a w s => h a w (s.perm hp)
theorem Done.perm {e : Exit} {H' : List Ent} (hp : st.H.Perm H') (h : Done c ⟨st.env, H'⟩ e Q) : Done c st e Q := fun a w s => h a w (s.perm hp)
theorem OL.eqH {H' : List Ent} (hp : st.H = H') (h : OL c r P ops l ⟨st.env, H'⟩ Q) : OL c r P ops l st Q := fun a w s => h a w (hp ▸ s)
end
end Go.Eng
