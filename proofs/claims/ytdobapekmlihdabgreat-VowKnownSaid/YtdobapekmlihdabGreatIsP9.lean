/- Part 9 of the proof: contracts of functions of the program and what they need. No condition beyond those that each theorem names. -/
import Derived.Test.YtdobapekmlihdabGreatIsP8
import Derived.RecoverIn
import Derived.RangeFuncNested
set_option linter.unusedVariables false
set_option linter.unusedSimpArgs false
namespace Go.Ev
open Go.Eng
open Go.RowKit (Below)
structure Tk where
 x : CV
 env : Tr CV
 s : S
 s' : S
def wrE (l : List Oper) (q : Option Nat) (T : Nat → Option Tk) (i t : Nat) : Option (Option CV) :=
 match l[i]?, T i with
 | some o, some k => if o.dst = some t ∧ q ≠ some i then some (some k.x) else none
 | _, _ => none
def wrH (q : Option Nat) (T : Nat → Option Tk) (i j : Nat) : Option (Option CO) :=
 match T i with
 | some k => if k.s'.W.testBit j = true ∧ q ≠ some i then some (k.s'.h.get j) else none
 | none => none
theorem wrE_some {l : List Oper} {q : Option Nat} {T : Nat → Option Tk} {i t : Nat} (h : wrE l q T i t ≠ none) : ∃ o k, l[i]? = some o ∧ T i = some k ∧ o.dst = some t ∧ q ≠ some i := by
 unfold wrE at h
 cases ho : l[i]? with
 | none => rw [ho] at h; exact absurd rfl h
 | some o =>
  cases hk : T i with
  | none => rw [ho, hk] at h; exact absurd rfl h
  | some k =>
   rw [ho, hk] at h
   by_cases e : o.dst = some t ∧ q ≠ some i
   ·exact ⟨o, k, rfl, rfl, e.1, e.2⟩
   ·simp [e] at h
theorem wrH_some {q : Option Nat} {T : Nat → Option Tk} {i j : Nat} (h : wrH q T i j ≠ none) : ∃ k, T i = some k ∧ k.s'.W.testBit j = true ∧ q ≠ some i := by
 unfold wrH at h
 cases hk : T i with
 | none => rw [hk] at h; exact absurd rfl h
 | some k =>
  rw [hk] at h
  by_cases e : k.s'.W.testBit j = true ∧ q ≠ some i
  ·exact ⟨k, rfl, e.1, e.2⟩
  ·simp [e] at h
structure TOk (P : Program) (l : List Oper) (n : Nat) (q : Option Nat) (T : Nat → Option Tk) (e0 : Nat → Option CV) (h0 : Nat → Option CO) (n0 n1 : Nat) (Rt Wt : Nat → Prop) : Prop where
 len : ∀ i k, T i = some k → i < l.length
 sound : ∀ i o k, l[i]? = some o → T i = some k → (q ≠ some i ∧ (∀ e', (∀ t ∈ looks l o, e'.get t = k.env.get t) → guardV l e' o = some false) ∧ k.x = .tup [] ∧ k.s' = k.s) ∨ ((∀ e', (∀ t ∈ looks l o, e'.get t = k.env.get t) → guardV l e' o = some true) ∧ ∀ e', (∀ t ∈ looks l o, e'.get t = k.env.get t) → OpOk P e' o k.s (if q = some i then .pan k.x k.s' else .ok k.x k.s'))
 zero : ∀ i k, T i = some k → k.s.W = 0
 ev : ∀ i k, T i = some k → Ev k.s k.s'
 dst : ∀ i o k d, l[i]? = some o → T i = some k → q ≠ some i → o.dst = some d → d < n
 envAt : ∀ i o k, l[i]? = some o → T i = some k → ∀ t, k.env.get t = lastF (wrE l q T) (fun _ => true) e0 i t
 memAt : ∀ i k, T i = some k → ∀ j, k.s.h.get j = lastF (wrH q T) (fun _ => true) h0 i j
 wf : ∀ i k, T i = some k → ∀ j o, k.s.h.get j = some o → j < k.s.nx
 ordE1 : ∀ j i oj oi kj ki, j < i → l[j]? = some oj → l[i]? = some oi → T j = some kj → T i = some ki → ∀ t, oj.dst = some t → t ∈ looks l oi ∨ oi.dst = some t → ((masks l []).getD i 0).testBit j = true
 ordE2 : ∀ j i oj oi kj ki, j < i → l[j]? = some oj → l[i]? = some oi → T j = some kj → T i = some ki → ∀ t, oi.dst = some t → t ∈ looks l oj → ((masks l []).getD i 0).testBit j = true
 ordH1 : ∀ j i kj ki, j < i → T j = some kj → T i = some ki → ∀ k, ki.s'.W.testBit k = true → kj.s'.R.testBit k = true ∨ kj.s'.W.testBit k = true → ((masks l []).getD i 0).testBit j = true
 ordH2 : ∀ j i kj ki, j < i → T j = some kj → T i = some ki → ∀ k, ki.s'.R.testBit k = true → kj.s'.W.testBit k = true → ((masks l []).getD i 0).testBit j = true
 nxs : ∀ i k, T i = some k → n0 ≤ k.s.nx ∧ k.s'.nx ≤ n1
 own : ∀ j i kj ki x, T j = some kj → T i = some ki → kj.s.nx ≤ x → x < kj.s'.nx → ki.s.nx ≤ x → x < ki.s'.nx → j = i
 cov : ∀ i k, T i = some k → (∀ j, k.s'.R.testBit j = true → Rt j) ∧ ∀ j, k.s'.W.testBit j = true → Wt j
 idle : ∀ i j k x, q = some i → T j = some k → j ≠ i → k.s'.W.testBit x = true → j < i ∧ ((masks l []).getD i 0).testBit j = true
 all : ∀ i, i < l.length → T i = none → ∃ j, q = some j ∧ ((masks l []).getD i 0).testBit j = true
 qin : ∀ i, q = some i → ∃ k, T i = some k
 back : ∀ i o, l[i]? = some o → ∀ j ∈ deps o, j < i
section
variable {P : Program} {l : List Oper} {n : Nat} {q : Option Nat} {T : Nat → Option Tk} {e0 : Nat → Option CV} {h0 : Nat → Option CO} {n0 n1 : Nat} {Rt Wt : Nat → Prop}
theorem TOk.envEq (t : TOk P l n q T e0 h0 n0 n1 Rt Wt) {S : Nat → Bool} (hS : ShutS l S) {i : Nat} {o : Oper} {k : Tk} (ho : l[i]? = some o) (hk : T i = some k) (hm : ∀ j, ((masks l []).getD i 0).testBit j = true → S j = true) (hi : S i = false) {x : Nat} (hx : x ∈ looks l o) : lastF (wrE l q T) S e0 l.length x = k.env.get x := by
 have hil := t.len i k hk
 rw [t.envAt i o k ho hk x, ← lastF_upto (m := l.length) (by omega)]
 refine lastF_same fun j hj hw => ?_
 obtain ⟨oj, kj, hoj, hkj, hd, hq⟩ := wrE_some hw
 rcases Nat.lt_trichotomy j i with h | h | h
 ·rw [hm j (t.ordE1 j i oj o kj k h hoj ho hkj hk x hd (.inl hx))]
  exact (Nat.ble_eq_true_of_le h).symm
 ·subst h
  rw [hi]; symm; rw [Bool.eq_false_iff]; intro hb; have := blt_of hb; omega
 ·have h1 : Nat.blt j i = false := by rw [Bool.eq_false_iff]; intro hb; have := blt_of hb; omega
  rw [h1]
  cases hSj : S j with
  | false => rfl
  | true =>
   have := hS j oj hoj hSj i (t.ordE2 i j o oj k kj h ho hoj hk hkj x hd hx)
   rw [hi] at this; cases this
theorem TOk.memEq (t : TOk P l n q T e0 h0 n0 n1 Rt Wt) {S : Nat → Bool} (hS : ShutS l S) {i : Nat} {o : Oper} {k : Tk} (ho : l[i]? = some o) (hk : T i = some k) (hm : ∀ j, ((masks l []).getD i 0).testBit j = true → S j = true) (hi : S i = false) {x : Nat} (hx : k.s'.R.testBit x = true ∨ k.s'.W.testBit x = true) : lastF (wrH q T) S h0 l.length x = k.s.h.get x := by
 have hil := t.len i k hk
 rw [t.memAt i k hk x, ← lastF_upto (m := l.length) (by omega)]
 refine lastF_same fun j hj hw => ?_
 obtain ⟨kj, hkj, hd, hq⟩ := wrH_some hw
 rcases Nat.lt_trichotomy j i with h | h | h
 ·have : ((masks l []).getD i 0).testBit j = true := by
   rcases hx with hx | hx
   ·exact t.ordH2 j i kj k h hkj hk x hx hd
   ·exact t.ordH1 j i kj k h hkj hk x hx (.inr hd)
  rw [hm j this]
  exact (Nat.ble_eq_true_of_le h).symm
 ·subst h
  rw [hi]; symm; rw [Bool.eq_false_iff]; intro hb; have := blt_of hb; omega
 ·have h1 : Nat.blt j i = false := by rw [Bool.eq_false_iff]; intro hb; have := blt_of hb; omega
  rw [h1]
  cases hSj : S j with
  | false => rfl
  | true =>
   have hjl := t.len j kj hkj
   obtain ⟨oj, hoj⟩ : ∃ oj, l[j]? = some oj := ⟨l[j], List.getElem?_eq_getElem hjl⟩
   have := hS j oj hoj hSj i (t.ordH1 i j k kj h hk hkj x hd hx)
   rw [hi] at this; cases this
theorem TOk.envAdd (t : TOk P l n q T e0 h0 n0 n1 Rt Wt) {S : Nat → Bool} (hS : ShutS l S) {i : Nat} {o : Oper} {k : Tk} (ho : l[i]? = some o) (hk : T i = some k) (hi : S i = false) (hne : q ≠ some i) (x : Nat) : lastF (wrE l q T) (addS S i) e0 l.length x = if o.dst = some x then some k.x else lastF (wrE l q T) S e0 l.length x := by
 have hil := t.len i k hk
 by_cases e : o.dst = some x
 ·rw [if_pos e, lastF_add hi hil]
  ·simp [wrE, ho, hk, e, hne]
  ·intro j h1 h2 hw
   obtain ⟨oj, kj, hoj, hkj, hd, hq⟩ := wrE_some hw
   cases hSj : S j with
   | false => rfl
   | true =>
    have := hS j oj hoj hSj i (t.ordE1 i j o oj k kj h1 ho hoj hk hkj x e (.inr hd))
    rw [hi] at this; cases this
 ·rw [if_neg e]
  refine lastF_same fun j hj hw => ?_
  by_cases ej : j = i
  ·subst ej
   obtain ⟨oj, kj, hoj, hkj, hd, hq⟩ := wrE_some hw
   rw [ho] at hoj; cases hoj
   exact absurd hd e
  ·simp [addS, ej]
theorem TOk.memAdd (t : TOk P l n q T e0 h0 n0 n1 Rt Wt) {S : Nat → Bool} (hS : ShutS l S) {i : Nat} {o : Oper} {k : Tk} (ho : l[i]? = some o) (hk : T i = some k) (hi : S i = false) (hne : q ≠ some i) (x : Nat) : lastF (wrH q T) (addS S i) h0 l.length x = if k.s'.W.testBit x = true then k.s'.h.get x else lastF (wrH q T) S h0 l.length x := by
 have hil := t.len i k hk
 by_cases e : k.s'.W.testBit x = true
 ·rw [if_pos e, lastF_add hi hil]
  ·simp [wrH, hk, e, hne]
  ·intro j h1 h2 hw
   obtain ⟨kj, hkj, hd, hq⟩ := wrH_some hw
   cases hSj : S j with
   | false => rfl
   | true =>
    obtain ⟨oj, hoj⟩ : ∃ oj, l[j]? = some oj := ⟨l[j], List.getElem?_eq_getElem h2⟩
    have := hS j oj hoj hSj i (t.ordH1 i j k kj h1 hk hkj x hd (.inr e))
    rw [hi] at this; cases this
 ·rw [if_neg e]
  refine lastF_same fun j hj hw => ?_
  by_cases ej : j = i
  ·subst ej
   obtain ⟨kj, hkj, hd, hq⟩ := wrH_some hw
   rw [hk] at hkj; cases hkj
   exact absurd hd e
  ·simp [addS, ej]
end
structure MKF (P : Program) (K : Nat → Prop) (B : Nat) (ρ : Rho) (h : Nat → Option CO) (w : World) : Prop where
 obj : ∀ k o, K k → h k = some o → ∃ b n ob, ρ k = some (b, n) ∧ B ≤ b ∧ w.heap[b]? = some ob ∧ OR P ρ n o ob
 inj : ∀ k k' o o' b n n', K k → K k' → h k = some o → h k' = some o' → ρ k = some (b, n) → ρ k' = some (b, n') → k = k'
theorem MKF.to {P : Program} {K : Nat → Prop} {B : Nat} {ρ : Rho} {h : Nat → Option CO} {t : Tr CO} {w : World} (m : MKF P K B ρ h w) (e : ∀ k, K k → t.get k = h k) : MK P K B ρ t w :=
 ⟨fun k o hk ho => m.obj k o hk ((e k hk).symm.trans ho), fun k k' o o' b n n' hk hk' ho ho' => m.inj k k' o o' b n n' hk hk' ((e k hk).symm.trans ho) ((e k' hk').symm.trans ho')⟩
theorem MKF.of {P : Program} {K : Nat → Prop} {B : Nat} {ρ : Rho} {h : Nat → Option CO} {t : Tr CO} {w : World} (m : MK P K B ρ t w) (e : ∀ k, K k → t.get k = h k) : MKF P K B ρ h w :=
 ⟨fun k o hk ho => m.obj k o hk ((e k hk).trans ho), fun k k' o o' b n n' hk hk' ho ho' => m.inj k k' o o' b n n' hk hk' ((e k hk).trans ho) ((e k' hk').trans ho')⟩
theorem MKF.congr {P : Program} {K : Nat → Prop} {B : Nat} {ρ : Rho} {h h' : Nat → Option CO} {w : World} (m : MKF P K B ρ h w) (e : ∀ k, h' k = h k) : MKF P K B ρ h' w := by
 have : h' = h := funext e
 rw [this]; exact m
structure D0 (K : Nat → Prop) (B : Nat) (ρ0 : Rho) (w0 : World) (h0 : Nat → Option CO) (n0 n1 : Nat) (Rt Wt : Nat → Prop) : Prop where
 R : ∀ x, Rt x → K x
 W : ∀ x, Wt x → K x
 up : ∀ x, n0 ≤ x → K x
 base : B ≤ w0.heap.size
 fresh : ∀ x, n0 ≤ x → x < n1 → ρ0 x = none
structure DM (P : Program) (K : Nat → Prop) (B : Nat) (ρ0 : Rho) (w0 : World) (n0 n1 : Nat) (Wt : Nat → Prop) (T : Nat → Option Tk) (S : Nat → Bool) (h : Nat → Option CO) (ρ : Rho) (w : World) : Prop where
 ext : Le ρ0 ρ
 dom : ∀ x, (∀ i k, S i = true → T i = some k → k.s.nx ≤ x → x < k.s'.nx → False) → ρ x = ρ0 x
 mem : MKF P K B ρ h w
 size : w0.heap.size ≤ w.heap.size
 os : w.os = w0.os
 tape : w.tape = w0.tape
 out : w.output = w0.output
 frame : ∀ b, b < w0.heap.size → (∀ k n, Wt k → ρ0 k = some (b, n) → False) → w.heap[b]? = w0.heap[b]?
 newb : ∀ k b n, n0 ≤ k → k < n1 → ρ k = some (b, n) → w0.heap.size ≤ b ∨ ∃ j n', Wt j ∧ ρ0 j = some (b, n')
def Ki (k : Tk) (x : Nat) : Prop := k.s'.R.testBit x = true ∨ k.s'.W.testBit x = true ∨ k.s.nx ≤ x
section
variable {P : Program} {l : List Oper} {n : Nat} {q : Option Nat} {T : Nat → Option Tk} {e0 : Nat → Option CV} {h0 : Nat → Option CO} {n0 n1 : Nat} {Rt Wt : Nat → Prop}
variable {K : Nat → Prop} {B : Nat} {ρ0 : Rho} {w0 : World} {S : Nat → Bool} {h : Nat → Option CO} {ρ : Rho} {w : World}
theorem Ki.inK (t : TOk P l n q T e0 h0 n0 n1 Rt Wt) (c : D0 K B ρ0 w0 h0 n0 n1 Rt Wt) {i : Nat} {k : Tk} (hk : T i = some k) {x : Nat} (hx : Ki k x) : K x := by
 obtain ⟨h1, h2⟩ := t.cov i k hk
 rcases hx with hx | hx | hx
 ·exact c.R x (h1 x hx)
 ·exact c.W x (h2 x hx)
 ·exact c.up x (Nat.le_trans (t.nxs i k hk).1 hx)
theorem DM.pre (t : TOk P l n q T e0 h0 n0 n1 Rt Wt) (c : D0 K B ρ0 w0 h0 n0 n1 Rt Wt) (d : DM P K B ρ0 w0 n0 n1 Wt T S h ρ w) {i : Nat} {k : Tk} (hk : T i = some k) (hi : S i = false) (hh : ∀ x, (k.s'.R.testBit x = true ∨ k.s'.W.testBit x = true) → h x = k.s.h.get x) : Pre P (Ki k) B ρ k.s k.s' w := by
 refine ⟨⟨fun x hx => .inl hx, fun x hx => .inr (.inl hx), fun x hx => .inr (.inr hx)⟩, ?_, Nat.le_trans c.base d.size, fun x h1 h2 => ?_, t.wf i k hk⟩
 ·have key : ∀ x o, Ki k x → k.s.h.get x = some o → h x = some o := fun x o hx ho => by
   have := t.wf i k hk x o ho
   rcases hx with hx | hx | hx
   ·rw [hh x (.inl hx)]; exact ho
   ·rw [hh x (.inr hx)]; exact ho
   ·omega
  exact ⟨fun x o hx ho => d.mem.obj x o (Ki.inK t c hk hx) (key x o hx ho), fun x x' o o' b m m' hx hx' ho ho' => d.mem.inj x x' o o' b m m' (Ki.inK t c hk hx) (Ki.inK t c hk hx') (key x o hx ho) (key x' o' hx' ho')⟩
 ·rw [d.dom x fun j kj hj hkj h3 h4 => ?_]
  ·obtain ⟨h3, h4⟩ := t.nxs i k hk
   exact c.fresh x (by omega) (by omega)
  ·have := t.own j i kj k x hkj hk h3 h4 h1 h2
   subst this
   rw [hi] at hj; cases hj
theorem DM.step (t : TOk P l n q T e0 h0 n0 n1 Rt Wt) (c : D0 K B ρ0 w0 h0 n0 n1 Rt Wt) (d : DM P K B ρ0 w0 n0 n1 Wt T S h ρ w) {i : Nat} {k : Tk} (hk : T i = some k) (hi : S i = false) (hh : ∀ x, (k.s'.R.testBit x = true ∨ k.s'.W.testBit x = true) → h x = k.s.h.get x)
  {ρ2 : Rho} {w2 : World} (g : Go1 P (Ki k) B ρ k.s w ρ2 k.s' w2) : DM P K B ρ0 w0 n0 n1 Wt T (addS S i) (fun x => if k.s'.W.testBit x = true then k.s'.h.get x else h x) ρ2 w2 := by
 have p := d.pre t c hk hi hh
 have ev := t.ev i k hk
 have zW := t.zero i k hk
 obtain ⟨nx1, nx2⟩ := t.nxs i k hk
 obtain ⟨cR, cW⟩ := t.cov i k hk
 have wf' := ev.wf (t.wf i k hk)
 have old : ∀ j b m, k.s'.W.testBit j = true → ρ j = some (b, m) → ∃ o, h j = some o := fun j b m hj hρ => by
  have hlt : j < k.s'.nx := ev.wb (t.wf i k hk) (fun x hx => by rw [zW] at hx; simp at hx) j hj
  have hlt2 : j < k.s.nx := by
   rcases Nat.lt_or_ge j k.s.nx with h1 | h1
   ·exact h1
   ·rw [p.fresh j h1 hlt] at hρ; cases hρ
  rcases ev.was j hlt2 hj with h1 | ⟨o, h1⟩
  ·rw [zW] at h1; simp at h1
  ·exact ⟨o, by rw [hh j (.inr hj)]; exact h1⟩
 have Kw : ∀ j, k.s'.W.testBit j = true → K j := fun j hj => c.W j (cW j hj)
 have known : ∀ x o, K x → k.s'.W.testBit x = false → h x = some o → ∃ b m ob, ρ x = some (b, m) ∧ B ≤ b ∧ w2.heap[b]? = some ob ∧ OR P ρ m o ob ∧ b < w.heap.size := fun x o hK hx ho => by
  obtain ⟨b, m, ob, h1, h2, h3, h4⟩ := d.mem.obj x o hK ho
  have hb : b < w.heap.size := by
   rcases Nat.lt_or_ge b w.heap.size with h5 | h5
   ·exact h5
   ·rw [Array.getElem?_eq_none h5] at h3; cases h3
  refine ⟨b, m, ob, h1, h2, ?_, h4, hb⟩
  rw [g.frame b hb fun j m' hj hρ => ?_]
  ·exact h3
  ·obtain ⟨o', ho'⟩ := old j b m' hj hρ
   have := d.mem.inj x j o o' b m m' hK (Kw j hj) ho ho' h1 hρ
   subst this
   rw [hj] at hx; cases hx
 have backρ : ∀ x b m, ρ2 x = some (b, m) → ρ x = some (b, m) ∨ (k.s.nx ≤ x ∧ x < k.s'.nx) := fun x b m hx => by
  by_cases hr : x < k.s.nx ∨ k.s'.nx ≤ x
  ·rw [g.dom x hr] at hx; exact .inl hx
  ·exact .inr (by omega)
 have notNew : ∀ x b m, ρ x = some (b, m) → ¬ (k.s.nx ≤ x ∧ x < k.s'.nx) := fun x b m hx ⟨h1, h2⟩ => by
  rw [p.fresh x h1 h2] at hx; cases hx
 have mix : ∀ x y o' b m m', K x → K y → k.s'.W.testBit x = true → k.s'.W.testBit y = false → h y = some o' → ρ2 x = some (b, m) → ρ2 y = some (b, m') → False := fun x y o' b m m' hKx hKy hx hy ho' h1 h2 => by
  obtain ⟨b', m'', ob, e1, e2, e3, e4, e5⟩ := known y o' hKy hy ho'
  have := g.ext y _ e1
  rw [this] at h2; cases h2
  have viaOld : ∀ z mz, k.s'.W.testBit z = true → ρ z = some (b, mz) → False := fun z mz hz hρ => by
   obtain ⟨o2, ho2⟩ := old z b mz hz hρ
   have := d.mem.inj z y o2 o' b mz m' (Kw z hz) hKy ho2 ho' hρ e1
   subst this
   rw [hz] at hy; cases hy
  rcases backρ x b m h1 with h3 | ⟨h3, h4⟩
  ·exact viaOld x m hx h3
  ·rcases g.newb x b m h3 h4 h1 with h5 | ⟨j, mj, h5, h6⟩
   ·omega
   ·exact viaOld j mj h5 h6
 refine ⟨d.ext.trans g.ext, fun x hx => ?_, ⟨fun x o hK ho => ?_, fun x y o o' b m m' hKx hKy ho ho' h1 h2 => ?_⟩, Nat.le_trans d.size g.size, g.os.trans d.os, g.tape.trans d.tape, g.out.trans d.out, fun b hb hf => ?_, fun x b m h1 h2 h3 => ?_⟩
 ·have hr : x < k.s.nx ∨ k.s'.nx ≤ x := by
   rcases Nat.lt_or_ge x k.s.nx with h1 | h1
   ·exact .inl h1
   ·rcases Nat.lt_or_ge x k.s'.nx with h2 | h2
    ·exact absurd (hx i k (by simp [addS]) hk h1 h2) id
    ·exact .inr h2
  rw [g.dom x hr]
  refine d.dom x fun j kj hj hkj => hx j kj ?_ hkj
  unfold addS; split
  ·rfl
  ·exact hj
 ·by_cases hW : k.s'.W.testBit x = true
  ·simp only [hW, if_true] at ho
   exact g.mem.obj x o (.inr (.inl hW)) ho
  ·simp only [hW, if_false] at ho
   obtain ⟨b, m, ob, e1, e2, e3, e4, _⟩ := known x o hK (by simpa using hW) (by simpa using ho)
   exact ⟨b, m, ob, g.ext x _ e1, e2, e3, e4.le g.ext⟩
 ·by_cases hW : k.s'.W.testBit x = true
  ·by_cases hW' : k.s'.W.testBit y = true
   ·simp only [hW, hW', if_true] at ho ho'
    exact g.mem.inj x y o o' b m m' (.inr (.inl hW)) (.inr (.inl hW')) ho ho' h1 h2
   ·simp only [hW', if_false] at ho'
    exact (mix x y o' b m m' hKx hKy hW (by simpa using hW') (by simpa using ho') h1 h2).elim
  ·simp only [hW, if_false] at ho
   by_cases hW' : k.s'.W.testBit y = true
   ·exact (mix y x o b m' m hKy hKx hW' (by simpa using hW) (by simpa using ho) h2 h1).elim
   ·simp only [hW', if_false] at ho'
    obtain ⟨b1, m1, ob1, e1, _⟩ := known x o hKx (by simpa using hW) (by simpa using ho)
    obtain ⟨b2, m2, ob2, e2, _⟩ := known y o' hKy (by simpa using hW') (by simpa using ho')
    rw [g.ext x _ e1] at h1; cases h1
    rw [g.ext y _ e2] at h2; cases h2
    exact d.mem.inj x y o o' b m m' hKx hKy (by simpa using ho) (by simpa using ho') e1 e2
 ·have h1 := d.frame b hb hf
  rw [← h1]
  refine g.frame b (Nat.lt_of_lt_of_le hb d.size) fun j m hj hρ => ?_
  by_cases hn : n0 ≤ j ∧ j < n1
  ·rcases d.newb j b m hn.1 hn.2 hρ with h2 | ⟨j', m', h2, h3⟩
   ·omega
   ·exact hf j' m' h2 h3
  ·rw [d.dom j fun i' k' h2 h3 h4 h5 => hn ⟨Nat.le_trans (t.nxs i' k' h3).1 h4, Nat.lt_of_lt_of_le h5 (t.nxs i' k' h3).2⟩] at hρ
   exact hf j m (cW j hj) hρ
 ·rcases backρ x b m h3 with h4 | ⟨h4, h5⟩
  ·exact d.newb x b m h1 h2 h4
  ·rcases g.newb x b m h4 h5 h3 with h6 | ⟨j, mj, h6, h7⟩
   ·exact .inl (Nat.le_trans d.size h6)
   ·by_cases hn : n0 ≤ j ∧ j < n1
    ·exact d.newb j b mj hn.1 hn.2 h7
    ·rw [d.dom j fun i' k' h2 h3 h4 h5 => hn ⟨Nat.le_trans (t.nxs i' k' h3).1 h4, Nat.lt_of_lt_of_le h5 (t.nxs i' k' h3).2⟩] at h7
     exact .inr ⟨j, mj, cW j h6, h7⟩
end
structure DA (l : List Oper) (q : Option Nat) (T : Nat → Option Tk) (e0 : Nat → Option CV) (n : Nat) (ds : List Deferred) (S : Nat → Bool) (ρ : Rho) (a : Act) : Prop where
 tm : a.tmps.size = n
 env : ∀ t x, lastF (wrE l q T) S e0 l.length t = some x → CR ρ x (a.tmps.getD t undef)
 ds : a.defers = ds
section
variable {P : Program} {l : List Oper} {n : Nat} {q : Option Nat} {T : Nat → Option Tk} {e0 : Nat → Option CV} {h0 : Nat → Option CO} {n0 n1 : Nat} {Rt Wt : Nat → Prop}
variable {K : Nat → Prop} {B : Nat} {ρ0 : Rho} {w0 : World} {ds : List Deferred} {rr : Option Nat} {Q : Exit → Act → World → Prop}
theorem DA.envc (t : TOk P l n q T e0 h0 n0 n1 Rt Wt) {S : Nat → Bool} {ρ : Rho} {a : Act} (d : DA l q T e0 n ds S ρ a) (hS : ShutS l S) {i : Nat} {o : Oper} {k : Tk} (ho : l[i]? = some o) (hk : T i = some k) (hm : ∀ j, ((masks l []).getD i 0).testBit j = true → S j = true) (hi : S i = false) : EnvC ρ (k.env.restr fun t => (looks l o).contains t) a := by
 intro x v hv
 rw [Tr.get_restr] at hv
 split at hv
 ·rename_i hc
  exact d.env x v (by rw [t.envEq hS ho hk hm hi (by simpa using hc)]; exact hv)
 ·cases hv
theorem DA.put (t : TOk P l n q T e0 h0 n0 n1 Rt Wt) {S : Nat → Bool} {ρ ρ2 : Rho} {a : Act} (d : DA l q T e0 n ds S ρ a) (hS : ShutS l S) {i : Nat} {o : Oper} {k : Tk} (ho : l[i]? = some o) (hk : T i = some k) (hi : S i = false) (hne : q ≠ some i) (hl : Le ρ ρ2) {v : Value} (hx : CR ρ2 k.x v) : DA l q T e0 n ds (addS S i) ρ2 (a.put o.dst v) := by
 refine ⟨by rw [tmps_put_size]; exact d.tm, fun x y hy => ?_, by rw [put_defers]; exact d.ds⟩
 rw [t.envAdd hS ho hk hi hne] at hy
 split at hy
 ·rename_i hd
  cases hy
  rw [hd, tmps_put_same (by rw [d.tm]; exact t.dst i o k x ho hk hne hd)]
  exact hx
 ·rename_i hd
  have hget : (a.put o.dst v).tmps.getD x undef = a.tmps.getD x undef := by
   cases hod : o.dst with
   | none => rfl
   | some dd => exact tmps_put_other fun e => hd (by rw [hod, e])
  rw [hget]
  exact (d.env x y hy).le hl
theorem draw_run (t : TOk P l n q T e0 h0 n0 n1 Rt Wt) (c : D0 K B ρ0 w0 h0 n0 n1 Rt Wt)
  (hQn : q = none → ∀ ρ a w, DM P K B ρ0 w0 n0 n1 Wt T (fun i => Nat.blt i l.length) (lastF (wrH q T) (fun _ => true) h0 l.length) ρ w → DA l q T e0 n ds (fun _ => true) ρ a → Q .normal a w)
  (hQp : ∀ i k, q = some i → T i = some k → ∀ S ρ ρ2 a w v, DM P K B ρ0 w0 n0 n1 Wt T (addS S i) (fun x => k.s'.h.get x) ρ2 w → DA l q T e0 n ds S ρ a → Le ρ ρ2 → CR ρ2 k.x v → Q (.panic [{ v := v, recovered := false }]) a w) :
  ∀ (cnt fuel : Nat) (listed : Array Bool) (ρ : Rho) (a : Act) (w : World), listed.size = l.length → (cnt = (List.range l.length).countP fun i => !listed.getD i false) → cnt ≤ fuel → Closed l (fun i => listed.getD i false = true) →
   (∀ i, q = some i → listed.getD i false = false) → DM P K B ρ0 w0 n0 n1 Wt T (fun s => listed.getD s false) (lastF (wrH q T) (fun s => listed.getD s false) h0 l.length) ρ w → DA l q T e0 n ds (fun s => listed.getD s false) ρ a →
   wpAnyIn (FW rr) 0 P .any l.toArray Q fuel listed a w := by
 have fin : ∀ (listed : Array Bool) (ρ : Rho) (a : Act) (w : World), listed.size = l.length → Closed l (fun i => listed.getD i false = true) → (∀ i, q = some i → listed.getD i false = false) → DM P K B ρ0 w0 n0 n1 Wt T (fun s => listed.getD s false) (lastF (wrH q T) (fun s => listed.getD s false) h0 l.length) ρ w → DA l q T e0 n ds (fun s => listed.getD s false) ρ a →
   (∀ i, i < l.length → listed.getD i false = true) → Q .normal a w := by
  intro listed ρ a w hsz hcl hq d e hall
  have hqn : q = none := by
   cases hq' : q with
   | none => rfl
   | some i =>
    exfalso
    have h1 := hq i hq'
    obtain ⟨k, hk⟩ := t.qin i hq'
    rw [hall i (t.len i k hk)] at h1; cases h1
  refine hQn hqn ρ a w ⟨d.ext, fun x hx => d.dom x fun i k hi hk => hx i k (Nat.ble_eq_true_of_le (t.len i k hk)) hk, d.mem.congr fun x => ?_, d.size, d.os, d.tape, d.out, d.frame, d.newb⟩ ⟨e.tm, fun x y hy => e.env x y ?_, e.ds⟩
  ·exact lastF_same fun j hj _ => (hall j hj).symm
  ·rw [← hy]
   exact lastF_same fun j hj _ => hall j hj
 have first : ∀ (listed : Array Bool), listed.size = l.length → Region.ready .any l.toArray listed = [] → ∀ i, i < l.length → listed.getD i false = true := by
  intro listed hsz h0 i
  induction i using Nat.strongRecOn with
  | _ i ih =>
   intro hi
   cases hx : listed.getD i false with
   | true => rfl
   | false =>
    exfalso
    have hok : l[i]? = some l[i] := List.getElem?_eq_getElem hi
    have : i ∈ Region.ready .any l.toArray listed := by
     rw [mem_ready]
     refine ⟨by rw [getD_true_iff (by omega)]; exact hx, l[i], by simp, fun e he hb => ?_⟩
     have hlt := t.back i _ hok e.on (by simp only [deps, List.mem_filterMap]; exact ⟨e, by simpa using he, by simp [hb]⟩)
     exact ih _ hlt (by omega)
    rw [h0] at this; cases this
 intro cnt
 induction cnt with
 | zero =>
  intro fuel listed ρ a w hsz hcnt hfu hcl hq d e
  have hall : ∀ i, i < l.length → listed.getD i false = true := by
   intro i hi
   have := List.countP_eq_zero.1 hcnt.symm i (by simpa using hi)
   simpa using this
  have hr : Region.ready .any l.toArray listed = [] := by
   cases hr : Region.ready .any l.toArray listed with
   | nil => rfl
   | cons i rs =>
    exfalso
    have hi : i ∈ Region.ready .any l.toArray listed := by rw [hr]; simp
    obtain ⟨h1, o, h2, _⟩ := mem_ready.1 hi
    have hlt : i < l.length := by
     have := (Array.getElem?_eq_some_iff.1 h2).1
     simpa using this
    rw [getD_true_iff (by omega), hall i hlt] at h1; cases h1
  exact wpAnyIn_done hr (fin listed ρ a w hsz hcl hq d e hall) fuel
 | succ cnt ih =>
  intro fuel listed ρ a w hsz hcnt hfu hcl hq d e
  obtain ⟨fuel, rfl⟩ : ∃ f, fuel = f + 1 := ⟨fuel - 1, by omega⟩
  refine ⟨fun h0 => fin listed ρ a w hsz hcl hq d e (first listed hsz h0), fun i hi => ?_⟩
  obtain ⟨h1, o, h2, h3⟩ := mem_ready.1 hi
  have ho : l[i]? = some o := by simpa using h2
  have hlt : i < l.length := (List.getElem?_eq_some_iff.1 ho).1
  rw [getD_true_iff (by omega)] at h1
  have hdeps : ∀ k ∈ deps o, listed.getD k false = true := by
   intro k hk
   simp only [deps, List.mem_filterMap] at hk
   obtain ⟨e, he, hb⟩ := hk
   split at hb
   ·rename_i hbi; simp at hb; subst hb; exact h3 e (by simpa using he) hbi
   ·cases hb
  have hms : ∀ s, s < l.length → (masks l [])[s]? = some ((masks l []).getD s 0) := by
   intro s hs
   have : s < (masks l []).length := by rw [masks_len]; simpa using hs
   simp [List.getD, this]
  have hanc := masks_spec l _ hcl l [] (by simp) (by simp) (by simp) i _ o (hms i hlt) ho hdeps
  have hshut : ShutS l fun s => listed.getD s false := fun s os hos hs j hj => by
   have hsl : s < l.length := (List.getElem?_eq_some_iff.1 hos).1
   exact masks_spec l _ hcl l [] (by simp) (by simp) (by simp) s _ _ (hms s hsl) hos (fun j hj => hcl s _ hs hos j hj) j hj
  obtain ⟨k, hk⟩ : ∃ k, T i = some k := by
   cases hT : T i with
   | some k => exact ⟨k, rfl⟩
   | none =>
    exfalso
    obtain ⟨j, hj, hj2⟩ := t.all i hlt hT
    have := hanc j hj2
    rw [hq j hj] at this; cases this
  have hset : ∀ j, (listed.setIfInBounds i true).getD j false = if i = j then true else listed.getD j false := fun j => getD_set _ _ _ (by omega)
  have hsetS : (fun s => (listed.setIfInBounds i true).getD s false) = addS (fun s => listed.getD s false) i := by
   funext j
   rw [hset]
   unfold addS
   by_cases e : i = j
   ·rw [if_pos e, if_pos e.symm]
   ·rw [if_neg e, if_neg fun h => e h.symm]
  have go : q ≠ some i → ∀ (ρ2 : Rho) (v : Value) (w2 : World), Go1 P (Ki k) B ρ k.s w ρ2 k.s' w2 → CR ρ2 k.x v → wpAnyIn (FW rr) 0 P .any l.toArray Q fuel (listed.setIfInBounds i true) (a.put o.dst v) w2 := by
   intro hne ρ2 v w2 g hx
   have d2 := d.step t c hk h1 (fun x hx => t.memEq hshut ho hk hanc h1 hx) g
   have e2 := e.put t hshut ho hk h1 hne g.ext hx
   refine ih fuel (listed.setIfInBounds i true) ρ2 _ w2 (by simp [hsz]) ?_ (by omega) ?_ ?_ ?_ (by rw [hsetS]; exact e2)
   ·have key : ∀ (n : Nat), (List.range n).countP (fun j => !listed.getD j false) = (List.range n).countP (fun j => !(listed.setIfInBounds i true).getD j false) + (if i < n then 1 else 0) := by
     intro n
     induction n with
     | zero => simp
     | succ n ihn =>
      rw [List.range_succ, List.countP_append, List.countP_append, ihn]
      simp only [List.countP_cons, List.countP_nil, Nat.zero_add, hset n]
      by_cases e : i = n
      ·subst e
       rw [if_neg (Nat.lt_irrefl _), if_pos (Nat.lt_succ_self _), if_pos rfl, h1]
       simp
      ·rw [if_neg e]
       by_cases hlt' : i < n
       ·rw [if_pos hlt', if_pos (Nat.lt_succ_of_lt hlt')]; omega
       ·rw [if_neg hlt', if_neg (show ¬ i < n + 1 by omega)]; omega
    have := key l.length
    rw [if_pos hlt] at this
    omega
   ·intro j oj hj hoj k' hk
    rw [hset]
    by_cases e : i = k'
    ·rw [if_pos e]
    ·rw [if_neg e]
     rw [hset] at hj
     by_cases e' : i = j
     ·subst e'
      rw [ho] at hoj; cases hoj
      exact hdeps k' hk
     ·rw [if_neg e'] at hj
      exact hcl j oj hj hoj k' hk
   ·intro j hj
    rw [hset, if_neg fun e => hne (by rw [e]; exact hj)]
    exact hq j hj
   ·rw [hsetS]
    exact ⟨d2.ext, d2.dom, d2.mem.congr fun x => t.memAdd hshut ho hk h1 hne x, d2.size, d2.os, d2.tape, d2.out, d2.frame, d2.newb⟩
  have pre := d.pre t c hk h1 (fun x hx => t.memEq hshut ho hk hanc h1 hx)
  have envc := e.envc t hshut ho hk hanc h1
  have agree : ∀ x ∈ looks l o, (k.env.restr fun t => (looks l o).contains t).get x = k.env.get x := fun x hx => by
   rw [Tr.get_restr, if_pos (by simpa using hx)]
  unfold wpOpIn
  simp only [h2]
  rcases t.sound i o k ho hk with ⟨hne, hg, hx, hs⟩ | ⟨hg, hop⟩
  ·rw [guard_sound (hg _ agree) envc, if_neg (by simp)]
   refine ⟨fun _ _ => trivial, go hne ρ undef w ?_ ?_⟩
   ·rw [hs]; exact Go1.refl pre.mem
   ·rw [hx]; exact .tup _ _ .nil
  ·rw [guard_sound (hg _ agree) envc, if_pos rfl]
   have hop := hop _ agree
   by_cases hqi : q = some i
   ·rw [if_pos hqi] at hop
    refine hop.2 (Ki k) B ρ rr a w pre envc _ Q (fun _ _ h => h.elim) ?_
    rintro ch w2 ⟨ρ2, v, rfl, g, hx⟩
    have d2 := d.step t c hk h1 (fun x hx => t.memEq hshut ho hk hanc h1 hx) g
    refine hQp i k hqi hk _ ρ ρ2 a w2 v ⟨d2.ext, d2.dom, d2.mem.congr fun x => ?_, d2.size, d2.os, d2.tape, d2.out, d2.frame, d2.newb⟩ e g.ext hx
    split
    ·rfl
    ·rename_i hW
     rw [(t.ev i k hk).keep x (by simpa using hW)]
     have hil := t.len i k hk
     rw [t.memAt i k hk x, ← lastF_upto (m := l.length) (by omega)]
     refine (lastF_same fun j hj hw => ?_).symm
     obtain ⟨kj, hkj, hd, hqj⟩ := wrH_some hw
     obtain ⟨h4, h5⟩ := t.idle i j kj x hqi hkj (fun e => hqj (by rw [e]; exact hqi)) hd
     show listed.getD j false = Nat.blt j i
     rw [hanc j h5]
     exact (Nat.ble_eq_true_of_le h4).symm
   ·rw [if_neg hqi] at hop
    exact hop.2 (Ki k) B ρ rr a w pre envc _ Q (fun v w2 ⟨ρ2, g, hx⟩ => go hqi ρ2 v w2 g hx) (fun _ _ h => h.elim)
end
theorem lastF_congr {β : Type} {wr wr' : Nat → Nat → Option β} {S : Nat → Bool} {z : Nat → β} {t : Nat} : ∀ {m : Nat}, (∀ j, j < m → wr j t = wr' j t) → lastF wr S z m t = lastF wr' S z m t
 | 0, _ => rfl
 | m + 1, h => by
  unfold lastF
  rw [h m (by omega), lastF_congr (m := m) fun j hj => h j (by omega)]
def updT (T : Nat → Option Tk) (i : Nat) (k : Tk) : Nat → Option Tk := fun j => if j = i then some k else T j
theorem updT_cases {T : Nat → Option Tk} {i j : Nat} {k kj : Tk} (h : updT T i k j = some kj) : (j = i ∧ kj = k) ∨ (j ≠ i ∧ T j = some kj) := by
 unfold updT at h
 split at h
 ·rename_i e; cases h; exact .inl ⟨e, rfl⟩
 ·rename_i e; exact .inr ⟨e, h⟩
theorem apart_spec {m R W : Nat} : ∀ {lg : List Lg}, apart m R W lg = true → ∀ j R' W', ⟨j, R', W'⟩ ∈ lg → (∀ x, W.testBit x = true → R'.testBit x = true ∨ W'.testBit x = true → m.testBit j = true) ∧ (∀ x, R.testBit x = true → W'.testBit x = true → m.testBit j = true)
 | [], _, j, R', W', h => by cases h
 | ⟨j0, R0, W0⟩ :: lg, ha, j, R', W', h => by
  unfold apart at ha
  cases hc : (m.testBit j0 || (Nat.beq (Nat.land W (Nat.lor R0 W0)) 0 && Nat.beq (Nat.land R W0) 0)) with
  | false => rw [hc] at ha; cases ha
  | true =>
   rw [hc, bif_t] at ha
   rcases List.mem_cons.1 h with e | h
   ·cases e
    rcases (Bool.or_eq_true _ _).mp hc with h1 | h1
    ·exact ⟨fun _ _ _ => h1, fun _ _ _ => h1⟩
    ·obtain ⟨h2, h3⟩ := (Bool.and_eq_true _ _).mp h1
     have h2 : W &&& (R0 ||| W0) = 0 := beq_of h2
     have h3 : R &&& W0 = 0 := beq_of h3
     refine ⟨fun x h4 h5 => ?_, fun x h4 h5 => ?_⟩
     ·have := congrArg (fun z => z.testBit x) h2
      simp only [Nat.testBit_and, Nat.testBit_or, Nat.zero_testBit, h4, Bool.true_and] at this
      rcases h5 with h5 | h5 <;> simp [h5] at this
     ·have := congrArg (fun z => z.testBit x) h3
      simp [h4, h5] at this
   ·exact apart_spec ha j R' W' h
theorem idle_spec {m : Nat} : ∀ {lg : List Lg}, idle m lg = true → ∀ j R' W', ⟨j, R', W'⟩ ∈ lg → ∀ x, W'.testBit x = true → m.testBit j = true
 | [], _, j, R', W', h => by cases h
 | ⟨j0, R0, W0⟩ :: lg, ha, j, R', W', h => by
  unfold idle at ha
  cases hc : (m.testBit j0 || Nat.beq W0 0) with
  | false => rw [hc] at ha; cases ha
  | true =>
   rw [hc, bif_t] at ha
   rcases List.mem_cons.1 h with e | h
   ·cases e
    intro x hx
    rcases (Bool.or_eq_true _ _).mp hc with h1 | h1
    ·exact h1
    ·rw [beq_of h1] at hx; simp at hx
   ·exact idle_spec ha j R' W' h
structure PR (P : Program) (l : List Oper) (n : Nat) (e0 : Nat → Option CV) (h0 : Nat → Option CO) (n0 : Nat) (q : Option Nat) (T : Nat → Option Tk) (i : Nat) (env : Tr CV) (h : Tr CO) (nx n1 R W : Nat) (lg : List Lg) : Prop where
 len : ∀ j k, T j = some k → j < i
 sound : ∀ i o k, l[i]? = some o → T i = some k → (q ≠ some i ∧ (∀ e', (∀ t ∈ looks l o, e'.get t = k.env.get t) → guardV l e' o = some false) ∧ k.x = .tup [] ∧ k.s' = k.s) ∨ ((∀ e', (∀ t ∈ looks l o, e'.get t = k.env.get t) → guardV l e' o = some true) ∧ ∀ e', (∀ t ∈ looks l o, e'.get t = k.env.get t) → OpOk P e' o k.s (if q = some i then .pan k.x k.s' else .ok k.x k.s'))
 zero : ∀ i k, T i = some k → k.s.W = 0
 ev : ∀ i k, T i = some k → Ev k.s k.s'
 dst : ∀ i o k d, l[i]? = some o → T i = some k → q ≠ some i → o.dst = some d → d < n
 envAt : ∀ i k, T i = some k → ∀ t, k.env.get t = lastF (wrE l q T) (fun _ => true) e0 i t
 memAt : ∀ i k, T i = some k → ∀ j, k.s.h.get j = lastF (wrH q T) (fun _ => true) h0 i j
 wf : ∀ i k, T i = some k → ∀ j o, k.s.h.get j = some o → j < k.s.nx
 ordH1 : ∀ j i kj ki, j < i → T j = some kj → T i = some ki → ∀ k, ki.s'.W.testBit k = true → kj.s'.R.testBit k = true ∨ kj.s'.W.testBit k = true → ((masks l []).getD i 0).testBit j = true
 ordH2 : ∀ j i kj ki, j < i → T j = some kj → T i = some ki → ∀ k, ki.s'.R.testBit k = true → kj.s'.W.testBit k = true → ((masks l []).getD i 0).testBit j = true
 nxs : ∀ i k, T i = some k → n0 ≤ k.s.nx ∧ k.s'.nx ≤ n1
 own : ∀ j i kj ki x, T j = some kj → T i = some ki → kj.s.nx ≤ x → x < kj.s'.nx → ki.s.nx ≤ x → x < ki.s'.nx → j = i
 cov : ∀ i k, T i = some k → (∀ j, k.s'.R.testBit j = true → R.testBit j = true) ∧ ∀ j, k.s'.W.testBit j = true → W.testBit j = true
 idle : ∀ i j k x, q = some i → T j = some k → j ≠ i → k.s'.W.testBit x = true → j < i ∧ ((masks l []).getD i 0).testBit j = true
 all : ∀ j, j < i → T j = none → ∃ z, q = some z ∧ ((masks l []).getD j 0).testBit z = true
 curE : ∀ t, env.get t = lastF (wrE l q T) (fun _ => true) e0 i t
 curH : ∀ j, h.get j = lastF (wrH q T) (fun _ => true) h0 i j
 curW : ∀ j o, h.get j = some o → j < nx
 lgs : ∀ j k, T j = some k → ∀ x, k.s'.R.testBit x = true ∨ k.s'.W.testBit x = true → ⟨j, k.s'.R, k.s'.W⟩ ∈ lg
 nx0 : n0 ≤ nx
 nx1 : nx ≤ n1
section
variable {P : Program} {l : List Oper} {n : Nat} {q : Option Nat} {T : Nat → Option Tk} {e0 : Nat → Option CV} {h0 : Nat → Option CO} {n0 nx n1 i R W : Nat} {env : Tr CV} {h : Tr CO} {lg : List Lg}
theorem wrE_upd {j t : Nat} {k : Tk} (hj : j ≠ i) : wrE l q (updT T i k) j t = wrE l q T j t := by
 unfold wrE updT; rw [if_neg hj]
theorem wrH_upd {j t : Nat} {k : Tk} (hj : j ≠ i) : wrH q (updT T i k) j t = wrH q T j t := by
 unfold wrH updT; rw [if_neg hj]
theorem PR.add (p : PR P l n e0 h0 n0 q T i env h nx n1 R W lg) {o : Oper} {x : CV} {R0 R' W' nx' n1' R2 W2 : Nat} {h' : Tr CO} {env' : Tr CV} {lg' : List Lg} (ho : l[i]? = some o) (hq : q ≠ some i)
  (hs : ((∀ e', (∀ t ∈ looks l o, e'.get t = env.get t) → guardV l e' o = some false) ∧ x = .tup [] ∧ (⟨h', nx', R', W'⟩ : S) = ⟨h, nx, R0, 0⟩) ∨ ((∀ e', (∀ t ∈ looks l o, e'.get t = env.get t) → guardV l e' o = some true) ∧ ∀ e', (∀ t ∈ looks l o, e'.get t = env.get t) → OpOk P e' o ⟨h, nx, R0, 0⟩ (.ok x ⟨h', nx', R', W'⟩)))
  (hev : Ev ⟨h, nx, R0, 0⟩ ⟨h', nx', R', W'⟩) (hput : putE n o.dst x env = some env') (hap : apart ((masks l []).getD i 0) R' W' lg = true) (hn : nx = n1 ∧ n1' = nx' ∨ nx' = nx ∧ n1' = n1)
  (hid : ∀ z, q = some z → W' = 0) (hlg : ∀ x ∈ lg, x ∈ lg') (hlg' : ∀ x, R'.testBit x = true ∨ W'.testBit x = true → ⟨i, R', W'⟩ ∈ lg') (hR : ∀ x, R.testBit x = true ∨ R'.testBit x = true → R2.testBit x = true) (hW : ∀ x, W.testBit x = true ∨ W'.testBit x = true → W2.testBit x = true) :
  PR P l n e0 h0 n0 q (updT T i ⟨x, env, ⟨h, nx, R0, 0⟩, ⟨h', nx', R', W'⟩⟩) (i + 1) env' h' nx' n1' R2 W2 lg' := by
 have hTi : T i = none := by
  cases hT : T i with
  | none => rfl
  | some k => have := p.len i k hT; omega
 have hnx : nx ≤ nx' := hev.nx
 have p1 := p.nx1
 have p0 := p.nx0
 have hdst : ∀ d, o.dst = some d → d < n := fun d hd => by
  rw [hd] at hput
  simp only [putE] at hput
  cases hb : Nat.blt d n with
  | false => rw [hb] at hput; cases hput
  | true => exact blt_of hb
 have lE : ∀ m t, m ≤ i → lastF (wrE l q (updT T i ⟨x, env, ⟨h, nx, R0, 0⟩, ⟨h', nx', R', W'⟩⟩)) (fun _ => true) e0 m t = lastF (wrE l q T) (fun _ => true) e0 m t := fun m t hm => lastF_congr fun j hj => wrE_upd (by omega)
 have lH : ∀ m t, m ≤ i → lastF (wrH q (updT T i ⟨x, env, ⟨h, nx, R0, 0⟩, ⟨h', nx', R', W'⟩⟩)) (fun _ => true) h0 m t = lastF (wrH q T) (fun _ => true) h0 m t := fun m t hm => lastF_congr fun j hj => wrH_upd (by omega)
 refine ⟨?_, ?_, ?_, ?_, ?_, ?_, ?_, ?_, ?_, ?_, ?_, ?_, ?_, ?_, ?_, ?_, ?_, ?_, ?_, by omega, by omega⟩
 ·intro j k hk
  rcases updT_cases hk with ⟨rfl, rfl⟩ | ⟨_, hk⟩
  ·omega
  ·have := p.len j k hk; omega
 ·intro j oj k hoj hk
  rcases updT_cases hk with ⟨rfl, rfl⟩ | ⟨_, hk⟩
  ·rw [ho] at hoj; cases hoj
   rcases hs with ⟨h1, h2, h3⟩ | ⟨h1, h2⟩
   ·exact .inl ⟨hq, h1, h2, h3⟩
   ·exact .inr ⟨h1, fun e' he => by rw [if_neg hq]; exact h2 e' he⟩
  ·exact p.sound j oj k hoj hk
 ·intro j k hk
  rcases updT_cases hk with ⟨rfl, rfl⟩ | ⟨_, hk⟩
  ·rfl
  ·exact p.zero j k hk
 ·intro j k hk
  rcases updT_cases hk with ⟨rfl, rfl⟩ | ⟨_, hk⟩
  ·exact hev
  ·exact p.ev j k hk
 ·intro j oj k d hoj hk hne hd
  rcases updT_cases hk with ⟨rfl, rfl⟩ | ⟨_, hk⟩
  ·rw [ho] at hoj; cases hoj
   exact hdst d hd
  ·exact p.dst j oj k d hoj hk hne hd
 ·intro j k hk t
  rcases updT_cases hk with ⟨rfl, rfl⟩ | ⟨_, hk⟩
  ·rw [lE _ _ (Nat.le_refl _)]; exact p.curE t
  ·rw [lE _ _ (by have := p.len j k hk; omega)]; exact p.envAt j k hk t
 ·intro j k hk t
  rcases updT_cases hk with ⟨rfl, rfl⟩ | ⟨_, hk⟩
  ·rw [lH _ _ (Nat.le_refl _)]; exact p.curH t
  ·rw [lH _ _ (by have := p.len j k hk; omega)]; exact p.memAt j k hk t
 ·intro j k hk
  rcases updT_cases hk with ⟨rfl, rfl⟩ | ⟨_, hk⟩
  ·exact p.curW
  ·exact p.wf j k hk
 ·intro j i' kj ki hlt hkj hki
  rcases updT_cases hkj with ⟨rfl, rfl⟩ | ⟨_, hkj2⟩
  ·rcases updT_cases hki with ⟨rfl, rfl⟩ | ⟨_, hki⟩
   ·omega
   ·have := p.len i' ki hki; omega
  ·rcases updT_cases hki with ⟨rfl, rfl⟩ | ⟨_, hki⟩
   ·intro z hz hz2
    exact (apart_spec hap j _ _ (p.lgs j kj hkj2 z hz2)).1 z hz hz2
   ·exact p.ordH1 j i' kj ki hlt hkj2 hki
 ·intro j i' kj ki hlt hkj hki
  rcases updT_cases hkj with ⟨rfl, rfl⟩ | ⟨_, hkj2⟩
  ·rcases updT_cases hki with ⟨rfl, rfl⟩ | ⟨_, hki⟩
   ·omega
   ·have := p.len i' ki hki; omega
  ·rcases updT_cases hki with ⟨rfl, rfl⟩ | ⟨_, hki⟩
   ·intro z hz hz2
    exact (apart_spec hap j _ _ (p.lgs j kj hkj2 z (.inr hz2))).2 z hz hz2
   ·exact p.ordH2 j i' kj ki hlt hkj2 hki
 ·intro j k hk
  rcases updT_cases hk with ⟨rfl, rfl⟩ | ⟨_, hk⟩
  ·exact ⟨p0, by show nx' ≤ n1'; omega⟩
  ·have := p.nxs j k hk; omega
 ·intro j i' kj ki z hkj hki
  rcases updT_cases hkj with ⟨rfl, rfl⟩ | ⟨_, hkj2⟩
  ·rcases updT_cases hki with ⟨rfl, rfl⟩ | ⟨_, hki⟩
   ·intros; rfl
   ·intro a1 a2 a3 a4
    simp only at a1 a2
    have := p.nxs i' ki hki; omega
  ·rcases updT_cases hki with ⟨rfl, rfl⟩ | ⟨_, hki⟩
   ·intro a1 a2 a3 a4
    simp only at a3 a4
    have := p.nxs j kj hkj2; omega
   ·exact p.own j i' kj ki z hkj2 hki
 ·intro j k hk
  rcases updT_cases hk with ⟨rfl, rfl⟩ | ⟨_, hk⟩
  ·exact ⟨fun z hz => hR z (.inr hz), fun z hz => hW z (.inr hz)⟩
  ·exact ⟨fun z hz => hR z (.inl ((p.cov j k hk).1 z hz)), fun z hz => hW z (.inl ((p.cov j k hk).2 z hz))⟩
 ·intro i' j k z hqi hk
  rcases updT_cases hk with ⟨rfl, rfl⟩ | ⟨_, hk⟩
  ·intro _ hz
   simp only [hid i' hqi] at hz
   simp at hz
  ·exact p.idle i' j k z hqi hk
 ·intro j hj hT
  by_cases e : j = i
  ·subst e; simp [updT] at hT
  ·refine p.all j (by omega) ?_
   unfold updT at hT; rwa [if_neg e] at hT
 ·intro t
  unfold lastF
  rw [lE i t (Nat.le_refl _), if_pos rfl, ← p.curE t]
  unfold wrE updT
  simp only [ho, if_true]
  cases hd : o.dst with
  | none =>
   rw [hd] at hput
   simp only [putE, Option.some.injEq] at hput; subst hput
   simp
  | some d =>
   rw [hd] at hput
   simp only [putE] at hput
   rw [show Nat.blt d n = true from Nat.ble_eq_true_of_le (hdst d hd), bif_t] at hput
   rw [Tr.get_set _ _ _ _ _ hput t]
   by_cases e : t = d
   ·subst e; simp [hq]
   ·rw [if_neg e, if_neg fun hh => e (Option.some.inj hh.1).symm]; rfl
 ·intro t
  unfold lastF
  rw [lH i t (Nat.le_refl _), if_pos rfl, ← p.curH t]
  unfold wrH updT
  simp only [if_true]
  by_cases e : W'.testBit t = true
  ·simp [e, hq]
  ·have e' : W'.testBit t = false := by simpa using e
   simp only [e', Bool.false_eq_true, false_and, if_false, Option.getD_none]
   exact hev.keep t e'
 ·exact hev.wf p.curW
 ·intro j k hk z hz
  rcases updT_cases hk with ⟨rfl, rfl⟩ | ⟨_, hk⟩
  ·exact hlg' z hz
  ·exact hlg _ (p.lgs j k hk z hz)
theorem PR.off (p : PR P l n e0 h0 n0 q T i env h nx n1 R W lg) {z : Nat} (hq : q = some z) (hm : ((masks l []).getD i 0).testBit z = true) : PR P l n e0 h0 n0 q T (i + 1) env h nx n1 R W lg := by
 have hTi : T i = none := by
  cases hT : T i with
  | none => rfl
  | some k => have := p.len i k hT; omega
 refine ⟨fun j k hk => by have := p.len j k hk; omega, p.sound, p.zero, p.ev, p.dst, p.envAt, p.memAt, p.wf, p.ordH1, p.ordH2, p.nxs, p.own, p.cov, p.idle, fun j hj hT => ?_, fun t => ?_, fun t => ?_, p.curW, p.lgs, p.nx0, p.nx1⟩
 ·by_cases e : j = i
  ·subst e; exact ⟨z, hq, hm⟩
  ·exact p.all j (by omega) hT
 ·unfold lastF
  rw [if_pos rfl, ← p.curE t]
  have : wrE l q T i t = none := by unfold wrE; rw [hTi]; split <;> first | rfl | (rename_i h1; cases h1)
  rw [this]; rfl
 ·unfold lastF
  rw [if_pos rfl, ← p.curH t]
  have : wrH q T i t = none := by unfold wrH; rw [hTi]
  rw [this]; rfl
theorem PR.pan (p : PR P l n e0 h0 n0 none T i env h nx nx R W lg) {o : Oper} {x : CV} {R' W' nx' R2 W2 : Nat} {h' : Tr CO} (ho : l[i]? = some o)
  (hg : ∀ e', (∀ t ∈ looks l o, e'.get t = env.get t) → guardV l e' o = some true) (hop : ∀ e', (∀ t ∈ looks l o, e'.get t = env.get t) → OpOk P e' o ⟨h, nx, 0, 0⟩ (.pan x ⟨h', nx', R', W'⟩))
  (hev : Ev ⟨h, nx, 0, 0⟩ ⟨h', nx', R', W'⟩) (hap : apart ((masks l []).getD i 0) R' W' lg = true) (hid : Go.Ev.idle ((masks l []).getD i 0) lg = true)
  (hR : ∀ x, R.testBit x = true ∨ R'.testBit x = true → R2.testBit x = true) (hW : ∀ x, W.testBit x = true ∨ W'.testBit x = true → W2.testBit x = true) :
  PR P l n e0 h0 n0 (some i) (updT T i ⟨x, env, ⟨h, nx, 0, 0⟩, ⟨h', nx', R', W'⟩⟩) (i + 1) env h nx nx' R2 W2 (⟨i, R', W'⟩ :: lg) := by
 have hTi : T i = none := by
  cases hT : T i with
  | none => rfl
  | some k => have := p.len i k hT; omega
 have hnx : nx ≤ nx' := hev.nx
 have p0 := p.nx0
 have cE : ∀ j t, j < i → wrE l (some i) (updT T i ⟨x, env, ⟨h, nx, 0, 0⟩, ⟨h', nx', R', W'⟩⟩) j t = wrE l none T j t := fun j t hj => by
  rw [wrE_upd (by omega)]
  unfold wrE
  simp [show ¬ i = j by omega]
 have cH : ∀ j t, j < i → wrH (some i) (updT T i ⟨x, env, ⟨h, nx, 0, 0⟩, ⟨h', nx', R', W'⟩⟩) j t = wrH none T j t := fun j t hj => by
  rw [wrH_upd (by omega)]
  unfold wrH
  simp [show ¬ i = j by omega]
 have lE : ∀ m t, m ≤ i → lastF (wrE l (some i) (updT T i ⟨x, env, ⟨h, nx, 0, 0⟩, ⟨h', nx', R', W'⟩⟩)) (fun _ => true) e0 m t = lastF (wrE l none T) (fun _ => true) e0 m t := fun m t hm => lastF_congr fun j hj => cE j t (by omega)
 have lH : ∀ m t, m ≤ i → lastF (wrH (some i) (updT T i ⟨x, env, ⟨h, nx, 0, 0⟩, ⟨h', nx', R', W'⟩⟩)) (fun _ => true) h0 m t = lastF (wrH none T) (fun _ => true) h0 m t := fun m t hm => lastF_congr fun j hj => cH j t (by omega)
 refine ⟨?_, ?_, ?_, ?_, ?_, ?_, ?_, ?_, ?_, ?_, ?_, ?_, ?_, ?_, ?_, ?_, ?_, ?_, ?_, p0, hnx⟩
 ·intro j k hk
  rcases updT_cases hk with ⟨rfl, rfl⟩ | ⟨_, hk⟩
  ·omega
  ·have := p.len j k hk; omega
 ·intro j oj k hoj hk
  rcases updT_cases hk with ⟨rfl, rfl⟩ | ⟨hne, hk⟩
  ·rw [ho] at hoj; cases hoj
   exact .inr ⟨hg, fun e' he => by rw [if_pos rfl]; exact hop e' he⟩
  ·have hne' : (some i : Option Nat) ≠ some j := fun e => hne (Option.some.inj e).symm
   rcases p.sound j oj k hoj hk with ⟨_, h1⟩ | ⟨h1, h2⟩
   ·exact .inl ⟨hne', h1⟩
   ·refine .inr ⟨h1, fun e' he => ?_⟩
    have := h2 e' he
    rw [if_neg (by simp)] at this
    rw [if_neg hne']; exact this
 ·intro j k hk
  rcases updT_cases hk with ⟨rfl, rfl⟩ | ⟨_, hk⟩
  ·rfl
  ·exact p.zero j k hk
 ·intro j k hk
  rcases updT_cases hk with ⟨rfl, rfl⟩ | ⟨_, hk⟩
  ·exact hev
  ·exact p.ev j k hk
 ·intro j oj k d hoj hk hne hd
  rcases updT_cases hk with ⟨rfl, rfl⟩ | ⟨_, hk⟩
  ·exact absurd rfl hne
  ·exact p.dst j oj k d hoj hk (by simp) hd
 ·intro j k hk t
  rcases updT_cases hk with ⟨rfl, rfl⟩ | ⟨_, hk⟩
  ·rw [lE _ _ (Nat.le_refl _)]; exact p.curE t
  ·rw [lE _ _ (by have := p.len j k hk; omega)]; exact p.envAt j k hk t
 ·intro j k hk t
  rcases updT_cases hk with ⟨rfl, rfl⟩ | ⟨_, hk⟩
  ·rw [lH _ _ (Nat.le_refl _)]; exact p.curH t
  ·rw [lH _ _ (by have := p.len j k hk; omega)]; exact p.memAt j k hk t
 ·intro j k hk
  rcases updT_cases hk with ⟨rfl, rfl⟩ | ⟨_, hk⟩
  ·exact p.curW
  ·exact p.wf j k hk
 ·intro j i' kj ki hlt hkj hki
  rcases updT_cases hkj with ⟨rfl, rfl⟩ | ⟨_, hkj2⟩
  ·rcases updT_cases hki with ⟨rfl, rfl⟩ | ⟨_, hki⟩
   ·omega
   ·have := p.len i' ki hki; omega
  ·rcases updT_cases hki with ⟨rfl, rfl⟩ | ⟨_, hki⟩
   ·intro z hz hz2
    exact (apart_spec hap j _ _ (p.lgs j kj hkj2 z hz2)).1 z hz hz2
   ·exact p.ordH1 j i' kj ki hlt hkj2 hki
 ·intro j i' kj ki hlt hkj hki
  rcases updT_cases hkj with ⟨rfl, rfl⟩ | ⟨_, hkj2⟩
  ·rcases updT_cases hki with ⟨rfl, rfl⟩ | ⟨_, hki⟩
   ·omega
   ·have := p.len i' ki hki; omega
  ·rcases updT_cases hki with ⟨rfl, rfl⟩ | ⟨_, hki⟩
   ·intro z hz hz2
    exact (apart_spec hap j _ _ (p.lgs j kj hkj2 z (.inr hz2))).2 z hz hz2
   ·exact p.ordH2 j i' kj ki hlt hkj2 hki
 ·intro j k hk
  rcases updT_cases hk with ⟨rfl, rfl⟩ | ⟨_, hk⟩
  ·exact ⟨p0, Nat.le_refl _⟩
  ·have := p.nxs j k hk; omega
 ·intro j i' kj ki z hkj hki
  rcases updT_cases hkj with ⟨rfl, rfl⟩ | ⟨_, hkj2⟩
  ·rcases updT_cases hki with ⟨rfl, rfl⟩ | ⟨_, hki⟩
   ·intros; rfl
   ·intro a1 a2 a3 a4
    simp only at a1 a2
    have := p.nxs i' ki hki; omega
  ·rcases updT_cases hki with ⟨rfl, rfl⟩ | ⟨_, hki⟩
   ·intro a1 a2 a3 a4
    simp only at a3 a4
    have := p.nxs j kj hkj2; omega
   ·exact p.own j i' kj ki z hkj2 hki
 ·intro j k hk
  rcases updT_cases hk with ⟨rfl, rfl⟩ | ⟨_, hk⟩
  ·exact ⟨fun z hz => hR z (.inr hz), fun z hz => hW z (.inr hz)⟩
  ·exact ⟨fun z hz => hR z (.inl ((p.cov j k hk).1 z hz)), fun z hz => hW z (.inl ((p.cov j k hk).2 z hz))⟩
 ·intro i' j k z hqi hk
  cases hqi
  rcases updT_cases hk with ⟨rfl, rfl⟩ | ⟨_, hk⟩
  ·intro h1; exact absurd rfl h1
  ·intro _ hz
   exact ⟨p.len j k hk, idle_spec hid j _ _ (p.lgs j k hk z (.inr hz)) z hz⟩
 ·intro j hj hT
  by_cases e : j = i
  ·subst e; simp [updT] at hT
  ·obtain ⟨z, hz, _⟩ := p.all j (by omega) (by unfold updT at hT; rwa [if_neg e] at hT)
   cases hz
 ·intro t
  unfold lastF
  rw [lE i t (Nat.le_refl _), if_pos rfl, ← p.curE t]
  unfold wrE updT
  simp [ho]
 ·intro t
  unfold lastF
  rw [lH i t (Nat.le_refl _), if_pos rfl, ← p.curH t]
  unfold wrH updT
  simp
 ·exact p.curW
 ·intro j k hk z hz
  rcases updT_cases hk with ⟨rfl, rfl⟩ | ⟨_, hk⟩
  ·exact .head _
  ·exact .tail _ (p.lgs j k hk z hz)
end
theorem lor_bit (a b j : Nat) : (Nat.lor a b).testBit j = (a.testBit j || b.testBit j) := Nat.testBit_or a b j
theorem shl_bit (k j : Nat) : (Nat.shiftLeft 1 k).testBit j = decide (k = j) := by
 have := bit_lor 0 k j
 rwa [show Nat.lor 0 (Nat.shiftLeft 1 k) = Nat.shiftLeft 1 k from Nat.zero_or _, Nat.zero_testBit, Bool.false_or] at this
theorem apart_zero (m : Nat) : ∀ lg : List Lg, apart m 0 0 lg = true
 | [] => rfl
 | x :: lg => by unfold apart; rw [apart_zero m lg]; simp
theorem tmBits_spec : ∀ (l : List Nat) (t : Nat), (tmBits l).testBit t = true ↔ t ∈ l
 | [], t => by simp [tmBits]
 | x :: l, t => by
  unfold tmBits
  rw [lor_bit, Bool.or_eq_true, tmBits_spec l t, shl_bit]
  simp only [decide_eq_true_eq, List.mem_cons]
  exact ⟨fun h => h.imp Eq.symm id, fun h => h.imp Eq.symm id⟩
theorem dstBit_spec (d : Option Nat) (t : Nat) : (dstBit d).testBit t = true ↔ d = some t := by
 cases d with
 | none => simp [dstBit]
 | some d => unfold dstBit; rw [shl_bit]; simp
def TmA (m j L D L' D' : Nat) : Prop := (∀ t, D'.testBit t = true → L.testBit t = true ∨ D.testBit t = true → m.testBit j = true) ∧ ∀ t, D.testBit t = true → L'.testBit t = true → m.testBit j = true
theorem tmApart_spec {m L D : Nat} : ∀ {tg : List Tm}, tmApart m L D tg = true → ∀ j L' D', ⟨j, L', D'⟩ ∈ tg → TmA m j L D L' D'
 | [], _, j, R', W', h => by cases h
 | ⟨j0, L0, D0⟩ :: tg, ha, j, L', D', h => by
  unfold tmApart at ha
  cases hc : (m.testBit j0 || (Nat.beq (Nat.land D0 (Nat.lor L D)) 0 && Nat.beq (Nat.land D L0) 0)) with
  | false => rw [hc] at ha; cases ha
  | true =>
   rw [hc, bif_t] at ha
   rcases List.mem_cons.1 h with e | h
   ·cases e
    rcases (Bool.or_eq_true _ _).mp hc with h1 | h1
    ·exact ⟨fun _ _ _ => h1, fun _ _ _ => h1⟩
    ·obtain ⟨h2, h3⟩ := (Bool.and_eq_true _ _).mp h1
     have h2 : D0 &&& (L ||| D) = 0 := beq_of h2
     have h3 : D &&& L0 = 0 := beq_of h3
     refine ⟨fun x h4 h5 => ?_, fun x h4 h5 => ?_⟩
     ·have := congrArg (fun z => z.testBit x) h2
      simp only [Nat.testBit_and, Nat.testBit_or, Nat.zero_testBit, h4, Bool.true_and] at this
      rcases h5 with h5 | h5 <;> simp [h5] at this
     ·have := congrArg (fun z => z.testBit x) h3
      simp [h4, h5] at this
   ·exact tmApart_spec ha j L' D' h
theorem tmOk_spec {all : List Oper} : ∀ {l : List Oper} {i : Nat} {ms : List Nat} {tg : List Tm}, tmOk all l i ms tg = true → ∀ a o, l[a]? = some o → ∃ m, ms[a]? = some m ∧ (∀ d ∈ deps o, d < i + a) ∧ (∀ j L' D', ⟨j, L', D'⟩ ∈ tg → TmA m j (tmBits (looks all o)) (dstBit o.dst) L' D') ∧ ∀ b ob, b < a → l[b]? = some ob → TmA m (i + b) (tmBits (looks all o)) (dstBit o.dst) (tmBits (looks all ob)) (dstBit ob.dst)
 | [], _, _, _, _, a, o, h => by simp at h
 | o0 :: l, i, ms, tg, h, a, o, ho => by
  unfold tmOk at h
  cases ms with
  | nil => cases h
  | cons m ms =>
   simp only at h
   cases hc : (tmApart m (tmBits (looks all o0)) (dstBit o0.dst) tg && (deps o0).all fun j => Nat.blt j i) with
   | false => rw [hc] at h; cases h
   | true =>
    rw [hc, bif_t] at h
    obtain ⟨h1, h2⟩ := (Bool.and_eq_true _ _).mp hc
    cases a with
    | zero =>
     simp at ho; subst ho
     refine ⟨m, rfl, fun d hd => ?_, tmApart_spec h1, fun b ob hb => by omega⟩
     rw [List.all_eq_true] at h2
     exact blt_of (h2 d hd)
    | succ a =>
     obtain ⟨m', e1, e2, e3, e4⟩ := tmOk_spec h a o (by simpa using ho)
     refine ⟨m', by simpa using e1, fun d hd => by have := e2 d hd; omega, fun j L' D' hj => e3 j L' D' (.tail _ hj), fun b ob hb hob => ?_⟩
     cases b with
     | zero =>
      simp at hob; subst hob
      exact e3 _ _ _ (.head _)
     | succ b =>
      have := e4 b ob (by omega) (by simpa using hob)
      rwa [show i + 1 + b = i + (b + 1) by omega] at this
theorem wipe_spec : ∀ {l : List Oper} {e e' : Tr CV}, wipe l e = some e' → ∀ t x, e'.get t = some x → e.get t = some x ∧ ∀ o ∈ l, o.dst ≠ some t
 | [], e, e', h, t, x, hx => by
  simp only [wipe, Option.some.injEq] at h; subst h
  exact ⟨hx, fun o ho => by cases ho⟩
 | o :: l, e, e', h, t, x, hx => by
  unfold wipe at h
  split at h
  ·rename_i hd
   obtain ⟨h1, h2⟩ := wipe_spec h t x hx
   refine ⟨h1, fun o' ho' => ?_⟩
   rcases List.mem_cons.1 ho' with rfl | ho'
   ·rw [hd]; simp
   ·exact h2 o' ho'
  ·rename_i d hd
   split at h
   ·rename_i e2 he2
    obtain ⟨h1, h2⟩ := wipe_spec h t x hx
    rw [Tr.get_set _ _ _ _ _ he2] at h1
    split at h1
    ·cases h1
    ·rename_i hne
     refine ⟨h1, fun o' ho' => ?_⟩
     rcases List.mem_cons.1 ho' with rfl | ho'
     ·rw [hd]; intro e; cases e; exact hne rfl
     ·exact h2 o' ho'
   ·cases h
theorem guardV_congr {all : List Oper} {o : Oper} {e e' : Tr CV} (h : ∀ t ∈ looks all o, e'.get t = e.get t) : guardV all e' o = guardV all e o := by
 unfold guardV
 split
 ·rfl
 ·rename_i j want hg
  split
  ·rename_i p hp
   split
   ·rename_i d hd
    rw [h d (by unfold looks; rw [hg]; simp [hp, hd])]
   ·rfl
  ·rfl
theorem lastF_none {β : Type} {wr : Nat → Nat → Option β} {S : Nat → Bool} {z : Nat → β} {t : Nat} (h : ∀ j, wr j t = none) : ∀ (m : Nat), lastF wr S z m t = z t
 | 0 => rfl
 | m + 1 => by unfold lastF; rw [h m, lastF_none h m]; simp
theorem Ev.lift {h h' : Tr CO} {nx nx' R W R' W' R2 W2 : Nat} (e : Ev ⟨h, nx, 0, 0⟩ ⟨h', nx', R', W'⟩) (hR : ∀ x, R.testBit x = true → R2.testBit x = true) (hW : ∀ x, W2.testBit x = true ↔ W.testBit x = true ∨ W'.testBit x = true) : Ev ⟨h, nx, R, W⟩ ⟨h', nx', R2, W2⟩ := by
 refine ⟨e.nx, hR, fun k hk => (hW k).2 (.inl hk), fun k hk => e.keep k ?_, fun k hk hk2 => ?_, e.wf, fun hw hb k hk => ?_⟩
 ·cases hb : W'.testBit k with
  | false => rfl
  | true => simp only at hk; rw [(hW k).2 (.inr hb)] at hk; cases hk
 ·rcases (hW k).1 hk2 with h1 | h1
  ·exact .inl h1
  ·rcases e.was k hk h1 with h2 | h2
   ·simp at h2
   ·exact .inr h2
 ·rcases (hW k).1 hk with h1 | h1
  ·exact Nat.lt_of_lt_of_le (hb k h1) e.nx
  ·exact e.wb hw (fun k hk => by simp at hk) k h1
section
variable {P : Program} {r : Run} {l : List Oper} {n : Nat} {e0 : Nat → Option CV} {h0 : Nat → Option CO} {n0 : Nat}
theorem PR.cong {q : Option Nat} {T : Nat → Option Tk} {i nx n1 R W : Nat} {env : Tr CV} {h h' : Tr CO} {lg : List Lg} (p : PR P l n e0 h0 n0 q T i env h nx n1 R W lg) (e : ∀ j, h'.get j = h.get j) : PR P l n e0 h0 n0 q T i env h' nx n1 R W lg :=
 ⟨p.len, p.sound, p.zero, p.ev, p.dst, p.envAt, p.memAt, p.wf, p.ordH1, p.ordH2, p.nxs, p.own, p.cov, p.idle, p.all, p.curE, fun j => (e j).trans (p.curH j), fun j o h => p.curW j o ((e j).symm.trans h), p.lgs, p.nx0, p.nx1⟩
theorem step_agree {o : Oper} {env e' : Tr CV} (he : ∀ t ∈ looks l o, e'.get t = env.get t) (s : S) : stepOp P r e' o s = stepOp P r env o s :=
 stepOp_congr (fun x hx => ev_congr fun t e => he t (mem_looks (by rw [← e]; simpa using hx))) s
theorem regP_pr (hl : laidOutB P = true) (R : RunOk P r) {z n1 : Nat} {W : Nat} : ∀ (rest : List Oper) (i : Nat) (ms : List Nat) (lg : List Lg) (env : Tr CV) (s : S) (T : Nat → Option Tk) {R3 : Nat}, i + rest.length = l.length → (∀ j, rest[j]? = l[i + j]?) → (∀ j m, ms[j]? = some m → (masks l []).getD (i + j) 0 = m) → z < i →
  PR P l n e0 h0 n0 (some z) T i env s.h s.nx n1 s.R W lg → regP P r l z rest i ms lg n env s = some R3 → ∃ T' env' h' nx' lg', PR P l n e0 h0 n0 (some z) T' l.length env' h' nx' n1 R3 W lg' ∧ T' z = T z
 | [], i, ms, lg, env, ⟨h, nx, R0, W0⟩, T, R3, hlen, hr, hm, hz, p, hh => by
  simp only [regP, Option.some.injEq] at hh; subst hh
  simp at hlen; subst hlen
  exact ⟨T, _, _, _, _, p, rfl⟩
 | o :: rest, i, ms, lg, env, ⟨h, nx, R0, W0⟩, T, R3, hlen, hr, hm, hz, p, hh => by
  unfold regP at hh
  cases ms with
  | nil => cases hh
  | cons m ms =>
   simp only at hh
   have hm0 : (masks l []).getD i 0 = m := hm 0 m rfl
   have ho : l[i]? = some o := (hr 0).symm
   have hlen' : i + 1 + rest.length = l.length := by simp at hlen; omega
   have hr' : ∀ j, rest[j]? = l[i + 1 + j]? := fun j => by
    have := hr (j + 1)
    rwa [show i + (j + 1) = i + 1 + j by omega] at this
   have hm' : ∀ j m', ms[j]? = some m' → (masks l []).getD (i + 1 + j) 0 = m' := fun j m' hj => by
    have := hm (j + 1) m' hj
    rwa [show i + (j + 1) = i + 1 + j by omega] at this
   have upd : ∀ k : Tk, updT T i k z = T z := fun k => by unfold updT; rw [if_neg (by omega)]
   cases hb : m.testBit z with
   | true =>
    rw [hb, bif_t] at hh
    exact regP_pr hl R rest (i + 1) ms lg env _ T hlen' hr' hm' (by omega) (p.off rfl (by rw [hm0]; exact hb)) hh
   | false =>
    rw [hb, bif_f] at hh
    split at hh
    ·cases hh
    ·rename_i hg
     split at hh
     ·rename_i env' hput
      have p' := p.add (o := o) (x := .tup []) (R0 := 0) (R' := 0) (W' := 0) (nx' := nx) (n1' := n1) (R2 := R0) (W2 := W) (h' := h) (env' := env') (lg' := lg) ho (fun e => by cases e; omega) (.inl ⟨fun e' he => (guardV_congr he).trans hg, rfl, rfl⟩) (Ev.refl _) hput
       (apart_zero _ _) (.inr ⟨rfl, rfl⟩) (fun _ _ => rfl) (fun _ h => h) (fun x hx => by simp at hx) (fun x hx => by simpa using hx) (fun x hx => by simpa using hx)
      obtain ⟨T', e1, e2, e3, e4, e5, e6⟩ := regP_pr hl R rest (i + 1) ms lg env' ⟨h, nx, R0, W0⟩ _ hlen' hr' hm' (by omega) p' hh
      exact ⟨T', e1, e2, e3, e4, e5, e6.trans (upd _)⟩
     ·cases hh
    ·rename_i hg
     cases hd : isDefer o.op with
     | true => rw [hd] at hh; cases hh
     | false =>
      rw [hd, bif_f] at hh
      split at hh
      ·rename_i x h' nx' R' W' hst
       cases hc : (apart m R' W' lg && Nat.beq W' 0 && Nat.beq nx nx') with
       | false => rw [hc] at hh; cases hh
       | true =>
        rw [hc, bif_t] at hh
        obtain ⟨hc1, hc2⟩ := (Bool.and_eq_true _ _).mp hc
        obtain ⟨hc3, hc4⟩ := (Bool.and_eq_true _ _).mp hc1
        have hW0 := beq_of hc4
        have hnx := beq_of hc2
        subst hW0; subst hnx
        split at hh
        ·rename_i env' hput
         rw [fN_eq] at hh
         have hop := stepOp_sound hl R hst
         have ev1 : Ev ⟨h, nx, 0, 0⟩ ⟨h', nx, R', 0⟩ := hop.ev
         have p' := (p.add (o := o) (R0 := 0) (R2 := Nat.lor R0 R') (W2 := W) (lg' := bif Nat.beq R' 0 then lg else ⟨i, R', 0⟩ :: lg) (n1' := n1) ho (fun e => by cases e; omega) (.inr ⟨fun e' he => (guardV_congr he).trans hg, fun e' he => stepOp_sound hl R ((step_agree he _).trans hst)⟩) ev1 hput (by rw [hm0]; exact hc3) (.inr ⟨rfl, rfl⟩) (fun _ _ => rfl)
          (fun y hy => by cases hb : Nat.beq R' 0 with | true => exact hy | false => exact .tail _ hy) (fun y hy => by
           cases hb : Nat.beq R' 0 with
           | true => rw [beq_of hb] at hy; simp at hy
           | false => exact .head _) (fun y hy => by rw [lor_bit, Bool.or_eq_true]; exact hy) (fun y hy => by simpa using hy)).cong (h' := h) fun j => (ev1.keep j (by simp)).symm
         obtain ⟨T', e1, e2, e3, e4, e5, e6⟩ := regP_pr hl R rest (i + 1) ms _ env' ⟨h, nx, Nat.lor R0 R', W0⟩ _ hlen' hr' hm' (by omega) p' hh
         exact ⟨T', e1, e2, e3, e4, e5, e6.trans (upd _)⟩
        ·cases hh
      ·cases hh
theorem regP_R {z : Nat} : ∀ (rest : List Oper) (i : Nat) (ms : List Nat) (lg : List Lg) (env : Tr CV) (s : S) {R3 : Nat}, regP P r l z rest i ms lg n env s = some R3 → ∀ x, s.R.testBit x = true → R3.testBit x = true
 | [], i, ms, lg, env, ⟨h, nx, R0, W0⟩, R3, hh => by
  simp only [regP, Option.some.injEq] at hh; subst hh
  exact fun _ h => h
 | o :: rest, i, ms, lg, env, ⟨h, nx, R0, W0⟩, R3, hh => by
  unfold regP at hh
  cases ms with
  | nil => cases hh
  | cons m ms =>
   simp only at hh
   cases hb : m.testBit z with
   | true =>
    rw [hb, bif_t] at hh
    exact regP_R rest _ _ _ _ _ hh
   | false =>
    rw [hb, bif_f] at hh
    split at hh
    ·cases hh
    ·split at hh
     ·exact regP_R rest _ _ _ _ _ hh
     ·cases hh
    ·cases hd : isDefer o.op with
     | true => rw [hd] at hh; cases hh
     | false =>
      rw [hd, bif_f] at hh
      split at hh
      ·rename_i x h' nx' R' W' hst
       cases hc : (apart m R' W' lg && Nat.beq W' 0 && Nat.beq nx nx') with
       | false => rw [hc] at hh; cases hh
       | true =>
        rw [hc, bif_t] at hh
        split at hh
        ·rw [fN_eq] at hh
         exact fun y hy => regP_R rest _ _ _ _ _ hh y (by show (Nat.lor R0 R').testBit y = true; rw [lor_bit, Bool.or_eq_true]; exact .inl hy)
        ·cases hh
      ·cases hh
theorem regD_ev (hl : laidOutB P = true) (R : RunOk P r) : ∀ (rest : List Oper) (i : Nat) (ms : List Nat) (lg : List Lg) (fr : Fr) (s : S) {ex : Ex} {fr' : Fr} {s' : S}, regD P r l rest i ms lg fr s = some (ex, fr', s') → Ev s s' ∧ fr'.n = fr.n ∧ fr'.rd = fr.rd ∧ fr'.ds = fr.ds
 | [], i, ms, lg, ⟨n, env, ds, rr⟩, s, ex, fr', s', hh => by
  simp only [regD, Option.some.injEq, Prod.mk.injEq] at hh
  obtain ⟨rfl, rfl, rfl⟩ := hh
  exact ⟨Ev.refl _, rfl, rfl, rfl⟩
 | o :: rest, i, ms, lg, ⟨n, env, ds, rr⟩, ⟨h, nx, R0, W0⟩, ex, fr', s', hh => by
  unfold regD at hh
  cases ms with
  | nil => cases hh
  | cons m ms =>
   simp only at hh
   split at hh
   ·cases hh
   ·split at hh
    ·have h1 := regD_ev hl R rest _ _ _ _ _ hh
     exact h1
    ·cases hh
   ·cases hd : isDefer o.op with
    | true => rw [hd] at hh; cases hh
    | false =>
     rw [hd, bif_f] at hh
     split at hh
     ·rename_i x h' nx' R' W' hst
      cases hc : apart m R' W' lg with
      | false => rw [hc] at hh; cases hh
      | true =>
       rw [hc, bif_t] at hh
       split at hh
       ·rw [fN_eq, fN_eq] at hh
        obtain ⟨h1, h2⟩ := regD_ev hl R rest _ _ _ _ _ hh
        refine ⟨Ev.trans (Ev.lift (stepOp_sound hl R hst).ev ?_ ?_) h1, h2⟩
        ·intro y hy; rw [lor_bit, Bool.or_eq_true]; exact .inl hy
        ·intro y; rw [lor_bit, Bool.or_eq_true]
       ·cases hh
     ·rename_i x h' nx' R' W' hst
      cases hc : (apart m R' W' lg && idle m lg) with
      | false => rw [hc] at hh; cases hh
      | true =>
       rw [hc, bif_t, fN_eq, fN_eq] at hh
       split at hh
       ·rename_i R3 env' hp hw
        simp only [Option.some.injEq, Prod.mk.injEq] at hh
        obtain ⟨rfl, rfl, rfl⟩ := hh
        refine ⟨Ev.lift (stepOp_sound hl R hst).ev ?_ ?_, rfl, rfl, rfl⟩
        ·intro y hy
         exact regP_R _ _ _ _ _ _ hp y (by show (Nat.lor R0 R').testBit y = true; rw [lor_bit, Bool.or_eq_true]; exact .inl hy)
        ·intro y; rw [lor_bit, Bool.or_eq_true]
       ·cases hh
     ·cases hh
theorem regD_pr (hl : laidOutB P = true) (R : RunOk P r) : ∀ (rest : List Oper) (i : Nat) (ms : List Nat) (lg : List Lg) (env : Tr CV) (ds : List SD) (rr : Option Nat) (s : S) (T : Nat → Option Tk) {ex : Ex} {fr' : Fr} {s' : S}, i + rest.length = l.length → (∀ j, rest[j]? = l[i + j]?) → (∀ j m, ms[j]? = some m → (masks l []).getD (i + j) 0 = m) →
  PR P l n e0 h0 n0 none T i env s.h s.nx s.nx s.R s.W lg → regD P r l rest i ms lg ⟨n, env, ds, rr⟩ s = some (ex, fr', s') →
  (∃ T' lg', ex = .normal ∧ PR P l n e0 h0 n0 none T' l.length fr'.env s'.h s'.nx s'.nx s'.R s'.W lg') ∨ (∃ T' z k env' h' nx' lg', ex = .pan k.x ∧ T' z = some k ∧ z < l.length ∧ s'.h = k.s'.h ∧ PR P l n e0 h0 n0 (some z) T' l.length env' h' nx' s'.nx s'.R s'.W lg' ∧ wipe l k.env = some fr'.env)
 | [], i, ms, lg, env, ds, rr, s, T, ex, fr', s', hlen, hr, hm, p, hh => by
  simp only [regD, Option.some.injEq, Prod.mk.injEq] at hh
  obtain ⟨rfl, rfl, rfl⟩ := hh
  simp at hlen; subst hlen
  exact .inl ⟨T, lg, rfl, p⟩
 | o :: rest, i, ms, lg, env, ds, rr, ⟨h, nx, R0, W0⟩, T, ex, fr', s', hlen, hr, hm, p, hh => by
  unfold regD at hh
  cases ms with
  | nil => cases hh
  | cons m ms =>
   simp only at hh
   have hm0 : (masks l []).getD i 0 = m := hm 0 m rfl
   have ho : l[i]? = some o := (hr 0).symm
   have hlen' : i + 1 + rest.length = l.length := by simp at hlen; omega
   have hr' : ∀ j, rest[j]? = l[i + 1 + j]? := fun j => by
    have := hr (j + 1)
    rwa [show i + (j + 1) = i + 1 + j by omega] at this
   have hm' : ∀ j m', ms[j]? = some m' → (masks l []).getD (i + 1 + j) 0 = m' := fun j m' hj => by
    have := hm (j + 1) m' hj
    rwa [show i + (j + 1) = i + 1 + j by omega] at this
   split at hh
   ·cases hh
   ·rename_i hg
    split at hh
    ·rename_i env' hput
     have p' := p.add (o := o) (x := .tup []) (R0 := 0) (R' := 0) (W' := 0) (nx' := nx) (n1' := nx) (R2 := R0) (W2 := W0) (h' := h) (env' := env') (lg' := lg) ho (by simp) (.inl ⟨fun e' he => (guardV_congr he).trans hg, rfl, rfl⟩) (Ev.refl _) hput
      (apart_zero _ _) (.inr ⟨rfl, rfl⟩) (fun _ _ => rfl) (fun _ h => h) (fun x hx => by simp at hx) (fun x hx => by simpa using hx) (fun x hx => by simpa using hx)
     exact regD_pr hl R rest (i + 1) ms lg env' ds rr ⟨h, nx, R0, W0⟩ _ hlen' hr' hm' p' hh
    ·cases hh
   ·rename_i hg
    cases hd : isDefer o.op with
    | true => rw [hd] at hh; cases hh
    | false =>
     rw [hd, bif_f] at hh
     split at hh
     ·rename_i x h' nx' R' W' hst
      cases hc : apart m R' W' lg with
      | false => rw [hc] at hh; cases hh
      | true =>
       rw [hc, bif_t] at hh
       split at hh
       ·rename_i env' hput
        rw [fN_eq, fN_eq] at hh
        have hop := stepOp_sound hl R hst
        have ev1 : Ev ⟨h, nx, 0, 0⟩ ⟨h', nx', R', W'⟩ := hop.ev
        have p' := p.add (o := o) (R0 := 0) (R2 := Nat.lor R0 R') (W2 := Nat.lor W0 W') (lg' := bif Nat.beq (Nat.lor R' W') 0 then lg else ⟨i, R', W'⟩ :: lg) (n1' := nx') ho (by simp) (.inr ⟨fun e' he => (guardV_congr he).trans hg, fun e' he => stepOp_sound hl R ((step_agree he _).trans hst)⟩) ev1 hput (by rw [hm0]; exact hc) (.inl ⟨rfl, rfl⟩) (fun z hz => by cases hz)
         (fun y hy => by cases hb : Nat.beq (Nat.lor R' W') 0 with | true => exact hy | false => exact .tail _ hy) (fun y hy => by
          cases hb : Nat.beq (Nat.lor R' W') 0 with
          | true =>
           have h1 : R' ||| W' = 0 := beq_of hb
           have h2 := congrArg (fun z => z.testBit y) h1
           rcases hy with hy | hy <;> simp [hy] at h2
          | false => exact .head _) (fun y hy => by rw [lor_bit, Bool.or_eq_true]; exact hy) (fun y hy => by rw [lor_bit, Bool.or_eq_true]; exact hy)
        exact regD_pr hl R rest (i + 1) ms _ env' ds rr ⟨h', nx', Nat.lor R0 R', Nat.lor W0 W'⟩ _ hlen' hr' hm' p' hh
       ·cases hh
     ·rename_i x h' nx' R' W' hst
      cases hc : (apart m R' W' lg && idle m lg) with
      | false => rw [hc] at hh; cases hh
      | true =>
       rw [hc, bif_t, fN_eq, fN_eq] at hh
       obtain ⟨hc1, hc2⟩ := (Bool.and_eq_true _ _).mp hc
       split at hh
       ·rename_i R3 env' hp hw
        simp only [Option.some.injEq, Prod.mk.injEq] at hh
        obtain ⟨rfl, rfl, rfl⟩ := hh
        have hop := stepOp_sound hl R hst
        have ev1 : Ev ⟨h, nx, 0, 0⟩ ⟨h', nx', R', W'⟩ := hop.ev
        have p' := p.pan (R2 := Nat.lor R0 R') (W2 := Nat.lor W0 W') ho (fun e' he => (guardV_congr he).trans hg) (fun e' he => stepOp_sound hl R ((step_agree he _).trans hst)) ev1 (by rw [hm0]; exact hc1) (by rw [hm0]; exact hc2) (fun y hy => by rw [lor_bit, Bool.or_eq_true]; exact hy) (fun y hy => by rw [lor_bit, Bool.or_eq_true]; exact hy)
        obtain ⟨T', e1, e2, e3, e4, e5, e6⟩ := regP_pr hl R rest (i + 1) ms _ env ⟨h, nx, Nat.lor R0 R', W0⟩ _ hlen' hr' hm' (Nat.lt_succ_self i) p' hp
        exact .inr ⟨T', i, _, e1, e2, e3, e4, rfl, e6.trans (by unfold updT; rw [if_pos rfl]), by omega, rfl, e5, hw⟩
       ·cases hh
     ·cases hh
theorem PR.tok {q : Option Nat} {T : Nat → Option Tk} {nx n1 R W : Nat} {env : Tr CV} {h : Tr CO} {lg : List Lg} (p : PR P l n e0 h0 n0 q T l.length env h nx n1 R W lg) (hd : drawOk l = true) (hq : ∀ i, q = some i → ∃ k, T i = some k) : TOk P l n q T e0 h0 n0 n1 (fun x => R.testBit x = true) (fun x => W.testBit x = true) := by
 have key : ∀ j i oj oi, j < i → l[j]? = some oj → l[i]? = some oi → TmA ((masks l []).getD i 0) j (tmBits (looks l oi)) (dstBit oi.dst) (tmBits (looks l oj)) (dstBit oj.dst) := fun j i oj oi hlt hoj hoi => by
  obtain ⟨m, e1, _, _, e2⟩ := tmOk_spec hd i oi hoi
  have := e2 j oj hlt hoj
  rw [Nat.zero_add] at this
  rw [show (masks l []).getD i 0 = m by simp [List.getD, e1]]
  exact this
 refine ⟨p.len, p.sound, p.zero, p.ev, p.dst, fun i o k ho hk => p.envAt i k hk, p.memAt, p.wf, fun j i oj oi kj ki hlt hoj hoi _ _ t h1 h2 => ?_, fun j i oj oi kj ki hlt hoj hoi _ _ t h1 h2 => ?_, p.ordH1, p.ordH2, p.nxs, p.own, p.cov, p.idle, fun i hi hT => p.all i hi hT, hq, fun i o ho j hj => ?_⟩
 ·refine (key j i oj oi hlt hoj hoi).1 t ((dstBit_spec _ _).2 h1) ?_
  rcases h2 with h2 | h2
  ·exact .inl ((tmBits_spec _ _).2 h2)
  ·exact .inr ((dstBit_spec _ _).2 h2)
 ·exact (key j i oj oi hlt hoj hoi).2 t ((dstBit_spec _ _).2 h1) ((tmBits_spec _ _).2 h2)
 ·obtain ⟨m, _, e1, _⟩ := tmOk_spec hd i o ho
  have := e1 j hj; omega
theorem regD_sound (hl : laidOutB P = true) (hmix : P.follows .mixedOrders = true) (R : RunOk P r) {id : Nat} {fr fr' : Fr} {s s' : S} {ex : Ex} (hd : drawOk l = true) (hh : regD P r l l 0 (masks l []) [] fr s = some (ex, fr', s')) : CodeS P (.region id l.toArray true) fr s ex fr' s' := by
 obtain ⟨n, env, ds, rd0⟩ := fr
 obtain ⟨ev1, en, erd, eds⟩ := regD_ev hl R _ _ _ _ _ _ hh
 refine ⟨ev1, en, erd, fun K B ρ rr a w Q hp hf hQ => ?_⟩
 show (Code.region id l.toArray true).wpIn (FW rr) 0 P Q a w
 refine wpIn_region_any hmix ?_
 show wpAnyIn (FW rr) 0 P .any l.toArray Q l.toArray.size (Array.replicate l.toArray.size false) a w.drew
 have p0 : PR P l n (fun t => env.get t) (fun j => s.h.get j) s.nx none (fun _ => none) 0 env s.h s.nx s.nx s.R s.W [] :=
  ⟨fun _ _ h => (by cases h), fun _ _ _ _ h => (by cases h), fun _ _ h => (by cases h), fun _ _ h => (by cases h), fun _ _ _ _ _ h => (by cases h), fun _ _ h => (by cases h), fun _ _ h => (by cases h), fun _ _ h => (by cases h), fun _ _ _ _ _ h => (by cases h), fun _ _ _ _ _ h => (by cases h), fun _ _ h => (by cases h), fun _ _ _ _ _ h => (by cases h), fun _ _ h => (by cases h), fun _ _ _ _ h => (by cases h), fun _ h => (by omega), fun _ => rfl, fun _ => rfl, hp.wf, fun _ _ h => (by cases h), Nat.le_refl _, Nat.le_refl _⟩
 have hms : ∀ j m, (masks l [])[j]? = some m → (masks l []).getD (0 + j) 0 = m := fun j m hj => by simp [List.getD, hj]
 have hpr := regD_pr hl R l 0 (masks l []) [] env ds rd0 s _ (by simp) (fun j => by simp) hms p0 hh
 have d0 : D0 K B ρ w (fun j => s.h.get j) s.nx s'.nx (fun x => s'.R.testBit x = true) (fun x => s'.W.testBit x = true) := ⟨hp.cov.R, hp.cov.W, hp.cov.up, hp.base, hp.fresh⟩
 have hlist : ∀ i, (Array.replicate l.toArray.size false).getD i false = false := fun i => by simp [Array.getD]
 have hcount : (List.range l.length).countP (fun i => !(Array.replicate l.toArray.size false).getD i false) = l.length := by
  rw [List.countP_eq_length.2 (fun i _ => by rw [hlist]; rfl)]; simp
 have none_ : ∀ (q : Option Nat) (T : Nat → Option Tk) (t : Nat), lastF (wrE l q T) (fun s => (Array.replicate l.toArray.size false).getD s false) (fun t => env.get t) l.length t = env.get t := fun q T t => by
  have : ∀ m, lastF (wrE l q T) (fun s => (Array.replicate l.toArray.size false).getD s false) (fun t => env.get t) m t = env.get t := fun m => by
   induction m with
   | zero => rfl
   | succ m ih => unfold lastF; rw [hlist, if_neg (by simp)]; exact ih
  exact this _
 have noneH : ∀ (q : Option Nat) (T : Nat → Option Tk) (t : Nat), lastF (wrH q T) (fun s => (Array.replicate l.toArray.size false).getD s false) (fun j => s.h.get j) l.length t = s.h.get t := fun q T t => by
  have : ∀ m, lastF (wrH q T) (fun s => (Array.replicate l.toArray.size false).getD s false) (fun j => s.h.get j) m t = s.h.get t := fun m => by
   induction m with
   | zero => rfl
   | succ m ih => unfold lastF; rw [hlist, if_neg (by simp)]; exact ih
  exact this _
 have startM : ∀ (q : Option Nat) (T : Nat → Option Tk), DM P K B ρ w s.nx s'.nx (fun x => s'.W.testBit x = true) T (fun i => (Array.replicate l.toArray.size false).getD i false) (lastF (wrH q T) (fun s => (Array.replicate l.toArray.size false).getD s false) (fun j => s.h.get j) l.length) ρ w.drew := fun q T =>
  ⟨Le.refl _, fun _ _ => rfl, MKF.congr (h := fun j => s.h.get j) ⟨fun k o hk ho => hp.mem.obj k o hk ho, fun k k' o o' b n n' hk hk' ho ho' => hp.mem.inj k k' o o' b n n' hk hk' ho ho'⟩ fun x => noneH q T x, Nat.le_refl _, rfl, rfl, rfl, fun _ _ _ => rfl, fun k b m h1 h2 h3 => by rw [hp.fresh k h1 h2] at h3; cases h3⟩
 have startA : ∀ (q : Option Nat) (T : Nat → Option Tk), DA l q T (fun t => env.get t) n a.defers (fun i => (Array.replicate l.toArray.size false).getD i false) ρ a := fun q T =>
  ⟨hf.size, fun t x hx => hf.env t x ((none_ q T t).symm.trans hx), rfl⟩
 have go1 : ∀ {S : Nat → Bool} {h : Nat → Option CO} {ρ' : Rho} {w' : World} {q : Option Nat} {T : Nat → Option Tk}, TOk P l n q T (fun t => env.get t) (fun j => s.h.get j) s.nx s'.nx (fun x => s'.R.testBit x = true) (fun x => s'.W.testBit x = true) → DM P K B ρ w s.nx s'.nx (fun x => s'.W.testBit x = true) T S h ρ' w' → (∀ j, s'.h.get j = h j) → Go1 P K B ρ s w ρ' s' w' := fun t d e =>
  ⟨d.ext, fun k hk => d.dom k fun i ki _ hki h1 h2 => by have := t.nxs i ki hki; omega, d.mem.to fun k _ => e k, d.size, d.os, d.tape, d.out, d.frame, d.newb⟩
 rcases hpr with ⟨T, lg, rfl, p⟩ | ⟨T, z, k, env', h', nx', lg', rfl, hz, hzl, hsh, p, hw⟩
 ·have t := p.tok hd (fun i e => by cases e)
  refine draw_run (rr := rr) (ds := a.defers) t d0 ?_ ?_ l.length _ _ ρ a w.drew (by simp) hcount.symm (by simp) (fun i o hi => absurd ((hlist i).symm.trans hi) (by simp)) (fun i e => by cases e) (startM none T) (startA none T)
  ·intro _ ρ' a' w' d e
   refine hQ _ _ _ ⟨ρ', go1 t d fun j => p.curH j, rfl, ⟨by rw [en]; exact e.tm, fun x y hy => ?_, ?_, ?_⟩⟩
   ·rw [p.curE] at hy; exact e.env x y hy
   ·rw [eds, e.ds]; exact hf.ds.imp fun _ _ => DOk.le d.ext
   ·rw [erd]; exact hf.rd.le d.ext
  ·intro i k hq; cases hq
 ·have t := p.tok hd (fun i e => by cases e; exact ⟨k, hz⟩)
  refine draw_run (rr := rr) (ds := a.defers) t d0 ?_ ?_ l.length _ _ ρ a w.drew (by simp) hcount.symm (by simp) (fun i o hi => absurd ((hlist i).symm.trans hi) (by simp)) (fun i _ => hlist i) (startM (some z) T) (startA (some z) T)
  ·intro hq; cases hq
  ·intro i k' hq hk' S ρ1 ρ2 a' w' v d e hle hx
   cases hq
   rw [hz] at hk'; cases hk'
   refine hQ _ _ _ ⟨ρ2, go1 t d fun j => by rw [hsh], ⟨v, rfl, hx⟩, ⟨by rw [en]; exact e.tm, fun x y hy => ?_, ?_, ?_⟩⟩
   ·obtain ⟨h1, h2⟩ := wipe_spec hw x y hy
    have nw : ∀ j, wrE l (some z) T j x = none := fun j => by
     cases hwr : wrE l (some z) T j x with
     | none => rfl
     | some v' =>
      obtain ⟨o, _, ho, _, hdst, _⟩ := wrE_some (l := l) (q := some z) (T := T) (i := j) (t := x) (by rw [hwr]; simp)
      exact absurd hdst (h2 o (List.mem_of_getElem? ho))
    rw [p.envAt z k hz x, lastF_none nw] at h1
    exact (e.env x y (by rw [lastF_none nw]; exact h1)).le hle
   ·rw [eds, e.ds]; exact hf.ds.imp fun _ _ => DOk.le d.ext
   ·rw [erd]; exact hf.rd.le d.ext
end
section
variable {P : Program} {r : Run}
theorem resV_inv {env : Tr CV} : ∀ (rs : List ResultVar) (s : S) (f : List CV → S → Option Ret) {res : Ret}, resV P env rs s f = some res →
  ∃ xs s1, f xs s1 = some res ∧ Ev s s1 ∧ s1.h = s.h ∧ s1.nx = s.nx ∧ ∀ (K : Nat → Prop) (B : Nat) (ρ : Rho) (a : Act) (w : World), MK P K B ρ s.h w → (∀ k, s1.R.testBit k = true → K k) → EnvC ρ env a → ∃ vs, (rs.mapM (resStep a.tmps)).run P w = .ok vs w ∧ CRL ρ xs vs
 | [], s, f, res, h => ⟨[], s, h, Ev.refl s, rfl, rfl, fun K B ρ a w _ _ _ => ⟨[], rfl, .nil⟩⟩
 | .tmp t :: rs, s, f, res, h => by
  unfold resV at h
  split at h
  ·rename_i x hx
   obtain ⟨xs, s1, h1, h2, h3, h4, h5⟩ := resV_inv rs s _ h
   refine ⟨x :: xs, s1, h1, h2, h3, h4, fun K B ρ a w hm hK he => ?_⟩
   obtain ⟨vs, e1, e2⟩ := h5 K B ρ a w hm hK he
   refine ⟨a.tmps.getD t undef :: vs, ?_, .cons _ _ _ _ (he t x hx) e2⟩
   have e0 : (resStep a.tmps (.tmp t)).run P w = .ok (a.tmps.getD t undef) w := rfl
   simp only [List.mapM_cons, Sem.run_bind, e0, e1, Result.andThen_ok, Sem.run_pure]
  ·cases h
 | .cell b t :: rs, s, f, res, h => by
  unfold resV at h
  split at h
  ·rename_i k o n hb ht
   obtain ⟨tt, cs, opn, l, g1, g2, g3⟩ := rdRow_inv h
   obtain ⟨xs, s1, h1, h2, h3, h4, h5⟩ := resV_inv rs (s.read k) _ g3
   refine ⟨.agg l :: xs, s1, h1, (Ev.read s k).trans h2, h3, h4, fun K B ρ a w hm hK he => ?_⟩
   have hk : K k := hK k (h2.R k (read_bit s k))
   obtain ⟨vs, e1, e2⟩ := h5 K B ρ a w hm hK he
   obtain ⟨bb, m, us, q1, _, q3, q4, q5, q6⟩ := hm.cells hk g1 g2
   have hv := he b _ hb
   generalize hu : a.tmps.getD b undef = u at hv
   cases hv with
   | ptr _ _ b' n' hr =>
    rw [q1] at hr; cases hr
    have hl := run_loadVar_agg ht bb o _ w q5 q6
    refine ⟨.agg ((us.toList.drop o).take n).toArray :: vs, ?_, .cons _ _ _ _ (.agg _ _ (by simpa using q4)) e2⟩
    have e0 : (resStep a.tmps (.cell b t)).run P w = .ok (.agg ((us.toList.drop o).take n).toArray) w := by
     simp only [resStep, hu, asAddr, Sem.run_bind, Sem.run_pure, Result.andThen_ok, hl]
    simp only [List.mapM_cons, Sem.run_bind, e0, e1, Result.andThen_ok, Sem.run_pure]
  ·rename_i k o n hb ht
   obtain ⟨tt, cs, opn, l, g1, g2, g3⟩ := rdRow_inv h
   split at g3
   ·rename_i x
    obtain ⟨xs, s1, h1, h2, h3, h4, h5⟩ := resV_inv rs (s.read k) _ g3
    refine ⟨x :: xs, s1, h1, (Ev.read s k).trans h2, h3, h4, fun K B ρ a w hm hK he => ?_⟩
    have hk : K k := hK k (h2.R k (read_bit s k))
    obtain ⟨vs, e1, e2⟩ := h5 K B ρ a w hm hK he
    obtain ⟨bb, m, us, q1, _, q3, q4, q5, q6⟩ := hm.cells hk g1 g2
    have hv := he b _ hb
    generalize hu : a.tmps.getD b undef = u at hv
    cases hv with
    | ptr _ _ b' n' hr =>
     rw [q1] at hr; cases hr
     obtain ⟨v, e3, e4⟩ := q4.get (i := 0) rfl
     have hl := run_loadVar_one ht bb o v w (q6 0 v e3)
     refine ⟨v :: vs, ?_, .cons _ _ _ _ e4 e2⟩
     have e0 : (resStep a.tmps (.cell b t)).run P w = .ok v w := by
      simp only [resStep, hu, asAddr, Sem.run_bind, Sem.run_pure, Result.andThen_ok, hl]
     simp only [List.mapM_cons, Sem.run_bind, e0, e1, Result.andThen_ok, Sem.run_pure]
   ·cases g3
  ·cases h
theorem results_of {fn : Func} {tmps : Array Value} {vs : List Value} {w : World} (h : (fn.results.toList.mapM (resStep tmps)).run P w = .ok vs w) : (results fn tmps).run P w = .ok (if h : vs.length = 1 then vs[0] else .tuple vs.toArray) w := by
 unfold Go.results
 have hr : fn.results = fn.results.toList.toArray := by simp
 rw [hr, List.mapM_toArray]
 simp only [Sem.run_bind, Sem.run_map]
 have key : ∀ g : ResultVar → Sem Value, (∀ r, g r = resStep tmps r) → (fn.results.toList.mapM g).run P w = .ok vs w := fun g hg => by rw [show g = resStep tmps from funext hg]; exact h
 rw [key _ (fun r => by cases r <;> rfl)]
 simp
theorem tup_rel {ρ : Rho} {xs : List CV} {vs : List Value} (h : CRL ρ xs vs) : CR ρ (tupV xs) (if h : vs.length = 1 then vs[0] else .tuple vs.toArray) := by
 cases h with
 | nil => exact .tup _ _ .nil
 | cons x v xs vs hx ht =>
  cases ht with
  | nil => simpa [tupV] using hx
  | cons y u xs vs hy ht => exact .tup _ _ (.cons _ _ _ _ hx (.cons _ _ _ _ hy ht))
theorem resV_ret {env : Tr CV} {fn : Func} {s : S} {res : Ret} (h : resV P env fn.results.toList s (fun l s => some (.ok (tupV l) s)) = some res) : ∃ x s1, res = .ok x s1 ∧ Ev s s1 ∧ ∀ (K : Nat → Prop) (B : Nat) (ρ : Rho) (a : Act) (w : World), Pre P K B ρ s s1 w → EnvC ρ env a → ∃ v, (results fn a.tmps).run P w = .ok v w ∧ Go1 P K B ρ s w ρ s1 w ∧ CR ρ x v := by
 obtain ⟨xs, s1, h1, h2, h3, h4, h5⟩ := resV_inv _ _ _ h
 simp only [Option.some.injEq] at h1
 refine ⟨_, _, h1.symm, h2, fun K B ρ a w hp he => ?_⟩
 obtain ⟨vs, e1, e2⟩ := h5 K B ρ a w hp.mem hp.cov.R he
 exact ⟨_, results_of e1, .same hp.mem h3 h4 rfl (.refl w), tup_rel e2⟩
theorem setArgs_get : ∀ (xs : List CV) (i : Nat) (e e' : Tr CV), setArgs i xs e = some e' → ∀ t, e'.get t = if i ≤ t ∧ t < i + xs.length then xs[t - i]? else e.get t
 | [], i, e, e', h, t => by
  simp only [setArgs, Option.some.injEq] at h; subst h
  rw [if_neg (by intro ⟨a, b⟩; simp only [List.length_nil] at b; omega)]
 | x :: xs, i, e, e', h, t => by
  unfold setArgs at h
  split at h
  ·rename_i e2 h2
   rw [setArgs_get xs (i + 1) e2 e' h t, Tr.get_set _ _ _ _ _ h2]
   by_cases h1 : t = i
   ·subst h1
    rw [if_neg (by omega), if_pos rfl, if_pos (by simp)]; simp
   ·rw [if_neg h1]
    by_cases h3 : i ≤ t ∧ t < i + (x :: xs).length
    ·rw [if_pos h3]
     simp only [List.length_cons] at h3
     rw [if_pos (by omega), show t - i = (t - (i + 1)) + 1 by omega]; simp
    ·rw [if_neg h3]
     simp only [List.length_cons] at h3
     rw [if_neg (by omega)]
  ·cases h
theorem args_envC {ρ : Rho} {xs : List CV} {vs : List Value} {e : Tr CV} {n : Nat} {ds : List Deferred} (h : setArgs 0 xs .nil = some e) (hr : CRL ρ xs vs) (hn : xs.length ≤ n) : EnvC ρ e { tmps := vs.toArray ++ Array.replicate (n - vs.toArray.size) undef, defers := ds } := by
 intro t x hx
 rw [setArgs_get _ _ _ _ h] at hx
 split at hx
 ·rename_i ht
  simp only [Nat.sub_zero] at hx
  obtain ⟨v, h1, h2⟩ := hr.get hx
  have hlt := (List.getElem?_eq_some_iff.1 h1).1
  have : (vs.toArray ++ Array.replicate (n - vs.toArray.size) undef).getD t undef = v := by
   simp only [Array.getD_eq_getD_getElem?]
   rw [Array.getElem?_append_left (by simpa using hlt)]
   simp [h1]
  rw [this]; exact h2
 ·cases hx
theorem setPs_envC {ρ : Rho} {n : Nat} : ∀ (ps : List Nat) (xs : List CV) (vs : List Value) (e e' : Tr CV) (tm : Array Value), setPs n ps xs e = some e' → CRL ρ xs vs → tm.size = n → (∀ t x, e.get t = some x → CR ρ x (tm.getD t undef)) →
  (∀ t x, e'.get t = some x → CR ρ x (((ps.zip vs).foldl (fun tm (p, v) => tm.setIfInBounds p v) tm).getD t undef)) ∧ ((ps.zip vs).foldl (fun tm (p, v) => tm.setIfInBounds p v) tm).size = n ∧ ps.length = vs.length
 | [], xs, vs, e, e', tm, h, hr, hn, he => by
  cases xs with
  | nil =>
   cases hr
   simp only [setPs, Option.some.injEq] at h; subst h
   exact ⟨he, hn, rfl⟩
  | cons x xs => simp [setPs] at h
 | p :: ps, xs, vs, e, e', tm, h, hr, hn, he => by
  cases hr with
  | nil => simp [setPs] at h
  | cons x v xs vs hx ht =>
   unfold setPs at h
   cases hb : Nat.blt p n with
   | false => rw [hb] at h; cases h
   | true =>
    rw [hb, bif_t] at h
    split at h
    ·rename_i e2 h2
     have hp := blt_of hb
     obtain ⟨h3, h4, h5⟩ := setPs_envC ps xs vs e2 e' (tm.setIfInBounds p v) h ht (by simpa using hn) (fun t y hy => by
      rw [Tr.get_set _ _ _ _ _ h2] at hy
      split at hy
      ·rename_i e; subst e; cases hy
       simp [Array.getD, hn, hp]; exact hx
      ·rename_i e
       have := he t y hy
       simp only [Array.getD_eq_getD_getElem?] at this ⊢
       rwa [Array.getElem?_setIfInBounds_ne (Ne.symm e)])
     exact ⟨h3, h4, by simp [h5]⟩
    ·cases h
end
def Calm (r : Result Next) : Prop := (∃ v w, r = .ok (.value v) w) ∨ (∃ w, r = .ok .skip w) ∨ ∃ h w, r = .halt h w
theorem calm_v (P : Program) (s : Sem Value) (w : World) : Calm ((do pure (.value (← s)) : Sem Next).run P w) := by
 simp only [Sem.run_bind]
 cases s.run P w with
 | ok v w' => exact .inl ⟨v, w', rfl⟩
 | halt h w' => exact .inr (.inr ⟨h, w', rfl⟩)
theorem calm_u (P : Program) (s : Sem Unit) (w : World) : Calm ((do s; pure .skip : Sem Next).run P w) := by
 simp only [Sem.run_bind]
 cases s.run P w with
 | ok v w' => exact .inr (.inl ⟨w', rfl⟩)
 | halt h w' => exact .inr (.inr ⟨h, w', rfl⟩)
theorem calm_a (x : Result Value) : Calm (x.andThen fun a w' => Result.ok (Next.value a) w') := by
 cases x with
 | ok v w' => exact .inl ⟨v, w', rfl⟩
 | halt h w' => exact .inr (.inr ⟨h, w', rfl⟩)
section
variable {P : Program} {r : Run} {env : Tr CV} {o : Oper} {s : S} {res : Ret}
theorem opV_calm (h : opV P env o.op s = some res) {ρ : Rho} {a : Act} (he : EnvC ρ env a) (w : World) : Calm ((execOp a.eval o).run P w) := by
 cases hop : o.op <;> rw [hop] at h <;> (try (simp only [opV] at h; cases h; done)) <;> simp only [execOp, hop]
 case move x => exact .inl ⟨_, _, rfl⟩
 case assign x => exact .inl ⟨_, _, rfl⟩
 case pick c x y =>
  simp only [Sem.run_bind]
  cases (asBool (a.eval c)).run P w with
  | ok v w' => exact .inl ⟨_, w', rfl⟩
  | halt h w' => exact .inr (.inr ⟨h, w', rfl⟩)
 case nilCheck x =>
  simp only [opV, o_nilCheck] at h
  split at h
  ·rename_i k o' hx
   have hv := ev_sound he hx
   generalize a.eval x = u at hv ⊢
   cases hv; exact .inl ⟨_, _, rfl⟩
  ·rename_i f c d hx
   have hv := ev_sound he hx
   generalize a.eval x = u at hv ⊢
   cases hv; exact .inl ⟨_, _, rfl⟩
  ·rename_i t v hx
   have hv := ev_sound he hx
   generalize a.eval x = u at hv ⊢
   cases hv; exact .inl ⟨_, _, rfl⟩
  ·rename_i k hx
   have hv := ev_sound he hx
   generalize a.eval x = u at hv ⊢
   cases hv; exact .inl ⟨_, _, rfl⟩
  ·cases h
 case call c =>
  obtain ⟨ce, ar, at_⟩ := c
  simp only [opV, o_call] at h
  split at h <;> first | (cases h; done) | skip
  all_goals
   simp only [resolve, invoke, builtin, Sem.run_bind, Sem.run_pure, Result.andThen_ok]
   exact calm_a _
 all_goals first | exact calm_v P _ w | exact calm_u P _ w
theorem Runs.calm {a : Act} {w : World} {R : Value → World → Prop} (h : Runs P none o a w R (fun _ _ => False)) (hd : ∀ c, o.op ≠ .defer c) (hc : Calm ((execOp a.eval o).run P w)) : ∃ v w', R v w' ∧ ((∃ u, (execOp a.eval o).run P w = .ok (.value u) w' ∧ a.put o.dst u = a.put o.dst v) ∨ ((execOp a.eval o).run P w = .ok .skip w' ∧ a.put o.dst undef = a.put o.dst v)) := by
 have h1 := (h (fun a' w' => ∃ v, a' = a.put o.dst v ∧ R v w') (fun _ _ _ => False) (fun v w' hr => ⟨v, rfl, hr⟩) (fun _ _ h => h)).2
 have hs : o.semAt (FW none).round a.eval = execOp a.eval o := Oper.semAt_none _ _
 rw [hs] at h1
 rcases hc with ⟨v, w', e⟩ | ⟨w', e⟩ | ⟨x, w', e⟩
 ·rw [e] at h1 ⊢
  obtain ⟨v', e1, e2⟩ := h1
  exact ⟨v', w', e2, .inl ⟨v, rfl, e1⟩⟩
 ·rw [e] at h1 ⊢
  obtain ⟨v', e1, e2⟩ := h1
  exact ⟨v', w', e2, .inr ⟨rfl, e1⟩⟩
 ·rw [e] at h1
  cases x <;> exact h1.elim
def ModeOk (ρ : Rho) : Dm → FrameMode → Prop
 | ⟨none, false⟩, u => u = .returning
 | ⟨none, true⟩, _ => False
 | ⟨some x, false⟩, u => ∃ v, u = .panicking [{ v := v, recovered := false }] ∧ CR ρ x v
 | ⟨some x, true⟩, u => ∃ v, u = .panicking [{ v := v, recovered := true }]
theorem ModeOk.le {ρ ρ' : Rho} (hl : Le ρ ρ') : ∀ {m : Dm} {u : FrameMode}, ModeOk ρ m u → ModeOk ρ' m u
 | ⟨none, false⟩, _, h => h
 | ⟨none, true⟩, _, h => h
 | ⟨some x, false⟩, _, ⟨v, h1, h2⟩ => ⟨v, h1, h2.le hl⟩
 | ⟨some x, true⟩, _, h => h
structure ActD (ρ : Rho) (n : Nat) (env : Tr CV) (a : Act) : Prop where
 size : a.tmps.size = n
 ds : a.defers = []
 env : EnvC ρ env a
theorem ActD.put {ρ : Rho} {n : Nat} {env env' : Tr CV} {a : Act} (h : ActD ρ n env a) {dst : Option Nat} {x : CV} {v : Value} (hp : putE n dst x env = some env') (hx : CR ρ x v) : ActD ρ n env' (a.put dst v) :=
 ⟨by rw [tmps_put_size]; exact h.size, by rw [put_defers]; exact h.ds, h.env.put h.size hp hx⟩
theorem ActD.le {ρ ρ' : Rho} {n : Nat} {env : Tr CV} {a : Act} (h : ActD ρ n env a) (hl : Le ρ ρ') : ActD ρ' n env a := ⟨h.size, h.ds, h.env.le hl⟩
def PostD (P : Program) (K : Nat → Prop) (B : Nat) (ρ : Rho) (s : S) (w : World) (ex : Ex) (n : Nat) (env' : Tr CV) (m' : Dm) (s' : S) (e : Exit) (a' : Act) (u' : FrameMode) (w' : World) : Prop :=
 ∃ ρ', Go1 P K B ρ s w ρ' s' w' ∧ ExOk ρ' ex e ∧ ActD ρ' n env' a' ∧ ModeOk ρ' m' u'
theorem PostD.left {K : Nat → Prop} {B : Nat} {ρ ρ1 : Rho} {s s1 s' : S} {w w1 w' : World} {ex : Ex} {n : Nat} {env' : Tr CV} {m' : Dm} {e : Exit} {a' : Act} {u' : FrameMode} (g : Go1 P K B ρ s w ρ1 s1 w1) (e1 : Ev s s1) (e2 : Ev s1 s') (h : PostD P K B ρ1 s1 w1 ex n env' m' s' e a' u' w') : PostD P K B ρ s w ex n env' m' s' e a' u' w' :=
 let ⟨ρ', h1, h2⟩ := h; ⟨ρ', g.trans h1 e1 e2, h2⟩
theorem recover_exec {c : Call} (h : o.op = .call c) (hc : c.callee = .builtin .recover) (a : Act) (w : World) : (execOp a.eval o).run P w = .ok .recover w := by
 obtain ⟨ce, ar, at_⟩ := c
 simp only at hc
 subst hc
 simp [execOp, h, resolve, invoke, builtin]
theorem regR_sound (hl : laidOutB P = true) {n : Nat} {all : List Oper} : ∀ (rest : List Oper) (i : Nat) (env : Tr CV) (m : Dm) (s : S) {env' : Tr CV} {m' : Dm} {s' : S}, (∀ j, rest[j]? = all[i + j]?) → regR P n all rest env m s = some (env', m', s') →
  Ev s s' ∧ ∀ (K : Nat → Prop) (B : Nat) (ρ : Rho) (a : Act) (w : World) (c0 : Frame) (cs : List Frame) (Q : Exit → Act → List Frame → World → Prop), Pre P K B ρ s s' w → ActD ρ n env a → ModeOk ρ m c0.mode →
   (∀ e a' u' w', PostD P K B ρ s w .normal n env' m' s' e a' u' w' → Q e a' ({ c0 with mode := u' } :: cs) w') → wpOpsSIn (FW none) 0 P all.toArray Q (List.range' i rest.length) a (c0 :: cs) w
 | [], i, env, m, s, env', m', s', hr, h => by
  simp only [regR, Option.some.injEq, Prod.mk.injEq] at h
  obtain ⟨rfl, rfl, rfl⟩ := h
  exact ⟨Ev.refl _, fun K B ρ a w c0 cs Q hp ha hm hQ => hQ _ _ c0.mode _ ⟨ρ, Go1.refl hp.mem, rfl, ha, hm⟩⟩
 | o :: rest, i, env, m, s, env', m', s', hr, h => by
  have ho : all.toArray[i]? = some o := by have := hr 0; simpa using this.symm
  have hr' : ∀ j, rest[j]? = all[i + 1 + j]? := fun j => by
   have := hr (j + 1)
   rwa [show i + (j + 1) = i + 1 + j by omega] at this
  have calm : ∀ {res : Ret}, opV P env o.op s = some res → guardV all env o = some true → (∀ c, o.op ≠ .defer c) → ∀ {x : CV} {s1 : S}, res = .ok x s1 → ∀ {env1 : Tr CV}, putE n o.dst x env = some env1 → regR P n all rest env1 m s1 = some (env', m', s') → Ev s s' ∧ ∀ (K : Nat → Prop) (B : Nat) (ρ : Rho) (a : Act) (w : World) (c0 : Frame) (cs : List Frame) (Q : Exit → Act → List Frame → World → Prop), Pre P K B ρ s s' w → ActD ρ n env a → ModeOk ρ m c0.mode →
   (∀ e a' u' w', PostD P K B ρ s w .normal n env' m' s' e a' u' w' → Q e a' ({ c0 with mode := u' } :: cs) w') → wpOpsSIn (FW none) 0 P all.toArray Q (List.range' i (o :: rest).length) a (c0 :: cs) w := by
   intro res hv hg hd x s1 hres env1 hput hh
   subst hres
   have hop := opV_sound hl hv
   obtain ⟨h1, h2⟩ := regR_sound hl rest (i + 1) env1 m s1 hr' hh
   refine ⟨hop.1.trans h1, fun K B ρ a w c0 cs Q hp ha hm hQ => ?_⟩
   rw [List.length_cons, List.range'_succ]
   unfold wpOpsSIn
   simp only [ho]
   refine ⟨fun _ _ => trivial, ?_⟩
   have hw : Region.wanted o (yielded all.toArray a.tmps) = true := guard_sound hg ha.env
   simp only [hw, if_true]
   obtain ⟨v, w1, ⟨ρ1, g, hx⟩, hcase⟩ := Runs.calm (hop.2 K B ρ none a w (hp.left h1) ha.env) hd (opV_calm hv ha.env w)
   have next := h2 K B ρ1 (a.put o.dst v) w1 c0 cs Q (hp.right hop.1 g) ((ha.le g.ext).put hput hx) (hm.le g.ext) fun e a' u' w' hpost => hQ e a' u' w' (hpost.left g hop.1 h1)
   rcases hcase with ⟨u, e1, e2⟩ | ⟨e1, e2⟩
   ·simp only [e1]
    rw [e2]; exact next
   ·simp only [e1]
    rw [e2]; exact next
  unfold regR at h
  split at h
  ·cases h
  ·rename_i hg
   split at h
   ·rename_i env1 hput
    obtain ⟨h1, h2⟩ := regR_sound hl rest (i + 1) env1 m s hr' h
    refine ⟨h1, fun K B ρ a w c0 cs Q hp ha hm hQ => ?_⟩
    rw [List.length_cons, List.range'_succ]
    unfold wpOpsSIn
    simp only [ho]
    refine ⟨fun _ _ => trivial, ?_⟩
    have hw : Region.wanted o (yielded all.toArray a.tmps) = false := guard_sound hg ha.env
    simp only [hw, Bool.false_eq_true, if_false]
    exact h2 K B ρ _ w c0 cs Q hp (ha.put hput (.tup _ _ .nil)) hm hQ
   ·cases h
  ·rename_i hg
   split at h
   ·rename_i c hop
    split at h
    ·rename_i hc
     split at h
     ·rename_i x
      split at h
      ·rename_i env1 hput
       obtain ⟨h1, h2⟩ := regR_sound hl rest (i + 1) env1 _ s hr' h
       refine ⟨h1, fun K B ρ a w c0 cs Q hp ha hm hQ => ?_⟩
       rw [List.length_cons, List.range'_succ]
       unfold wpOpsSIn
       simp only [ho]
       refine ⟨fun _ _ => trivial, ?_⟩
       have hw : Region.wanted o (yielded all.toArray a.tmps) = true := guard_sound hg ha.env
       simp only [hw, if_true, recover_exec hop hc a w]
       obtain ⟨v, hm1, hx⟩ := hm
       simp only [recoverD, hm1]
       exact h2 K B ρ _ w { c0 with mode := .panicking [{ v := v, recovered := true }] } cs Q hp (ha.put hput hx) ⟨v, rfl⟩ hQ
      ·cases h
     ·rename_i hne
      split at h
      ·rename_i env1 hput
       obtain ⟨h1, h2⟩ := regR_sound hl rest (i + 1) env1 _ s hr' h
       refine ⟨h1, fun K B ρ a w c0 cs Q hp ha hm hQ => ?_⟩
       rw [List.length_cons, List.range'_succ]
       unfold wpOpsSIn
       simp only [ho]
       refine ⟨fun _ _ => trivial, ?_⟩
       have hw : Region.wanted o (yielded all.toArray a.tmps) = true := guard_sound hg ha.env
       have hrec : recoverD (c0 :: cs) = none := by
        obtain ⟨p, b⟩ := m
        cases p with
        | none => cases b with
         | false => have hm : c0.mode = .returning := hm; simp [recoverD, hm]
         | true => exact hm.elim
        | some x => cases b with
         | false => exact absurd rfl (hne x)
         | true => obtain ⟨v, hm⟩ := hm; simp [recoverD, hm]
       simp only [hw, if_true, recover_exec hop hc a w, hrec]
       exact h2 K B ρ _ w c0 cs Q hp (ha.put hput (.val _)) hm hQ
      ·cases h
    ·split at h
     ·rename_i x s1 hv
      split at h
      ·rename_i env1 hput
       exact calm hv hg (by simp [hop]) rfl hput h
      ·cases h
     ·cases h
   ·split at h
    ·rename_i x s1 hv
     split at h
     ·rename_i env1 hput
      refine calm hv hg (fun c hd => ?_) rfl hput h
      rw [hd] at hv
      simp [opV] at hv
     ·cases h
    ·cases h
theorem codeD_sound (hl : laidOutB P = true) (R : RunOk P r) {n : Nat} : ∀ (c : Code) (env : Tr CV) (m : Dm) (s : S) {ex : Ex} {env' : Tr CV} {m' : Dm} {s' : S}, codeD P r n c env m s = some (ex, env', m', s') →
  Ev s s' ∧ ∀ (K : Nat → Prop) (B : Nat) (ρ : Rho) (a : Act) (w : World) (c0 : Frame) (cs : List Frame) (Q : Exit → Act → List Frame → World → Prop), Pre P K B ρ s s' w → ActD ρ n env a → ModeOk ρ m c0.mode →
   (∀ e a' u' w', PostD P K B ρ s w ex n env' m' s' e a' u' w' → Q e a' ({ c0 with mode := u' } :: cs) w') → c.wpSIn (FW none) 0 P Q a (c0 :: cs) w := by
 have plain : ∀ (c : Code) (env : Tr CV) (m : Dm) (s : S) {ex : Ex} {env' : Tr CV} {m' : Dm} {s' : S}, (match r.code c ⟨n, env, [], none⟩ s with
   | some (ex, ⟨_, env', [], _⟩, s') => some (ex, env', m, s')
   | _ => none) = some (ex, env', m', s') → Ev s s' ∧ ∀ (K : Nat → Prop) (B : Nat) (ρ : Rho) (a : Act) (w : World) (c0 : Frame) (cs : List Frame) (Q : Exit → Act → List Frame → World → Prop), Pre P K B ρ s s' w → ActD ρ n env a → ModeOk ρ m c0.mode →
   (∀ e a' u' w', PostD P K B ρ s w ex n env' m' s' e a' u' w' → Q e a' ({ c0 with mode := u' } :: cs) w') → c.wpSIn (FW none) 0 P Q a (c0 :: cs) w := by
  intro c env m s ex env' m' s' h
  split at h
  ·rename_i ex1 n1 env1 rd1 s1 hc
   simp only [Option.some.injEq, Prod.mk.injEq] at h
   obtain ⟨rfl, rfl, rfl, rfl⟩ := h
   obtain ⟨h1, h2, h3, h4⟩ := R.code _ _ _ _ _ _ hc
   simp only at h2 h3
   subst h2
   refine ⟨h1, fun K B ρ a w c0 cs Q hp ha hm hQ => wpSIn_of_wpIn rfl (wpL_wp ?_)⟩
   refine h4 K B ρ none a w _ hp ⟨ha.size, ha.env, by rw [ha.ds]; exact .nil, rfl⟩ fun e a' w' ⟨ρ', g, hex, hfr⟩ => ?_
   refine hQ e a' c0.mode w' ⟨ρ', g, hex, ⟨hfr.size, ?_, hfr.env⟩, hm.le g.ext⟩
   have hds := hfr.ds
   cases hh : a'.defers with
   | nil => rfl
   | cons d ds => rw [hh] at hds; cases hds
  ·cases h
 intro c
 induction c with
 | seq x y ihx ihy =>
  intro env m s ex env' m' s' h
  unfold codeD at h
  split at h
  ·rename_i env1 m1 s1 hx
   obtain ⟨h1, h2⟩ := ihx env m s hx
   obtain ⟨h3, h4⟩ := ihy env1 m1 s1 h
   refine ⟨h1.trans h3, fun K B ρ a w c0 cs Q hp ha hm hQ => wpSIn_seq (h2 K B ρ a w c0 cs _ (hp.left h3) ha hm ?_)⟩
   rintro e a' u' w' ⟨ρ', g, hex, ha', hm'⟩
   cases hex
   exact h4 K B ρ' a' w' { c0 with mode := u' } cs Q (hp.right h1 g) ha' hm' fun e a' u' w' hpost => hQ e a' u' w' (hpost.left g h1 h3)
  ·rename_i hne
   obtain ⟨h1, h2⟩ := ihx env m s h
   refine ⟨h1, fun K B ρ a w c0 cs Q hp ha hm hQ => wpSIn_seq (h2 K B ρ a w c0 cs _ hp ha hm ?_)⟩
   intro e a' u' w' hpost
   have h3 := hQ e a' u' w' hpost
   obtain ⟨ρ', g, hex, ha', hm'⟩ := hpost
   cases ex with
   | normal => exact absurd h (hne _ _ _)
   | exit id => cases hex; exact h3
   | ret => cases hex; exact h3
   | pan x => obtain ⟨v, rfl, _⟩ := hex; exact h3
 | cond t x y ihx ihy =>
  intro env m s ex env' m' s' h
  unfold codeD at h
  split at h
  ·rename_i hv
   obtain ⟨h1, h2⟩ := ihx env m s h
   exact ⟨h1, fun K B ρ a w c0 cs Q hp ha hm hQ => wpSIn_cond (t := true) (ev_sound ha.env hv).val_eq (h2 K B ρ a w c0 cs Q hp ha hm hQ)⟩
  ·rename_i hv
   obtain ⟨h1, h2⟩ := ihy env m s h
   exact ⟨h1, fun K B ρ a w c0 cs Q hp ha hm hQ => wpSIn_cond (t := false) (ev_sound ha.env hv).val_eq (h2 K B ρ a w c0 cs Q hp ha hm hQ)⟩
  ·cases h
 | region id ops any =>
  intro env m s ex env' m' s' h
  cases any with
  | true => exact plain _ _ _ _ h
  | false =>
   unfold codeD at h
   cases hb : hasRec ops.toList with
   | false => rw [hb] at h; exact plain _ _ _ _ h
   | true =>
    rw [hb, bif_t] at h
    split at h
    ·rename_i env1 m1 s1 hreg
     simp only [Option.some.injEq, Prod.mk.injEq] at h
     obtain ⟨rfl, rfl, rfl, rfl⟩ := h
     obtain ⟨h1, h2⟩ := regR_sound hl ops.toList 0 env m s (by simp) hreg
     refine ⟨h1, fun K B ρ a w c0 cs Q hp ha hm hQ => wpSIn_region ?_⟩
     have := h2 K B ρ a w c0 cs Q hp ha hm hQ
     rwa [Array.toArray_toList, Array.length_toList, ← List.range_eq_range'] at this
    ·cases h
 | _ => intro env m s ex env' m' s' h; exact plain _ _ _ _ h
end
section
variable {P : Program} {r : Run} {n : Nat}
theorem regR_p {all : List Oper} : ∀ (rest : List Oper) (env : Tr CV) (m : Dm) (s : S) {env' : Tr CV} {m' : Dm} {s' : S}, regR P n all rest env m s = some (env', m', s') → m'.p = m.p
 | [], env, m, s, env', m', s', h => by
  simp only [regR, Option.some.injEq, Prod.mk.injEq] at h
  obtain ⟨rfl, rfl, rfl⟩ := h; rfl
 | o :: rest, env, m, s, env', m', s', h => by
  unfold regR at h
  split at h
  ·cases h
  ·split at h
   ·exact regR_p rest _ _ _ h
   ·cases h
  ·split at h
   ·split at h
    ·split at h
     ·split at h
      ·have := regR_p rest _ _ _ h; exact this
      ·cases h
     ·split at h
      ·exact regR_p rest _ _ _ h
      ·cases h
    ·split at h
     ·split at h
      ·exact regR_p rest _ _ _ h
      ·cases h
     ·cases h
   ·split at h
    ·split at h
     ·exact regR_p rest _ _ _ h
     ·cases h
    ·cases h
theorem codeD_p : ∀ (c : Code) (env : Tr CV) (m : Dm) (s : S) {ex : Ex} {env' : Tr CV} {m' : Dm} {s' : S}, codeD P r n c env m s = some (ex, env', m', s') → m'.p = m.p := by
 have plain : ∀ (c : Code) (env : Tr CV) (m : Dm) (s : S) {ex : Ex} {env' : Tr CV} {m' : Dm} {s' : S}, (match r.code c ⟨n, env, [], none⟩ s with
   | some (ex, ⟨_, env', [], _⟩, s') => some (ex, env', m, s')
   | _ => none) = some (ex, env', m', s') → m'.p = m.p := by
  intro c env m s ex env' m' s' h
  split at h
  ·simp only [Option.some.injEq, Prod.mk.injEq] at h
   obtain ⟨rfl, rfl, rfl, rfl⟩ := h; rfl
  ·cases h
 intro c
 induction c with
 | seq x y ihx ihy =>
  intro env m s ex env' m' s' h
  unfold codeD at h
  split at h
  ·rename_i env1 m1 s1 hx
   exact (ihy _ _ _ h).trans (ihx _ _ _ hx)
  ·exact ihx _ _ _ h
 | cond t x y ihx ihy =>
  intro env m s ex env' m' s' h
  unfold codeD at h
  split at h
  ·exact ihx _ _ _ h
  ·exact ihy _ _ _ h
  ·cases h
 | region id ops any =>
  intro env m s ex env' m' s' h
  cases any with
  | true => exact plain _ _ _ _ h
  | false =>
   unfold codeD at h
   cases hb : hasRec ops.toList with
   | false => rw [hb] at h; exact plain _ _ _ _ h
   | true =>
    rw [hb, bif_t] at h
    split at h
    ·rename_i env1 m1 s1 hreg
     simp only [Option.some.injEq, Prod.mk.injEq] at h
     obtain ⟨rfl, rfl, rfl, rfl⟩ := h
     exact regR_p _ _ _ _ hreg
    ·cases h
 | _ => intro env m s ex env' m' s' h; exact plain _ _ _ _ h
theorem fnOk_of {f : FuncId} {fn : Func} {code : Code} {args : List CV} {α : Type} {x : Option α} {y : α} (h : (bif fnOk P f && Nat.ble (len args) fn.ntmps then x else none) = some y) : fnOk P f = true ∧ args.length ≤ fn.ntmps ∧ x = some y := by
 cases hb : (fnOk P f && Nat.ble (len args) fn.ntmps) with
 | false => rw [hb] at h; cases h
 | true =>
  rw [hb, bif_t] at h
  obtain ⟨h1, h2⟩ := (Bool.and_eq_true _ _).mp hb
  exact ⟨h1, by rw [← len_eq]; exact Nat.le_of_ble_eq_true h2, h⟩
theorem callD_sound (hl : laidOutB P = true) (R : RunOk P r) {f : FuncId} {args : List CV} {p : Option CV} {s s' : S} {back : Bool} (h : callD P r f args p s = some (back, s')) :
  Ev s s' ∧ fnOk P f = true ∧ ∀ (K : Nat → Prop) (B : Nat) (ρ : Rho) (vs : List Value) (w : World) (u : FrameMode) (Q : Ending → FrameMode → World → Prop), Pre P K B ρ s s' w → CRL ρ args vs → ModeOk ρ ⟨p, false⟩ u →
   (∀ v u' w' ρ', Go1 P K B ρ s w ρ' s' w' → ModeOk ρ' ⟨p, back⟩ u' → Q (.returned v) u' w') → CallsDIn (FW none) 0 P f vs.toArray u w Q := by
 unfold callD at h
 split at h
 ·cases h
 ·rename_i fn hf
  split at h
  ·rename_i code env hb hargs
   obtain ⟨hok, hlen, h⟩ := fnOk_of (args := args) (code := code) h
   have key : ∀ {ex : Ex} {env' : Tr CV} {m : Dm} {s1 : S}, codeD P r fn.ntmps code env ⟨p, false⟩ s = some (ex, env', m, s1) → (ex = .normal ∨ ex = .ret) → (match resV P env' fn.results.toList s1 fun l s => some (.ok (tupV l) s) with
    | some (.ok _ s') => some (m.back, s')
    | _ => none) = some (back, s') → Ev s s' ∧ fnOk P f = true ∧ ∀ (K : Nat → Prop) (B : Nat) (ρ : Rho) (vs : List Value) (w : World) (u : FrameMode) (Q : Ending → FrameMode → World → Prop), Pre P K B ρ s s' w → CRL ρ args vs → ModeOk ρ ⟨p, false⟩ u →
   (∀ v u' w' ρ', Go1 P K B ρ s w ρ' s' w' → ModeOk ρ' ⟨p, back⟩ u' → Q (.returned v) u' w') → CallsDIn (FW none) 0 P f vs.toArray u w Q := by
    intro ex env' m s1 hcode hex hres
    obtain ⟨h1, h2⟩ := codeD_sound hl R code env ⟨p, false⟩ s hcode
    have hmp := codeD_p code env ⟨p, false⟩ s hcode
    split at hres
    ·rename_i x s2 hr
     simp only [Option.some.injEq, Prod.mk.injEq] at hres
     obtain ⟨rfl, rfl⟩ := hres
     obtain ⟨x', s3, e1, e2, e3⟩ := resV_ret hr
     cases e1
     refine ⟨h1.trans e2, hok, fun K B ρ vs w u Q hp hvs hm hQ => ?_⟩
     refine callsDIn_of_wpSIn hf hb trivial fun c0 cs hc0 => ?_
     refine h2 K B ρ _ w c0 cs _ (hp.left e2) ⟨?_, rfl, args_envC hargs hvs hlen⟩ (by rw [hc0]; exact hm) ?_
     ·have := hvs.length
      simp; omega
     ·rintro e a' u' w' ⟨ρ', g, hexo, ha', hm'⟩
      obtain ⟨v, q1, q2, q3⟩ := e3 K B ρ' a' w' (hp.right h1 g) ha'.env
      have hmm : ModeOk ρ' ⟨p, m.back⟩ u' := by
       have : m = ⟨p, m.back⟩ := by obtain ⟨mp, mb⟩ := m; simp only at hmp; subst hmp; rfl
       rwa [this] at hm'
      have hfin := hQ v u' w' ρ' (g.trans q2 h1 e2) hmm
      rcases hex with rfl | rfl
      ·cases hexo
       exact ⟨ha'.ds, u', rfl, v, q1, hfin⟩
      ·cases hexo
       exact ⟨ha'.ds, u', rfl, v, q1, hfin⟩
    ·cases hres
   split at h
   ·rename_i env' m s1 hcode
    exact key hcode (.inl rfl) h
   ·rename_i env' m s1 hcode
    exact key hcode (.inr rfl) h
   ·cases h
  ·cases h
def OutOk (ρ : Rho) : Option CV → FrameMode → Prop
 | none, u => u = .returning
 | some x, u => ∃ v, u = .panicking [{ v := v, recovered := false }] ∧ CR ρ x v
theorem OutOk.mode {ρ : Rho} : ∀ {p : Option CV} {u : FrameMode}, OutOk ρ p u → ModeOk ρ ⟨p, false⟩ u
 | none, _, h => h
 | some _, _, h => h
theorem OutOk.run {ρ : Rho} : ∀ {p : Option CV} {u : FrameMode}, OutOk ρ p u → u ≠ .run
 | none, _, h => by rw [h]; simp
 | some _, _, ⟨v, h, _⟩ => by rw [h]; simp
theorem OutOk.le {ρ ρ' : Rho} (hl : Le ρ ρ') : ∀ {p : Option CV} {u : FrameMode}, OutOk ρ p u → OutOk ρ' p u
 | none, _, h => h
 | some _, _, ⟨v, h, h2⟩ => ⟨v, h, h2.le hl⟩
theorem leave_sound (hl : laidOutB P = true) (R : RunOk P r) {fn : Func} {env : Tr CV} : ∀ (ds : List SD) (p : Option CV) (s : S) {res : Ret}, leave P r fn env ds p s = some res →
  Ev s res.s ∧ ∀ (K : Nat → Prop) (B : Nat) (ρ : Rho) (a : Act) (w : World) (ds' : List Deferred) (u : FrameMode) (Q : Ending → World → Prop), Pre P K B ρ s res.s w → F2 (DOk ρ) ds ds' → EnvC ρ env a → OutOk ρ p u →
   (∀ e w', RetR P K B ρ s w res e w' → Q e w') → LeavesInM (FW none) 0 P fn a.tmps Q ds' u w
 | [], none, s, res, h => by
  unfold leave at h
  obtain ⟨x, s1, rfl, h2, h3⟩ := resV_ret h
  refine ⟨h2, fun K B ρ a w ds' u Q hp hds he hu hQ => ?_⟩
  cases hds
  obtain rfl : u = .returning := hu
  obtain ⟨v, q1, q2, q3⟩ := h3 K B ρ a w hp he
  exact ⟨v, q1, hQ _ _ ⟨ρ, v, rfl, q2, q3⟩⟩
 | [], some x, s, res, h => by
  unfold leave at h
  cases h
  refine ⟨Ev.refl _, fun K B ρ a w ds' u Q hp hds he hu hQ => ?_⟩
  cases hds
  obtain ⟨v, rfl, hx⟩ := hu
  exact hQ _ _ ⟨ρ, v, rfl, Go1.refl hp.mem, hx⟩
 | .mark k :: ds, p, s, res, h => by
  unfold leave at h
  obtain ⟨ob, g1, h⟩ := rd_inv h
  cases ob with
  | dfr =>
   simp only at h
   obtain ⟨o0, h', g2, g3, h⟩ := wr_inv h
   obtain ⟨h1, h2⟩ := leave_sound hl R ds p _ h
   have e1 : Ev s (s.read k) := Ev.read s k
   have e2 : Ev (s.read k) ((s.read k).write k h') := Ev.write g2 g3
   refine ⟨(e1.trans e2).trans h1, fun K B ρ a w ds' u Q hp hds he hu hQ => ?_⟩
   cases hds with
   | cons hd ht =>
    obtain ⟨b, m, q1, rfl⟩ := hd
    have hK : K k := hp.cov.W k (h1.W k (write_bit _ _ _))
    obtain ⟨b', m', ob, q2, q3, q4, q5⟩ := hp.mem.obj k _ hK g1
    rw [q1] at q2; cases q2
    obtain rfl : ob = .deferred (some []) := q5
    have hlt : b < w.heap.size := (Array.getElem?_eq_some_iff.1 q4).1
    have gg : Go1 P K B ρ s w ρ ((s.read k).write k h') (w.putObj b (.deferred none)) :=
     (Go1.read hp.mem k).trans (Go1.set (s := s.read k) (o0 := o0) (o' := .gone) (ob := .deferred (some [])) (ob' := .deferred none) hp.mem hK g2 g3 q1 q4 (World.putObj_heap_same hlt) (by simp [World.putObj]) (fun j hj => World.putObj_heap_other hj) ⟨rfl, rfl, rfl⟩ rfl) e1 e2
    refine ⟨hu.run, .inl ⟨b, _, rfl, run_takeDeferred q4, ?_⟩⟩
    refine h2 K B ρ a _ _ u Q (hp.right (e1.trans e2) gg) ht he hu fun e w' hr => hQ e w' (hr.left gg (e1.trans e2) h1)
  | _ => cases h
 | .call f args caps :: ds, p, s, res, h => by
  unfold leave at h
  split at h
  ·cases h
  ·rename_i l hcat
   have hcat := cat_eq hcat
   have run : ∀ {back : Bool} {s1 : S} {p' : Option CV}, callD P r f l p s = some (back, s1) → (p' = if back then none else p) → leave P r fn env ds p' s1 = some res → Ev s res.s ∧ ∀ (K : Nat → Prop) (B : Nat) (ρ : Rho) (a : Act) (w : World) (ds' : List Deferred) (u : FrameMode) (Q : Ending → World → Prop), Pre P K B ρ s res.s w → F2 (DOk ρ) (.call f args caps :: ds) ds' → EnvC ρ env a → OutOk ρ p u →
   (∀ e w', RetR P K B ρ s w res e w' → Q e w') → LeavesInM (FW none) 0 P fn a.tmps Q ds' u w := by
    intro back s1 p' hc hp' hlv
    obtain ⟨h1, hok, h2⟩ := callD_sound hl R hc
    obtain ⟨h3, h4⟩ := leave_sound hl R ds p' s1 hlv
    refine ⟨h1.trans h3, fun K B ρ a w ds' u Q hp hds he hu hQ => ?_⟩
    cases hds with
    | @cons _ _ _ dsr hd ht =>
     obtain ⟨vs, vc, q1, q2, rfl⟩ := hd
     have eargs : (vs ++ vc.toList).toArray = vs.toArray ++ vc := by apply Array.ext'; simp
     refine ⟨hu.run, .inr ⟨by simp [FW], .func f, vc, f, vs.toArray ++ vc, rfl, by simp [invoke, run_callFunc hok], fun _ _ => trivial, ?_⟩⟩
     have hcall := h2 K B ρ (vs ++ vc.toList) w u (fun
      | .returned _, u', w' => LeavesInM (FW none) 0 P fn a.tmps Q dsr (settle u') w'
      | .panicked chain, u', w' => LeavesInM (FW none) 0 P fn a.tmps Q dsr (raised u' chain) w'
      | .outgrown, _, w' => Q .outgrown w') (hp.left h3) (by rw [hcat]; exact q1.append q2) hu.mode ?_
     ·rw [eargs] at hcall
      exact hcall
     ·intro v u' w' ρ' g hm
      refine h4 K B ρ' a w' _ (settle u') Q (hp.right h1 g) (ht.imp fun _ _ => DOk.le g.ext) (he.le g.ext) ?_ fun e w'' hr => hQ e w'' (hr.left g h1 h3)
      subst hp'
      cases back with
      | true =>
       cases p with
       | none => exact hm.elim
       | some x => obtain ⟨v', rfl⟩ := hm; rfl
      | false =>
       cases p with
       | none => have hm : u' = .returning := hm; subst hm; rfl
       | some x => obtain ⟨v', rfl, hx⟩ := hm; exact ⟨v', rfl, hx⟩
   split at h
   ·rename_i s1 hc; exact run hc rfl h
   ·rename_i s1 hc; exact run hc rfl h
   ·cases h
theorem callN_sound (hl : laidOutB P = true) (R : RunOk P r) {f : FuncId} {args : List CV} {s : S} {res : Ret} (h : callN P r f args s = some res) : CallS P f args s res := by
 unfold callN at h
 split at h
 ·cases h
 ·rename_i fn hf
  split at h
  ·rename_i code env hb hargs
   obtain ⟨hok, hlen, h⟩ := fnOk_of (args := args) (code := code) h
   have key : ∀ {ex : Ex} {n' : Nat} {env' : Tr CV} {ds : List SD} {rd' : Option Nat} {s1 : S} {p : Option CV}, r.code code ⟨fn.ntmps, env, [], none⟩ s = some (ex, ⟨n', env', ds, rd'⟩, s1) → (p = none ∧ (ex = .normal ∨ ex = .ret) ∨ ∃ x, p = some x ∧ ex = .pan x) → leave P r fn env' ds p s1 = some res → CallS P f args s res := by
    intro ex n' env' ds rd' s1 p hcode hex hlv
    obtain ⟨h1, _, _, h2⟩ := R.code _ _ _ _ _ _ hcode
    obtain ⟨h3, h4⟩ := leave_sound hl R ds p s1 hlv
    refine ⟨h1.trans h3, hok, fun K B ρ vs w hp hvs => calls_of_FW (n := 0) (callsIn_of_wp_marks hf hb trivial (wpL_wp ?_) rfl)⟩
    refine h2 K B ρ none _ w _ (hp.left h3) ⟨?_, args_envC hargs hvs hlen, .nil, rfl⟩ ?_
    ·have := hvs.length
     simp; omega
    ·rintro e a' w' ⟨ρ', g, hexo, hfr⟩
     have fin : ∀ u, OutOk ρ' p u → LeavesInM (FW none) 0 P fn a'.tmps (RetR P K B ρ s w res) a'.defers u w' := fun u hu =>
      h4 K B ρ' a' w' a'.defers u _ (hp.right h1 g) hfr.ds hfr.env hu fun e w'' hr => hr.left g h1 h3
     rcases hex with ⟨rfl, rfl | rfl⟩ | ⟨x, rfl, rfl⟩
     ·cases hexo; exact fin _ rfl
     ·cases hexo; exact fin _ rfl
     ·obtain ⟨v, rfl, hx⟩ := hexo
      exact fin _ ⟨v, rfl, hx⟩
   split at h
   ·rename_i hcode; exact key hcode (.inl ⟨rfl, .inl rfl⟩) h
   ·rename_i hcode; exact key hcode (.inl ⟨rfl, .inr rfl⟩) h
   ·rename_i x _ _ _ _ _ hcode; exact key hcode (.inr ⟨x, rfl, rfl⟩) h
   ·cases h
  ·cases h
end
section
variable {P : Program} {r : Run}
theorem MK.loop {K : Nat → Prop} {B : Nat} {ρ : Rho} {s : S} {w : World} (hm : MK P K B ρ s.h w) {k : Nat} {st : LoopState} {pd : Option Code} {env : Tr CV} {n : Nat} {ps : List Nat} {as bo : Code} {d : Nat} (hK : K k) (h0 : s.h.get k = some (.loop st pd env n ps as bo d)) {b m : Nat} (hρ : ρ k = some (b, m)) :
  ∃ lp : Loop, w.heap[b]? = some (.loop lp) ∧ lp.state = st ∧ lp.pending = pd ∧ lp.params = ps.toArray ∧ lp.assign = as ∧ lp.body = bo ∧ lp.tmps.size = n ∧ (∀ t x, env.get t = some x → CR ρ x (lp.tmps.getD t undef)) ∧ ∃ n', ρ d = some (lp.defers, n') := by
 obtain ⟨b', m', ob, h1, h2, h3, h4⟩ := hm.obj k _ hK h0
 rw [hρ] at h1; cases h1
 obtain ⟨lp, rfl, h5⟩ := h4
 exact ⟨lp, h3, h5⟩
theorem Go1.loopSt {K : Nat → Prop} {B : Nat} {ρ : Rho} {s : S} {w : World} (hm : MK P K B ρ s.h w) {k : Nat} {st st' : LoopState} {pd pd' : Option Code} {env : Tr CV} {n : Nat} {ps : List Nat} {as bo : Code} {d : Nat} {h' : Tr CO} (hK : K k) (h0 : s.h.get k = some (.loop st pd env n ps as bo d))
  (hs : Tr.set 24 s.h k (some (.loop st' pd' env n ps as bo d)) = some h') {b m : Nat} (hρ : ρ k = some (b, m)) {lp : Loop} (hb : w.heap[b]? = some (.loop lp)) : Go1 P K B ρ s w ρ (s.write k h') (w.putObj b (.loop { lp with state := st', pending := pd' })) := by
 obtain ⟨lp', h1, _, _, h2, h3, h4, h5, h6, h7⟩ := hm.loop hK h0 hρ
 rw [hb] at h1; cases h1
 have hlt : b < w.heap.size := (Array.getElem?_eq_some_iff.1 hb).1
 exact Go1.set hm hK h0 hs hρ hb (World.putObj_heap_same hlt) (by simp [World.putObj]) (fun j hj => World.putObj_heap_other hj) ⟨rfl, rfl, rfl⟩ ⟨_, rfl, rfl, rfl, h2, h3, h4, h5, h6, h7⟩
theorem zip_fold (ps : List Nat) (vs : List Value) (tm : Array Value) : (ps.toArray.zip vs.toArray).foldl (fun tmps (t, a) => tmps.setIfInBounds t a) tm = (ps.zip vs).foldl (fun tm (p, v) => tm.setIfInBounds p v) tm := by
 rw [List.zip_toArray, List.foldl_toArray]
theorem roundN_sound (hl : laidOutB P = true) (R : RunOk P r) {k : Nat} {args : List CV} {s : S} {res : Ret} (h : roundN P r k args s = some res) : RoundS P k args s res := by
 unfold roundN at h
 obtain ⟨ob, g1, h⟩ := rd_inv h
 split at h
 ·rename_i st pd env n ps assign body d
  split at h
  ·cases h
  ·rename_i env1 hps
   split at h
   ·rename_i n' env2 rd2 s1 hassign
    obtain ⟨evA, nA, rA, runA⟩ := R.code _ _ _ _ _ _ hassign
    obtain ⟨ob2, g2, h⟩ := rd_inv h
    split at h
    ·rename_i pd2 env' n2 ps' as' bo' d'
     obtain ⟨o2, h2, g3, g4, h⟩ := wr_inv h
     have e0 : Ev s (s.read k) := Ev.read s k
     have e1 : Ev s1 (s1.read k) := Ev.read s1 k
     have e2 : Ev (s1.read k) ((s1.read k).write k h2) := Ev.write g3 g4
     have eA := (e0.trans evA).trans (e1.trans e2)
     have key : ∀ {ex : Ex} {fr3 : Fr} {s3 : S} {jp : Option Code} {res : Ret}, r.code body ⟨n, env2, [], some k⟩ ((s1.read k).write k h2) = some (ex, fr3, s3) → (ex = .normal ∧ jp = none ∨ ex = .ret ∧ jp = some .ret ∨ ∃ id, ex = .exit id ∧ jp = some (.exit id)) →
       (rd s3 k fun ob s => match ob with
        | .loop _ _ env' n' ps' as' bo' d' => wr s k (some (.loop (if jp.isNone then .ready else .done) jp env' n' ps' as' bo' d')) fun s => some (.ok (.val (.bool jp.isNone)) s)
        | _ => none) = some res → RoundS P k args s res := by
      intro ex fr3 s3 jp res hbody hex h
      obtain ⟨evB, nB, rB, runB⟩ := R.code _ _ _ _ _ _ hbody
      obtain ⟨ob3, g5, h⟩ := rd_inv h
      split at h
      ·rename_i st3 pd3 env3 n3 ps3 as3 bo3 d3
       obtain ⟨o3, h3, g6, g7, h⟩ := wr_inv h
       simp only [Option.some.injEq] at h
       subst h
       have e3 : Ev s3 (s3.read k) := Ev.read s3 k
       have e4 : Ev (s3.read k) ((s3.read k).write k h3) := Ev.write g6 g7
       have eB := e3.trans e4
       refine ⟨eA.trans (evB.trans eB), fun K B ρ vs w b m hp hρ hvs => ?_⟩
       have hK : K k := hp.cov.W k (write_bit _ _ _)
       obtain ⟨lp, hb, q1, q2, q3, q4, q5, q6, q7, q8⟩ := hp.mem.loop hK g1 hρ
       obtain ⟨f1, f2, f3⟩ := setPs_envC ps args vs env env1 lp.tmps hps hvs q6 q7
       have hy := run_yield (P := P) (args := vs.toArray) hb (by rw [q3]; simp [f3])
       rw [q3, zip_fold] at hy
       refine ⟨_, _, _, _, hy, roundIn_of_wpIn (F := FW none) (n := 0) trivial ?_⟩
       have p0 : Pre P K B ρ (s.read k) s1 w := (hp.right e0 (Go1.read hp.mem k)).left ((e1.trans e2).trans (evB.trans eB))
       rw [q4, q5]
       refine wpL_wp (F := FW (some b)) (runA K B ρ (some b) _ w _ p0 ⟨f2, f1, .nil, ⟨b, m, hρ, rfl⟩⟩ ?_)
       rintro e a1 w1 ⟨ρ1, gA, hexA, frA⟩
       cases hexA
       have gA' : Go1 P K B ρ s w ρ1 s1 w1 := (Go1.read hp.mem k).trans gA e0 evA
       have hρ1 : ρ1 k = some (b, m) := gA.ext _ _ hρ
       obtain ⟨lp1, hb1, r1, r2, r3, r4, r5, r6, r7, r8⟩ := MK.loop (s := s1) gA.mem hK g2 hρ1
       have gW : Go1 P K B ρ1 s1 w1 ρ1 ((s1.read k).write k h2) (w1.putObj b (.loop { lp1 with state := .busy, pending := pd2 })) :=
        (Go1.read gA.mem k).trans (Go1.loopSt (s := s1.read k) gA.mem hK g2 g4 hρ1 hb1) e1 e2
       have hbusy : ({ lp1 with state := .busy, pending := pd2 } : Loop) = { lp1 with state := .busy } := by rw [← r2]
       rw [hbusy] at gW
       refine ⟨_, run_beginRound hb1 r1, ?_⟩
       have g2' : Go1 P K B ρ s w ρ1 ((s1.read k).write k h2) (w1.putObj b (.loop { lp1 with state := .busy })) := gA'.trans gW (e0.trans evA) (e1.trans e2)
       have hds : a1.defers = [] := by
        have := frA.ds
        cases hh : a1.defers with
        | nil => rfl
        | cons d ds => rw [hh] at this; cases this
       have p2 : Pre P K B ρ1 ((s1.read k).write k h2) s3 (w1.putObj b (.loop { lp1 with state := .busy })) := (hp.right eA g2').left eB
       refine wpL_wp (F := FW (some b)) (runB K B ρ1 (some b) a1 _ _ p2 ⟨by have := frA.size; simp only at nA; rw [this, nA], frA.env, by rw [hds]; exact .nil, ⟨b, m, hρ1, rfl⟩⟩ ?_)
       rintro e a3 w3 ⟨ρ3, gB, hexB, frB⟩
       have hρ3 : ρ3 k = some (b, m) := gB.ext _ _ hρ1
       obtain ⟨lp3, hb3, t1, t2, t3⟩ := MK.loop (s := s3) gB.mem hK g5 hρ3
       have gE : Go1 P K B ρ3 s3 w3 ρ3 ((s3.read k).write k h3) (w3.putObj b (.loop { lp3 with state := if jp.isNone then .ready else .done, pending := jp })) :=
        (Go1.read gB.mem k).trans (Go1.loopSt (s := s3.read k) gB.mem hK g5 g7 hρ3 hb3) e3 e4
       have gAll : Go1 P K B ρ s w ρ3 ((s3.read k).write k h3) (w3.putObj b (.loop { lp3 with state := if jp.isNone then .ready else .done, pending := jp })) :=
        (g2'.trans gB eA evB).trans gE (eA.trans evB) eB
       have hrun := run_endRound (P := P) jp hb3
       have hR : RetR P K B ρ s w (.ok (.val (.bool jp.isNone)) ((s3.read k).write k h3)) (.returned (.bool jp.isNone)) (w3.putObj b (.loop { lp3 with state := if jp.isNone then .ready else .done, pending := jp })) := ⟨ρ3, _, rfl, gAll, .val _⟩
       rcases hex with ⟨rfl, rfl⟩ | ⟨rfl, rfl⟩ | ⟨id, rfl, rfl⟩
       ·cases hexB; exact ⟨_, _, hrun, hR⟩
       ·cases hexB; exact ⟨_, _, hrun, hR⟩
       ·cases hexB; exact ⟨_, _, hrun, hR⟩
      ·cases h
     split at h
     ·rename_i hbody; exact key (jp := none) hbody (.inl ⟨rfl, rfl⟩) h
     ·rename_i hbody; exact key (jp := some .ret) hbody (.inr (.inl ⟨rfl, rfl⟩)) h
     ·rename_i id _ _ hbody; exact key (jp := some (.exit id)) hbody (.inr (.inr ⟨id, rfl, rfl⟩)) h
     ·cases h
    ·cases h
   ·cases h
 ·cases h
def rangeGo (P : Program) (r : Run) (n : Nat) (env : Tr CV) (rr : Option Nat) (f : FuncId) (first caps : List CV) (ps : List Nat) (assign body : Code) (d : Nat) (ds' : List SD) (s : S) : Option (Ex × Fr × S) :=
 nw s (.loop .ready none env n ps assign body d) fun k s => match app2 first [.yld k] caps with
 | none => none
 | some l => match r.call f l s with
  | none => none
  | some (.pan x s) => some (.pan x, ⟨n, env, ds', rr⟩, s)
  | some (.ok _ s) => rd s k fun ob s => match ob with
   | .loop .ready none env' n' ps' as' bo' d' => wr s k (some (.loop .exhausted none env' n' ps' as' bo' d')) fun s => some (.normal, ⟨n, env, ds', rr⟩, s)
   | .loop .done (some j) env' n' ps' as' bo' d' => wr s k (some (.loop .exhausted (some j) env' n' ps' as' bo' d')) fun s => r.code j ⟨n, env, ds', rr⟩ s
   | _ => none
theorem app2_eq {a b c l : List CV} (h : app2 a b c = some l) : l = a ++ (b ++ c) := by
 unfold app2 at h
 split at h
 ·rename_i m hm; rw [cat_eq hm] at h; exact cat_eq h
 ·cases h
theorem rangeGo_sound (R : RunOk P r) {n : Nat} {env : Tr CV} {rr : Option Nat} {f : FuncId} {first caps : List CV} {ps : List Nat} {assign body : Code} {d : Nat} {ds' : List SD} {s : S} {ex : Ex} {fr' : Fr} {s' : S} (h : rangeGo P r n env rr f first caps ps assign body d ds' s = some (ex, fr', s')) :
  Ev s s' ∧ fr'.n = n ∧ fr'.rd = rr ∧ ∀ (K : Nat → Prop) (B : Nat) (ρ : Rho) (r0 : Option Nat) (a : Act) (w : World) (Q : Exit → Act → World → Prop) (g : Operand) (D nd : Nat) (fnid : FuncId), Pre P K B ρ s s' w → FrOk ρ ⟨n, env, ds', rr⟩ r0 a → CR ρ (.fn f first caps) (a.eval g) → ρ d = some (D, nd) →
   (∀ e a' w', Post P K B ρ s w ex fr' s' r0 e a' w' → Q e a' w') → ∃ dd args, (resolve a.eval (rangeCall g w.heap.size) 0).run P (w.alloc (.loop { state := .ready, pending := none, fn := fnid, tmps := a.tmps, params := ps.toArray, assign, body, defers := D })) = .ok dd (w.alloc (.loop { state := .ready, pending := none, fn := fnid, tmps := a.tmps, params := ps.toArray, assign, body, defers := D })) ∧
    (invoke dd.target dd.args).run P (w.alloc (.loop { state := .ready, pending := none, fn := fnid, tmps := a.tmps, params := ps.toArray, assign, body, defers := D })) = .ok (.enter f args) (w.alloc (.loop { state := .ready, pending := none, fn := fnid, tmps := a.tmps, params := ps.toArray, assign, body, defers := D })) ∧
    CallsIn (FW r0) (0 - 1) P f args (w.alloc (.loop { state := .ready, pending := none, fn := fnid, tmps := a.tmps, params := ps.toArray, assign, body, defers := D })) (rangePost (FW r0) 0 P w.heap.size Q a) := by
 unfold rangeGo at h
 obtain ⟨h1, g1, h⟩ := nw_inv h
 split at h
 ·cases h
 ·rename_i l hl2
  have hl3 := app2_eq hl2
  have e1 : Ev s (s.new h1) := Ev.new g1
  have start : ∀ {res : Ret}, CallS P f l (s.new h1) res → ∀ (e2 : Ev res.s s') (K : Nat → Prop) (B : Nat) (ρ : Rho) (r0 : Option Nat) (a : Act) (w : World) (Q : Exit → Act → World → Prop) (g : Operand) (D nd : Nat) (fnid : FuncId), Pre P K B ρ s s' w → FrOk ρ ⟨n, env, ds', rr⟩ r0 a → CR ρ (.fn f first caps) (a.eval g) → ρ d = some (D, nd) →
    (∀ e w', (∃ ρ1, ρ1 s.nx = some (w.heap.size, 0) ∧ Go1 P K B ρ s w ρ1 (s.new h1) (w.alloc (.loop { state := .ready, pending := none, fn := fnid, tmps := a.tmps, params := ps.toArray, assign, body, defers := D })) ∧ RetR P K B ρ1 (s.new h1) (w.alloc (.loop { state := .ready, pending := none, fn := fnid, tmps := a.tmps, params := ps.toArray, assign, body, defers := D })) res e w') → rangePost (FW r0) 0 P w.heap.size Q a e w') →
    ∃ dd args, (resolve a.eval (rangeCall g w.heap.size) 0).run P (w.alloc (.loop { state := .ready, pending := none, fn := fnid, tmps := a.tmps, params := ps.toArray, assign, body, defers := D })) = .ok dd (w.alloc (.loop { state := .ready, pending := none, fn := fnid, tmps := a.tmps, params := ps.toArray, assign, body, defers := D })) ∧
    (invoke dd.target dd.args).run P (w.alloc (.loop { state := .ready, pending := none, fn := fnid, tmps := a.tmps, params := ps.toArray, assign, body, defers := D })) = .ok (.enter f args) (w.alloc (.loop { state := .ready, pending := none, fn := fnid, tmps := a.tmps, params := ps.toArray, assign, body, defers := D })) ∧
    CallsIn (FW r0) (0 - 1) P f args (w.alloc (.loop { state := .ready, pending := none, fn := fnid, tmps := a.tmps, params := ps.toArray, assign, body, defers := D })) (rangePost (FW r0) 0 P w.heap.size Q a) := by
   intro res hc e2 K B ρ r0 a w Q g D nd fnid hp hf hg hD hQ
   obtain ⟨c1, c2, c3⟩ := hc
   generalize hlr : ({ state := .ready, pending := none, fn := fnid, tmps := a.tmps, params := ps.toArray, assign, body, defers := D } : Loop) = lr at *
   have hfr := hp.fresh s.nx (Nat.le_refl _) (Nat.lt_of_lt_of_le (Nat.lt_succ_self _) (c1.trans e2).nx)
   have hle := Rho.put_le (w.heap.size, 0) hfr
   have gN : Go1 P K B ρ s w (ρ.put s.nx (w.heap.size, 0)) (s.new h1) (w.alloc (.loop lr)) :=
    Go1.new hp.mem (hp.cov.up _ (Nat.le_refl _)) g1 hfr hp.base rfl (alloc_like _ _) ⟨lr, rfl, by rw [← hlr], by rw [← hlr], by rw [← hlr], by rw [← hlr], by rw [← hlr], by rw [← hlr]; exact hf.size, fun t x hx => by rw [← hlr]; exact (hf.env t x hx).le hle, nd, by rw [← hlr]; exact hle _ _ hD⟩
   have hk1 : (ρ.put s.nx (w.heap.size, 0)) s.nx = some (w.heap.size, 0) := Rho.put_same _ _ _
   generalize hu : a.eval g = u at hg
   cases hg with
   | fn _ _ _ vf vc hvf hvc =>
    refine ⟨{ target := .fn (.func f) vc, args := vf ++ #[.func (.yield w.heap.size) #[] #[]] }, vf ++ #[.func (.yield w.heap.size) #[] #[]] ++ vc, ?_, by simp [invoke, run_callFunc c2], ?_⟩
    ·simp only [resolve, rangeCall, hu]
     simp [Deferred.ofValue, Act.eval]
    ·have hcall := c3 K B _ (vf.toList ++ ([.func (.yield w.heap.size) #[] #[]] ++ vc.toList)) _ ((hp.right e1 gN).left e2) (by rw [hl3]; exact (hvf.le hle).append ((CRL.cons _ _ _ _ (.yld _ _ _ hk1) .nil).append (hvc.le hle)))
     have earr : (vf.toList ++ ([Value.func (.yield w.heap.size) #[] #[]] ++ vc.toList)).toArray = vf ++ #[.func (.yield w.heap.size) #[] #[]] ++ vc := by apply Array.ext'; simp
     rw [earr] at hcall
     exact callsIn_FW (hcall.mono fun e w' hr => hQ e w' ⟨_, hk1, gN, hr⟩)
  split at h
  ·cases h
  ·rename_i x s1 hcall
   simp only [Option.some.injEq, Prod.mk.injEq] at h
   obtain ⟨rfl, rfl, rfl⟩ := h
   have hc := R.call _ _ _ _ hcall
   refine ⟨e1.trans hc.1, rfl, rfl, fun K B ρ r0 a w Q g D nd fnid hp hf hg hD hQ => start hc (Ev.refl _) K B ρ r0 a w Q g D nd fnid hp hf hg hD ?_⟩
   rintro e w' ⟨ρ1, _, gN, ρ2, v, rfl, g2, hx⟩
   exact hQ _ _ _ ⟨ρ2, gN.trans g2 e1 hc.1, ⟨v, rfl, hx⟩, hf.le (gN.ext.trans g2.ext)⟩
  ·rename_i x s1 hcall
   have hc := R.call _ _ _ _ hcall
   obtain ⟨ob, g2, h⟩ := rd_inv h
   split at h
   ·rename_i env' n' ps' as' bo' d'
    obtain ⟨o3, h3, g3, g4, h⟩ := wr_inv h
    simp only [Option.some.injEq, Prod.mk.injEq] at h
    obtain ⟨rfl, rfl, rfl⟩ := h
    have e2 : Ev s1 (s1.read s.nx) := Ev.read _ _
    have e3 : Ev (s1.read s.nx) ((s1.read s.nx).write s.nx h3) := Ev.write g3 g4
    refine ⟨(e1.trans hc.1).trans (e2.trans e3), rfl, rfl, fun K B ρ r0 a w Q g D nd fnid hp hf hg hD hQ => start hc (e2.trans e3) K B ρ r0 a w Q g D nd fnid hp hf hg hD ?_⟩
    rintro e w' ⟨ρ1, hk1, gN, ρ2, v, rfl, gC, hx⟩
    have hK : K s.nx := hp.cov.up _ (Nat.le_refl _)
    have hk2 := gC.ext _ _ hk1
    obtain ⟨lp, hb, q1, q2, _⟩ := MK.loop (s := s1) gC.mem hK g2 hk2
    have gE := (Go1.read gC.mem s.nx).trans (Go1.loopSt (s := s1.read s.nx) gC.mem hK g2 g4 hk2 hb) e2 e3
    have hrun := run_endLoop (P := P) hb (by rw [q1]; simp)
    rw [q2] at hrun
    refine ⟨none, _, hrun, ?_⟩
    exact hQ _ _ _ ⟨ρ2, (gN.trans gC e1 hc.1).trans gE (e1.trans hc.1) (e2.trans e3), rfl, hf.le ((gN.ext.trans gC.ext).trans gE.ext)⟩
   ·rename_i j env' n' ps' as' bo' d'
    obtain ⟨o3, h3, g3, g4, h⟩ := wr_inv h
    have e2 : Ev s1 (s1.read s.nx) := Ev.read _ _
    have e3 : Ev (s1.read s.nx) ((s1.read s.nx).write s.nx h3) := Ev.write g3 g4
    obtain ⟨e4, nn, rn, run⟩ := R.code _ _ _ _ _ _ h
    have e123 := (e1.trans hc.1).trans (e2.trans e3)
    refine ⟨e123.trans e4, nn, rn, fun K B ρ r0 a w Q g D nd fnid hp hf hg hD hQ => start hc ((e2.trans e3).trans e4) K B ρ r0 a w Q g D nd fnid hp hf hg hD ?_⟩
    rintro e w' ⟨ρ1, hk1, gN, ρ2, v, rfl, gC, hx⟩
    have hK : K s.nx := hp.cov.up _ (Nat.le_refl _)
    have hk2 := gC.ext _ _ hk1
    obtain ⟨lp, hb, q1, q2, _⟩ := MK.loop (s := s1) gC.mem hK g2 hk2
    have gE := (Go1.read gC.mem s.nx).trans (Go1.loopSt (s := s1.read s.nx) gC.mem hK g2 g4 hk2 hb) e2 e3
    have hrun := run_endLoop (P := P) hb (by rw [q1]; simp)
    rw [q2] at hrun
    refine ⟨some j, _, hrun, ?_⟩
    have gAll := (gN.trans gC e1 hc.1).trans gE (e1.trans hc.1) (e2.trans e3)
    exact wpL_wp (run K B ρ2 r0 a _ Q (hp.right e123 gAll) (hf.le gAll.ext) fun e a' w' hpost => hQ _ _ _ (hpost.left gAll e123 e4))
   ·cases h
end
section
variable {P : Program} {r : Run}
theorem rangeN_sound (R : RunOk P r) {g : Operand} {ps : List Nat} {assign body : Code} {fr fr' : Fr} {s s' : S} {ex : Ex} (h : rangeN P r g ps assign body fr s = some (ex, fr', s')) : CodeS P (.rangeFunc g ps.toArray assign body) fr s ex fr' s' := by
 obtain ⟨n, env, ds, rr⟩ := fr
 unfold rangeN at h
 simp only at h
 split at h
 ·rename_i f first caps hg
  cases rr with
  | none =>
   simp only at h
   obtain ⟨h1, g1, h⟩ := nw_inv h
   have h : rangeGo P r n env none f first caps ps assign body s.nx (.mark s.nx :: ds) (s.new h1) = some (ex, fr', s') := h
   obtain ⟨e2, nn, rn, run⟩ := rangeGo_sound R h
   have e1 : Ev s (s.new h1) := Ev.new g1
   refine ⟨e1.trans e2, nn, rn, fun K B ρ r0 a w Q hp hf hQ => ?_⟩
   obtain rfl : r0 = none := hf.rd
   show (Code.rangeFunc g ps.toArray assign body).wpIn (FW none) 0 P Q a w
   refine wpIn_rangeFunc fun fnid hfn => ?_
   have hfr := hp.fresh s.nx (Nat.le_refl _) (Nat.lt_of_lt_of_le (Nat.lt_succ_self _) e2.nx)
   have hle := Rho.put_le (w.heap.size, 0) hfr
   have gN : Go1 P K B ρ s w (ρ.put s.nx (w.heap.size, 0)) (s.new h1) (w.alloc (.deferred (some []))) :=
    Go1.new hp.mem (hp.cov.up _ (Nat.le_refl _)) g1 hfr hp.base rfl (alloc_like _ _) rfl
   have hk1 : (ρ.put s.nx (w.heap.size, 0)) s.nx = some (w.heap.size, 0) := Rho.put_same _ _ _
   have hf1 : FrOk (ρ.put s.nx (w.heap.size, 0)) ⟨n, env, .mark s.nx :: ds, none⟩ none { a with defers := { target := .collected w.heap.size, args := #[] } :: a.defers } :=
    ⟨hf.size, hf.env.le hle, .cons ⟨_, _, hk1, rfl⟩ (hf.ds.imp fun _ _ => DOk.le hle), rfl⟩
   have hgv : CR (ρ.put s.nx (w.heap.size, 0)) (.fn f first caps) (a.eval g) := (ev_sound hf.env hg).le hle
   obtain ⟨dd, args, q1, q2, q3⟩ := run K B _ none { a with defers := { target := .collected w.heap.size, args := #[] } :: a.defers } (w.alloc (.deferred (some []))) Q g w.heap.size 0 fnid (hp.right e1 gN) hf1 hgv hk1 fun e a' w' hpost => hQ e a' w' (hpost.left gN e1 e2)
   rw [World.size_alloc] at q1 q3
   exact ⟨_, _, _, dd, _, f, args, _, run_enterLoop_outer fnid a.tmps ps.toArray assign body, q1, fun _ _ => trivial, q2, by simp [FW], q3⟩
  | some l =>
   simp only at h
   obtain ⟨ob, g1, h⟩ := rd_inv h
   split at h
   ·rename_i st pd env' n' ps' as' bo' d
    have h : rangeGo P r n env (some l) f first caps ps assign body d ds (s.read l) = some (ex, fr', s') := h
    obtain ⟨e2, nn, rn, run⟩ := rangeGo_sound R h
    have e1 : Ev s (s.read l) := Ev.read _ _
    refine ⟨e1.trans e2, nn, rn, fun K B ρ r0 a w Q hp hf hQ => ?_⟩
    obtain ⟨b, m, hb, rfl⟩ := hf.rd
    show (Code.rangeFunc g ps.toArray assign body).wpIn (FW (some b)) 0 P Q a w
    refine wpIn_rangeFunc fun fnid hfn => ?_
    have hK : K l := hp.cov.R l (e2.R l (read_bit s l))
    obtain ⟨lp, hlp, _, _, _, _, _, _, _, nd, hD⟩ := hp.mem.loop hK g1 hb
    have gN : Go1 P K B ρ s w ρ (s.read l) w := Go1.read hp.mem l
    obtain ⟨dd, args, q1, q2, q3⟩ := run K B ρ (some b) a w Q g lp.defers nd fnid (hp.right e1 gN) ⟨hf.size, hf.env, hf.ds, ⟨b, m, hb, rfl⟩⟩ (ev_sound hf.env hg) hD fun e a' w' hpost => hQ e a' w' (hpost.left gN e1 e2)
    exact ⟨_, [], _, dd, _, f, args, _, run_enterLoop_inner hlp fnid a.tmps ps.toArray assign body, q1, fun _ _ => trivial, q2, by simp [FW], q3⟩
   ·cases h
 ·cases h
theorem codeN_sound (hl : laidOutB P = true) (hmix : P.follows .mixedOrders = true) (R : RunOk P r) {c : Code} {fr fr' : Fr} {s s' : S} {ex : Ex} (h : codeN P r c fr s = some (ex, fr', s')) : CodeS P c fr s ex fr' s' := by
 cases c with
 | skip =>
  simp only [codeN, Option.some.injEq, Prod.mk.injEq] at h
  obtain ⟨rfl, rfl, rfl⟩ := h
  exact ⟨Ev.refl _, rfl, rfl, fun K B ρ rr a w Q hp hf hQ => wpIn_skip (hQ _ _ _ ⟨ρ, Go1.refl hp.mem, rfl, hf⟩)⟩
 | label k =>
  simp only [codeN, Option.some.injEq, Prod.mk.injEq] at h
  obtain ⟨rfl, rfl, rfl⟩ := h
  exact ⟨Ev.refl _, rfl, rfl, fun K B ρ rr a w Q hp hf hQ => wpIn_label (hQ _ _ _ ⟨ρ, Go1.refl hp.mem, rfl, hf⟩)⟩
 | ret =>
  simp only [codeN, Option.some.injEq, Prod.mk.injEq] at h
  obtain ⟨rfl, rfl, rfl⟩ := h
  exact ⟨Ev.refl _, rfl, rfl, fun K B ρ rr a w Q hp hf hQ => wpIn_ret (hQ _ _ _ ⟨ρ, Go1.refl hp.mem, rfl, hf⟩)⟩
 | exit id =>
  simp only [codeN, Option.some.injEq, Prod.mk.injEq] at h
  obtain ⟨rfl, rfl, rfl⟩ := h
  exact ⟨Ev.refl _, rfl, rfl, fun K B ρ rr a w Q hp hf hQ => wpIn_exit (hQ _ _ _ ⟨ρ, Go1.refl hp.mem, rfl, hf⟩)⟩
 | region id ops any =>
  cases any with
  | false =>
   obtain ⟨h1, h2, h3, h4⟩ := regS_sound hl R _ _ _ (show regS P r ops.toList ops.toList fr s = some (ex, fr', s') from h)
   refine ⟨h1, h2, h3, fun K B ρ rr a w Q hp hf hQ => ?_⟩
   have := wpIn_region_lit (id := id) (h4 K B ρ rr a w Q hp hf hQ)
   rwa [Array.toArray_toList] at this
  | true =>
   have h : (bif drawOk ops.toList then regD P r ops.toList ops.toList 0 (masks ops.toList []) [] fr s else none) = some (ex, fr', s') := h
   cases hb : drawOk ops.toList with
   | false => rw [hb] at h; cases h
   | true =>
    rw [hb, bif_t] at h
    have := regD_sound (id := id) hl hmix R hb h
    rwa [Array.toArray_toList] at this
 | seq x y =>
  have h : (match r.code x fr s with
   | some (.normal, fr', s') => r.code y fr' s'
   | x => x) = some (ex, fr', s') := h
  split at h
  ·rename_i fr1 s1 hx
   obtain ⟨h1, h2, h3, h4⟩ := R.code _ _ _ _ _ _ hx
   obtain ⟨h5, h6, h7, h8⟩ := R.code _ _ _ _ _ _ h
   refine ⟨h1.trans h5, h6.trans h2, h7.trans h3, fun K B ρ rr a w Q hp hf hQ => wpIn_seq (wpL_wp (h4 K B ρ rr a w _ (hp.left h5) hf ?_))⟩
   rintro e a' w' ⟨ρ', g, hex, hfr⟩
   cases hex
   exact wpL_wp (h8 K B ρ' rr a' w' Q (hp.right h1 g) hfr fun e a' w' hpost => hQ _ _ _ (hpost.left g h1 h5))
  ·rename_i hne
   obtain ⟨h1, h2, h3, h4⟩ := R.code _ _ _ _ _ _ h
   refine ⟨h1, h2, h3, fun K B ρ rr a w Q hp hf hQ => wpIn_seq (wpL_wp (h4 K B ρ rr a w _ hp hf ?_))⟩
   intro e a' w' hpost
   have h5 := hQ e a' w' hpost
   obtain ⟨ρ', g, hex, hfr⟩ := hpost
   cases ex with
   | normal => exact absurd h (hne _ _)
   | exit id => cases hex; exact h5
   | ret => cases hex; exact h5
   | pan x => obtain ⟨v, rfl, _⟩ := hex; exact h5
 | cond t x y =>
  have h : (match ev fr.env t with
   | some (.val (.bool true)) => r.code x fr s
   | some (.val (.bool false)) => r.code y fr s
   | _ => none) = some (ex, fr', s') := h
  split at h
  ·rename_i hv
   obtain ⟨h1, h2, h3, h4⟩ := R.code _ _ _ _ _ _ h
   exact ⟨h1, h2, h3, fun K B ρ rr a w Q hp hf hQ => wpIn_cond_true (ev_sound hf.env hv).val_eq (wpL_wp (h4 K B ρ rr a w Q hp hf hQ))⟩
  ·rename_i hv
   obtain ⟨h1, h2, h3, h4⟩ := R.code _ _ _ _ _ _ h
   exact ⟨h1, h2, h3, fun K B ρ rr a w Q hp hf hQ => wpIn_cond_false (ev_sound hf.env hv).val_eq (wpL_wp (h4 K B ρ rr a w Q hp hf hQ))⟩
  ·cases h
 | block id b =>
  have h : (match r.code b fr s with
   | some (.exit id', fr', s') => bif Nat.beq id' id then some (.normal, fr', s') else some (.exit id', fr', s')
   | x => x) = some (ex, fr', s') := h
  split at h
  ·rename_i id' fr1 s1 hx
   obtain ⟨h1, h2, h3, h4⟩ := R.code _ _ _ _ _ _ hx
   cases hb : Nat.beq id' id with
   | true =>
    rw [hb, bif_t] at h
    simp only [Option.some.injEq, Prod.mk.injEq] at h
    obtain ⟨rfl, rfl, rfl⟩ := h
    have := beq_of hb; subst this
    refine ⟨h1, h2, h3, fun K B ρ rr a w Q hp hf hQ => wpIn_block (wpL_wp (h4 K B ρ rr a w _ hp hf ?_))⟩
    rintro e a' w' ⟨ρ', g, hex, hfr⟩
    cases hex
    simp only [Exit.inBlock, if_true]
    exact hQ _ _ _ ⟨ρ', g, rfl, hfr⟩
   | false =>
    rw [hb, bif_f] at h
    simp only [Option.some.injEq, Prod.mk.injEq] at h
    obtain ⟨rfl, rfl, rfl⟩ := h
    refine ⟨h1, h2, h3, fun K B ρ rr a w Q hp hf hQ => wpIn_block (wpL_wp (h4 K B ρ rr a w _ hp hf ?_))⟩
    rintro e a' w' ⟨ρ', g, hex, hfr⟩
    cases hex
    simp only [Exit.inBlock, if_neg (nbeq_of hb)]
    exact hQ _ _ _ ⟨ρ', g, rfl, hfr⟩
  ·rename_i hne
   obtain ⟨h1, h2, h3, h4⟩ := R.code _ _ _ _ _ _ h
   refine ⟨h1, h2, h3, fun K B ρ rr a w Q hp hf hQ => wpIn_block (wpL_wp (h4 K B ρ rr a w _ hp hf ?_))⟩
   intro e a' w' hpost
   have h5 := hQ e a' w' hpost
   obtain ⟨ρ', g, hex, hfr⟩ := hpost
   cases ex with
   | normal => cases hex; exact h5
   | exit id' => exact absurd h (hne _ _ _)
   | ret => cases hex; exact h5
   | pan x => obtain ⟨v, rfl, _⟩ := hex; exact h5
 | loop b =>
  have h : (match r.code b fr s with
   | some (.normal, fr', s') => r.code (.loop b) fr' s'
   | x => x) = some (ex, fr', s') := h
  split at h
  ·rename_i fr1 s1 hx
   obtain ⟨h1, h2, h3, h4⟩ := R.code _ _ _ _ _ _ hx
   obtain ⟨h5, h6, h7, h8⟩ := R.code _ _ _ _ _ _ h
   refine ⟨h1.trans h5, h6.trans h2, h7.trans h3, fun K B ρ rr a w Q hp hf hQ => loopW_step (wpL_wp (h4 K B ρ rr a w _ (hp.left h5) hf ?_))⟩
   rintro e a' w' ⟨ρ', g, hex, hfr⟩
   cases hex
   exact h8 K B ρ' rr a' w' Q (hp.right h1 g) hfr fun e a' w' hpost => hQ _ _ _ (hpost.left g h1 h5)
  ·rename_i hne
   obtain ⟨h1, h2, h3, h4⟩ := R.code _ _ _ _ _ _ h
   refine ⟨h1, h2, h3, fun K B ρ rr a w Q hp hf hQ => loopW_step (wpL_wp (h4 K B ρ rr a w _ hp hf ?_))⟩
   intro e a' w' hpost
   have h5 := hQ e a' w' hpost
   obtain ⟨ρ', g, hex, hfr⟩ := hpost
   cases ex with
   | normal => exact absurd h (hne _ _)
   | exit id => cases hex; exact h5
   | ret => cases hex; exact h5
   | pan x => obtain ⟨v, rfl, _⟩ := hex; exact h5
 | scope b =>
  have h : (match fr.rd with
   | none => r.code b fr s
   | some _ => none) = some (ex, fr', s') := h
  split at h
  ·rename_i hrd
   obtain ⟨h1, h2, h3, h4⟩ := R.code _ _ _ _ _ _ h
   refine ⟨h1, h2, h3, fun K B ρ rr a w Q hp hf hQ => ?_⟩
   have hrr := hf.rd
   rw [hrd] at hrr
   obtain rfl : rr = none := hrr
   show (Code.scope b).wpIn (FW none) 0 P Q a w
   refine (wpIn_wide (n := 0)).2 (wp_scope_straight ((wpIn_wide (n := 0)).1 (wpL_wp (h4 K B ρ none a w _ hp hf ?_))))
   intro e a' w' hpost
   have h5 := hQ e a' w' hpost
   obtain ⟨ρ', g, hex, hfr⟩ := hpost
   cases ex with
   | normal => cases hex; exact h5
   | exit id => cases hex; exact h5
   | ret => cases hex; exact h5
   | pan x => obtain ⟨v, rfl, _⟩ := hex; exact h5
  ·cases h
 | rangeFunc g ps assign body =>
  have := rangeN_sound R (show rangeN P r g ps.toList assign body fr s = some (ex, fr', s') from h)
  rwa [Array.toArray_toList] at this
 | _ => simp [codeN] at h
theorem call_true {f : FuncId} {s : S} (h : fnOk P f = true ∧ ∀ w, Calls P f #[] w fun e w' => e = .returned (.bool true) ∧ Below w.heap.size w w') : CallS P f [] s (.ok (.val (.bool true)) s) := by
 refine ⟨Ev.refl s, h.1, fun K B ρ vs w hp hvs => ?_⟩
 cases hvs
 refine (h.2 w).mono fun e w' ⟨he, hb⟩ => ⟨ρ, _, he, ?_, .val _⟩
 refine ⟨Le.refl _, fun _ _ => rfl, ⟨fun k o hk ho => ?_, hp.mem.inj⟩, hb.size, hb.os, hb.tape, hb.output, fun b hlt _ => hb.block b hlt, fun k b n h1 h2 _ => absurd h2 (Nat.not_lt_of_le h1)⟩
 obtain ⟨b, n, ob, h1, h2, h3, h4⟩ := hp.mem.obj k o hk ho
 exact ⟨b, n, ob, h1, h2, by rw [hb.block b (Array.getElem?_eq_some_iff.1 h3).1]; exact h3, h4⟩
end
def Says (P : Program) (f : FuncId) : Prop := fnOk P f = true ∧ ∀ w, Calls P f #[] w fun e w' => e = .returned (.bool true) ∧ Below w.heap.size w w'
section
variable {P : Program} {r : Run}
theorem runT_ok (hl : laidOutB P = true) (hmix : P.follows .mixedOrders = true) {T : FuncId → Bool} (hT : ∀ f, T f = true → Says P f) : ∀ n, RunOk P (runT P T n)
 | 0 => ⟨fun _ _ _ _ h => (by cases h), fun _ _ _ _ _ _ h => (by cases h), fun _ _ _ _ h => (by cases h)⟩
 | n + 1 => ⟨fun f args s res h => (by
   have h : callT P T (runT P T n) f args s = some res := h
   unfold callT at h
   cases hb : T f with
   | true =>
    rw [hb, bif_t] at h
    split at h
    ·simp only [Option.some.injEq] at h
     subst h
     exact call_true (hT f hb)
    ·cases h
   | false => rw [hb, bif_f] at h; exact callN_sound hl (runT_ok hl hmix hT n) h), fun _ _ _ _ _ _ h => codeN_sound hl hmix (runT_ok hl hmix hT n) h, fun _ _ _ _ h => roundN_sound hl (runT_ok hl hmix hT n) h⟩
end
structure TI (P : Program) (w0 : World) (ρ : Rho) (s : S) (w : World) : Prop where
 mem : MK P (fun _ => True) w0.heap.size ρ s.h w
 base : ∀ k b n, ρ k = some (b, n) → w0.heap.size ≤ b
 fresh : ∀ k, s.nx ≤ k → ρ k = none
 wf : ∀ k o, s.h.get k = some o → k < s.nx
 below : Below w0.heap.size w0 w
section
variable {P : Program} {r : Run} {w0 : World}
theorem TI.step {c : Code} {fr fr' : Fr} {s s' : S} {ex : Ex} (h : CodeS P c fr s ex fr' s') {ρ : Rho} {a : Act} {w : World} (hI : TI P w0 ρ s w) (hf : FrOk ρ fr none a) {Q : Exit → Act → World → Prop}
  (hQ : ∀ ρ' e a' w', TI P w0 ρ' s' w' → ExOk ρ' ex e → FrOk ρ' fr' none a' → Q e a' w') : wpL (FW none) P c Q a w := by
 obtain ⟨h1, _, _, h2⟩ := h
 refine h2 (fun _ => True) w0.heap.size ρ none a w Q ⟨⟨fun _ _ => trivial, fun _ _ => trivial, fun _ _ => trivial⟩, hI.mem, hI.below.size, fun k h1 _ => hI.fresh k h1, hI.wf⟩ hf ?_
 rintro e a' w' ⟨ρ', g, hex, hfr⟩
 refine hQ ρ' e a' w' ⟨g.mem, fun k b n hk => ?_, fun k hk => ?_, h1.wf hI.wf, hI.below.trans ⟨g.os, g.tape, g.out, g.size, fun b hb => ?_⟩⟩ hex hfr
 ·by_cases hr : k < s.nx ∨ s'.nx ≤ k
  ·rw [g.dom k hr] at hk; exact hI.base k b n hk
  ·rcases g.newb k b n (by omega) (by omega) hk with h3 | ⟨j, n', _, h3⟩
   ·exact Nat.le_trans hI.below.size h3
   ·exact hI.base j b n' h3
 ·rw [g.dom k (.inr hk)]; exact hI.fresh k (Nat.le_trans h1.nx hk)
 ·exact g.frame b (Nat.lt_of_lt_of_le hb hI.below.size) fun k n _ hk => absurd (hI.base k b n hk) (Nat.not_le_of_lt hb)
def Goal (P : Program) (w0 : World) (Q : Exit → Act → World → Prop) (c : Code) (fr : Fr) (s : S) : Prop := ∀ ρ a w, TI P w0 ρ s w → FrOk ρ fr none a → c.wpIn (FW none) 0 P Q a w
theorem cut_sound (R : RunOk P r) {Q : Exit → Act → World → Prop} : ∀ (j : Nat) (c : Code) (fr : Fr) (s : S) {fr1 : Fr} {s1 : S} {c' : Code}, cutR r j c fr s = some (fr1, s1) → dropC j c = some c' → Goal P w0 Q c' fr1 s1 → Goal P w0 Q c fr s
 | 0, c, fr, s, fr1, s1, c', h, hd, hg => by
  simp only [cutR, Option.some.injEq, Prod.mk.injEq] at h
  simp only [dropC, Option.some.injEq] at hd
  obtain ⟨rfl, rfl⟩ := h
  exact hd ▸ hg
 | j + 1, c, fr, s, fr1, s1, c', h, hd, hg => by
  cases c with
  | seq x y =>
   simp only [cutR] at h
   simp only [dropC] at hd
   split at h
   ·rename_i fr2 s2 hx
    intro ρ a w hI hf
    refine wpIn_seq (wpL_wp (TI.step (R.code _ _ _ _ _ _ hx) hI hf fun ρ' e a' w' hI' hex hf' => ?_))
    cases hex
    exact cut_sound R j y fr2 s2 h hd hg ρ' a' w' hI' hf'
   ·cases h
  | _ => simp [cutR] at h
theorem keepV_get : ∀ (l : List Nat) (e t t' : Tr CV), keepV l e t = some t' → ∀ k x, t'.get k = some x → e.get k = some x ∨ t.get k = some x
 | [], e, t, t', h, k, x, hx => by simp only [keepV, Option.some.injEq] at h; exact .inr (h ▸ hx)
 | i :: r, e, t, t', h, k, x, hx => by
  simp only [keepV] at h
  split at h
  ·rename_i y hy
   split at h
   ·rename_i t2 ht
    rcases keepV_get r e t2 t' h k x hx with h1 | h1
    ·exact .inl h1
    ·rw [Tr.get_set _ _ _ _ _ ht] at h1
     split at h1
     ·rename_i hk; subst hk; exact .inl (hy.trans h1)
     ·exact .inr h1
   ·cases h
  ·cases h
theorem keepO_get : ∀ (l : List Nat) (e t t' : Tr CO), keepO l e t = some t' → ∀ k x, t'.get k = some x → e.get k = some x ∨ t.get k = some x
 | [], e, t, t', h, k, x, hx => by simp only [keepO, Option.some.injEq] at h; exact .inr (h ▸ hx)
 | i :: r, e, t, t', h, k, x, hx => by
  simp only [keepO] at h
  split at h
  ·rename_i y hy
   split at h
   ·rename_i t2 ht
    rcases keepO_get r e t2 t' h k x hx with h1 | h1
    ·exact .inl h1
    ·rw [Tr.get_set _ _ _ _ _ ht] at h1
     split at h1
     ·rename_i hk; subst hk; exact .inl (hy.trans h1)
     ·exact .inr h1
   ·cases h
  ·cases h
def Then (P : Program) (f : FuncId) (i : Nat) (fr : Fr) (s : S) : Prop :=
 ∀ fn code, P.funcs[f]? = some fn → fn.body = some code → ∃ c, dropC i code = some c ∧ ∀ w0, Goal P w0 (bodyPostM (FW none) 0 P fn fun e w' => e = .returned (.bool true) ∧ Below w0.heap.size w0 w') c fr s
theorem dropC_add : ∀ (i j : Nat) (c c' : Code), dropC i c = some c' → dropC (i + j) c = dropC j c'
 | 0, j, c, c', h => by simp only [dropC, Option.some.injEq] at h; rw [Nat.zero_add, h]
 | i + 1, j, c, c', h => by
  cases c with
  | seq x y => simp only [dropC] at h; rw [Nat.add_right_comm]; exact dropC_add i j y c' h
  | _ => simp [dropC] at h
theorem seg_then (hl : laidOutB P = true) (hmix : P.follows .mixedOrders = true) {T : FuncId → Bool} (hT : ∀ f, T f = true → Says P f) {n : Nat} {f : FuncId} {i j : Nat} {es hs : List Nat} {fr fr' : Fr} {s s' : S} (h : segT P T n f i j es hs fr s = some (fr', s')) (hn : Then P f (i + j) fr' s') : Then P f i fr s := by
 intro fn code hf hb
 obtain ⟨c', hd', hg⟩ := hn fn code hf hb
 unfold segT at h
 rw [hf] at h
 simp only [hb] at h
 split at h
 ·cases h
 ·rename_i c hd
  refine ⟨c, hd, fun w0 => ?_⟩
  split at h
  ·rename_i m env hp nx _ _ hcut
   split at h
   ·rename_i e' h' he hh
    simp only [Option.some.injEq, Prod.mk.injEq] at h
    obtain ⟨rfl, rfl⟩ := h
    refine cut_sound (runT_ok hl hmix hT n) j c fr s hcut (by rw [← dropC_add i j code c hd]; exact hd') fun ρ a w hI hfr => ?_
    refine hg w0 ρ a w ⟨⟨fun k o hk ho => ?_, fun k k' o o' b m m' _ _ ho ho' => ?_⟩, hI.base, hI.fresh, fun k o ho => ?_, hI.below⟩ ⟨hfr.size, fun t y hy => ?_, hfr.ds, hfr.rd⟩
    ·rcases keepO_get _ _ _ _ hh k o ho with h1 | h1
     ·exact hI.mem.obj k o hk h1
     ·cases h1
    ·rcases keepO_get _ _ _ _ hh k o ho with h1 | h1
     ·rcases keepO_get _ _ _ _ hh k' o' ho' with h2 | h2
      ·exact hI.mem.inj k k' o o' b m m' trivial trivial h1 h2
      ·cases h2
     ·cases h1
    ·rcases keepO_get _ _ _ _ hh k o ho with h1 | h1
     ·exact hI.wf k o h1
     ·cases h1
    ·rcases keepV_get _ _ _ _ he t y hy with h1 | h1
     ·exact hfr.env t y h1
     ·cases h1
   ·cases h
  ·cases h
theorem isT_eq {x : Option Ret} (h : isT x = true) : ∃ s, x = some (.ok (.val (.bool true)) s) := by
 unfold isT at h
 split at h
 ·exact ⟨_, rfl⟩
 ·cases h
theorem end_then (hl : laidOutB P = true) (hmix : P.follows .mixedOrders = true) {T : FuncId → Bool} (hT : ∀ f, T f = true → Says P f) {n : Nat} {f : FuncId} {i : Nat} {fr : Fr} {s : S} (h : endT P T n f i fr s = true) : Then P f i fr s := by
 intro fn code hf hb
 unfold endT at h
 rw [hf] at h
 simp only [hb] at h
 split at h
 ·cases h
 ·rename_i c hd
  refine ⟨c, hd, fun w0 ρ a w hI hfr => ?_⟩
  have R := runT_ok hl hmix hT n
  have key : ∀ {ex : Ex} {n' : Nat} {env' : Tr CV} {ds : List SD} {rd' : Option Nat} {s1 : S}, (runT P T n).code c fr s = some (ex, ⟨n', env', ds, rd'⟩, s1) → (ex = .normal ∨ ex = .ret) → isT (leave P (runT P T n) fn env' ds none s1) = true → c.wpIn (FW none) 0 P (bodyPostM (FW none) 0 P fn fun e w' => e = .returned (.bool true) ∧ Below w0.heap.size w0 w') a w := by
   intro ex n' env' ds rd' s1 hcode hex hlv
   obtain ⟨s2, hlv⟩ := isT_eq hlv
   obtain ⟨h3, h4⟩ := leave_sound hl R ds none s1 hlv
   refine wpL_wp (TI.step (R.code _ _ _ _ _ _ hcode) hI hfr fun ρ' e a' w' hI' hexo hfr' => ?_)
   have fin : LeavesInM (FW none) 0 P fn a'.tmps (fun e w' => e = .returned (.bool true) ∧ Below w0.heap.size w0 w') a'.defers .returning w' := by
    refine h4 (fun _ => True) w0.heap.size ρ' a' w' a'.defers _ _ ⟨⟨fun _ _ => trivial, fun _ _ => trivial, fun _ _ => trivial⟩, hI'.mem, hI'.below.size, fun k h1 _ => hI'.fresh k h1, hI'.wf⟩ hfr'.ds hfr'.env rfl fun e w'' hr => ?_
    obtain ⟨ρ2, u, rfl, g, hx⟩ := hr
    rw [hx.val_eq]
    exact ⟨rfl, hI'.below.trans ⟨g.os, g.tape, g.out, g.size, fun b hb => g.frame b (Nat.lt_of_lt_of_le hb hI'.below.size) fun k n _ hk => absurd (hI'.base k b n hk) (Nat.not_le_of_lt hb)⟩⟩
   rcases hex with rfl | rfl
   ·cases hexo; exact fin
   ·cases hexo; exact fin
  split at h
  ·rename_i hcode; exact key hcode (.inl rfl) h
  ·rename_i hcode; exact key hcode (.inr rfl) h
  ·cases h
theorem then_says {f : FuncId} (hok : fnOk P f = true) (h : Then P f 0 (fr0 P f) S0) : Says P f := by
 refine ⟨hok, fun w => ?_⟩
 unfold fnOk at hok
 split at hok
 ·rename_i fn hf
  cases hb : fn.body with
  | none => simp [hb] at hok
  | some code =>
   obtain ⟨c, hd, hg⟩ := h fn code hf hb
   simp only [dropC, Option.some.injEq] at hd
   subst hd
   refine calls_of_FW (n := 0) (callsIn_of_wp_marks hf hb trivial ?_ rfl)
   refine hg w (fun _ => none) _ w ⟨⟨fun k o _ ho => (by cases ho), fun k k' o o' b n n' _ _ ho => (by cases ho)⟩, fun k b n hk => (by cases hk), fun _ _ => rfl, fun k o ho => (by cases ho), Below.refl _ _⟩ ⟨?_, ?_, ?_, ?_⟩
   ·simp [fr0, hf]
   ·intro t y hy; simp only [fr0, hf] at hy; cases hy
   ·simp only [fr0, hf]; exact .nil
   ·simp only [fr0, hf]; rfl
 ·cases hok
end
end Go.Ev
