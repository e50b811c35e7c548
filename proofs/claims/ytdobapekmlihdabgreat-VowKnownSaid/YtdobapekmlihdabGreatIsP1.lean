/- Part 1 of the proof: contracts of functions of the program and what they need. No condition beyond those that each theorem names. -/
import Derived.WalkKit
import Derived.OwnWalkIn
import Derived.DefersIn
import Derived.OrdersIn
import Derived.Deep.Upon
import Derived.RangeFuncBound
import Derived.Laws.Cover3
import Derived.Maps.Keyed
import Derived.Maps.AppendAt
import Derived.OneCell
import Derived.Scope
import Derived.Laws.StructEq
import Derived.ChangeKeysEq
import Derived.OpenShut
import Derived.ProofKit
import Derived.Laws.MakeOwn
set_option linter.unusedVariables false
set_option linter.unusedSimpArgs false
set_option linter.unnecessarySimpa false
namespace Go.Eng
open Go.RowKit (Below)
open Go.ChangeShapes Go.WideShapes Go.ChangeAt Go.RowKit
inductive AV where
 | any
 | val (v : Value)
 | sl (k : Nat) (els : List (List AV))
 | as (x : AV) (v : Value)
 | opt (g : Bool) (x : AV)
 | agg (cs : List AV)
 | tup (xs : List AV)
 | fn (f : Fn) (first caps : List AV)
 | iface (t : TypeId) (x : AV)
 | ptr (cells : List AV)
 | e0
 | one
 deriving Inhabited
abbrev AV.i (n : Int) : AV := .val (.int .i64 n)
abbrev AV.b (x : Bool) : AV := .val (.bool x)
abbrev AV.p (b o : Nat) : AV := .val (.pointer (some ⟨b, o, none⟩))
abbrev Imm := Nat → Nat → Prop
mutual
inductive Rel (I : Imm) (w : World) : AV → Value → Prop
 | any (v : Value) : Rel I w .any v
 | val (v : Value) : Rel I w (.val v) v
 | sl0 (k : Nat) (a : Option Addr) (c : Nat) : Rel I w (.sl k []) (.slice a 0 c)
 | sl (k : Nat) (els : List (List AV)) (b off len cap : Nat) (hl : els.length = len) (hc : len ≤ cap) (hm : cap ≤ maxLen) (h : Els I w k b off els) : Rel I w (.sl k els) (.slice (some ⟨b, off, none⟩) len cap)
 | as (x : AV) (v : Value) (h : Rel I w x v) : Rel I w (.as x v) v
 | opt (g : Bool) (x : AV) (v : Value) (h : g = true → Rel I w x v) (h0 : g = false → v = undef) : Rel I w (.opt g x) v
 | agg (cs : List AV) (vs : Array Value) (h : RelL I w cs vs.toList) : Rel I w (.agg cs) (.agg vs)
 | tup (cs : List AV) (vs : Array Value) (h : RelL I w cs vs.toList) : Rel I w (.tup cs) (.tuple vs)
 | fn (f : Fn) (fs cs : List AV) (vf vc : Array Value) (hf : RelL I w fs vf.toList) (hc : RelL I w cs vc.toList) : Rel I w (.fn f fs cs) (.func f vf vc)
 | iface (t : TypeId) (x : AV) (v : Value) (h : Rel I w x v) : Rel I w (.iface t x) (.iface t v)
 | ptr (cs : List AV) (b o : Nat) (h : Cells I w b o cs) : Rel I w (.ptr cs) (.pointer (some ⟨b, o, none⟩))
 | e0 (a : Option Addr) : Rel I w .e0 (.slice a 0 0)
 | single (v : Value) (h : v.oneCell' = true) : Rel I w .one v
inductive RelL (I : Imm) (w : World) : List AV → List Value → Prop
 | nil : RelL I w [] []
 | cons (x : AV) (v : Value) (xs : List AV) (vs : List Value) (h : Rel I w x v) (t : RelL I w xs vs) : RelL I w (x :: xs) (v :: vs)
inductive Cells (I : Imm) (w : World) : Nat → Nat → List AV → Prop
 | nil (b o : Nat) : Cells I w b o []
 | cons (b o : Nat) (x : AV) (c : Value) (xs : List AV) (hc : w.cell? ⟨b, o, none⟩ = some c) (hI : I b o) (h : Rel I w x c) (t : Cells I w b (o + 1) xs) : Cells I w b o (x :: xs)
inductive Els (I : Imm) (w : World) : Nat → Nat → Nat → List (List AV) → Prop
 | nil (k b o : Nat) : Els I w k b o []
 | cons (k b o : Nat) (cs : List AV) (rest : List (List AV)) (hk : cs.length = k) (h : Cells I w b o cs) (t : Els I w k b (o + k) rest) : Els I w k b o (cs :: rest)
end
structure Ext (B : Nat) (I : Imm) (w : World) (I' : Imm) (w' : World) : Prop where
 imm : ∀ b o, I b o → I' b o
 cell : ∀ b o, I b o → w'.cell? ⟨b, o, none⟩ = w.cell? ⟨b, o, none⟩
 below : Below B w w'
theorem Ext.refl (B : Nat) (I : Imm) (w : World) : Ext B I w I w := ⟨fun _ _ h => h, fun _ _ _ => rfl, Below.refl _ _⟩
theorem Ext.trans {B : Nat} {I J K : Imm} {w w' w'' : World} (h : Ext B I w J w') (h' : Ext B J w' K w'') : Ext B I w K w'' :=
 ⟨fun b o x => h'.imm b o (h.imm b o x), fun b o x => (h'.cell b o (h.imm b o x)).trans (h.cell b o x), h.below.trans h'.below⟩
theorem Ext.drew {B : Nat} {I J : Imm} {w w' : World} (h : Ext B I w J w') : Ext B I w J w'.drew := ⟨h.imm, h.cell, h.below.drew⟩
structure Keeps (I : Imm) (w : World) (I' : Imm) (w' : World) : Prop where
 imm : ∀ b o, I b o → I' b o
 cell : ∀ b o, I b o → w'.cell? ⟨b, o, none⟩ = w.cell? ⟨b, o, none⟩
theorem Ext.keeps {B : Nat} {I J : Imm} {w w' : World} (h : Ext B I w J w') : Keeps I w J w' := ⟨h.imm, h.cell⟩
mutual
theorem Rel.keep {I I' : Imm} {w w' : World} (h : Keeps I w I' w') : ∀ {x : AV} {v : Value}, Rel I w x v → Rel I' w' x v
 | _, _, .any v => .any v
 | _, _, .val v => .val v
 | _, _, .sl0 k a c => .sl0 k a c
 | _, _, .sl k els b off len cap hl hc hm he => .sl k els b off len cap hl hc hm (Els.keep h he)
 | _, _, .as x v hx => .as x v (Rel.keep h hx)
 | _, _, .opt g x v hx h0 => .opt g x v (fun e => Rel.keep h (hx e)) h0
 | _, _, .agg cs vs hl => .agg cs vs (RelL.keep h hl)
 | _, _, .tup cs vs hl => .tup cs vs (RelL.keep h hl)
 | _, _, .fn f fs cs vf vc hf hc => .fn f fs cs vf vc (RelL.keep h hf) (RelL.keep h hc)
 | _, _, .iface t x v hx => .iface t x v (Rel.keep h hx)
 | _, _, .ptr cs b o hc => .ptr cs b o (Cells.keep h hc)
 | _, _, .e0 a => .e0 a
 | _, _, .single v h => .single v h
theorem RelL.keep {I I' : Imm} {w w' : World} (h : Keeps I w I' w') : ∀ {xs : List AV} {vs : List Value}, RelL I w xs vs → RelL I' w' xs vs
 | _, _, .nil => .nil
 | _, _, .cons x v xs vs hx ht => .cons x v xs vs (Rel.keep h hx) (RelL.keep h ht)
theorem Cells.keep {I I' : Imm} {w w' : World} (h : Keeps I w I' w') : ∀ {b o : Nat} {xs : List AV}, Cells I w b o xs → Cells I' w' b o xs
 | _, _, _, .nil b o => .nil b o
 | _, _, _, .cons b o x c xs hc hI hx ht => .cons b o x c xs ((h.cell b o hI).trans hc) (h.imm b o hI) (Rel.keep h hx) (Cells.keep h ht)
theorem Els.keep {I I' : Imm} {w w' : World} (h : Keeps I w I' w') : ∀ {k b o : Nat} {xs : List (List AV)}, Els I w k b o xs → Els I' w' k b o xs
 | _, _, _, _, .nil k b o => .nil k b o
 | _, _, _, _, .cons k b o cs rest hk hc ht => .cons k b o cs rest hk (Cells.keep h hc) (Els.keep h ht)
end
theorem RelL.length {I : Imm} {w : World} : ∀ {xs : List AV} {vs : List Value}, RelL I w xs vs → vs.length = xs.length
 | _, _, .nil => rfl
 | _, _, .cons _ _ _ _ _ t => by simp [RelL.length t]
theorem RelL.get {I : Imm} {w : World} : ∀ {xs : List AV} {vs : List Value}, RelL I w xs vs → ∀ {i : Nat} {x : AV}, xs[i]? = some x → ∃ v, vs[i]? = some v ∧ Rel I w x v
 | _, _, .nil, _, _, h => by simp at h
 | _, _, .cons x v xs vs hx ht, 0, y, h => ⟨v, by simp, by simp at h; exact h ▸ hx⟩
 | _, _, .cons x v xs vs hx ht, i + 1, y, h => by
  obtain ⟨u, h1, h2⟩ := ht.get (i := i) (x := y) (by simpa using h)
  exact ⟨u, by simpa using h1, h2⟩
theorem Cells.get {I : Imm} {w : World} : ∀ {b o : Nat} {xs : List AV}, Cells I w b o xs → ∀ {i : Nat} {x : AV}, xs[i]? = some x → ∃ c, w.cell? ⟨b, o + i, none⟩ = some c ∧ I b (o + i) ∧ Rel I w x c
 | _, _, _, .nil _ _, _, _, h => by simp at h
 | _, _, _, .cons b o x c xs hc hI hx ht, 0, y, h => ⟨c, by simpa using hc, by simpa using hI, by simp at h; exact h ▸ hx⟩
 | _, _, _, .cons b o x c xs hc hI hx ht, i + 1, y, h => by
  obtain ⟨u, h1, h2, h3⟩ := ht.get (i := i) (x := y) (by simpa using h)
  refine ⟨u, ?_, ?_, h3⟩
  ·rw [← h1]; congr 2; omega
  ·have : o + (i + 1) = o + 1 + i := by omega
   rw [this]; exact h2
theorem Cells.drop {I : Imm} {w : World} : ∀ (i : Nat) {b o : Nat} {xs : List AV}, Cells I w b o xs → Cells I w b (o + i) (xs.drop i)
 | 0, _, _, _, h => h
 | i + 1, _, _, _, .nil b o => .nil b _
 | i + 1, _, _, _, .cons b o x c xs hc hI hx ht => by
  have := Cells.drop i ht
  have e : o + (i + 1) = o + 1 + i := by omega
  rw [e]; exact this
theorem Cells.take {I : Imm} {w : World} : ∀ (i : Nat) {b o : Nat} {xs : List AV}, Cells I w b o xs → Cells I w b o (xs.take i)
 | 0, _, _, _, _ => .nil _ _
 | i + 1, _, _, _, .nil b o => .nil b o
 | i + 1, _, _, _, .cons b o x c xs hc hI hx ht => .cons b o x c _ hc hI hx (Cells.take i ht)
theorem Cells.append {I : Imm} {w : World} : ∀ {b o : Nat} {xs ys : List AV}, Cells I w b o xs → Cells I w b (o + xs.length) ys → Cells I w b o (xs ++ ys)
 | _, _, _, _, .nil b o, h => by simpa using h
 | _, _, _, ys, .cons b o x c xs hc hI hx ht, h => by
  refine .cons b o x c _ hc hI hx (Cells.append ht ?_)
  have e : o + (x :: xs).length = o + 1 + xs.length := by simp; omega
  rw [← e]; exact h
theorem Els.get {I : Imm} {w : World} : ∀ {k b o : Nat} {xs : List (List AV)}, Els I w k b o xs → ∀ {i : Nat} {cs : List AV}, xs[i]? = some cs → cs.length = k ∧ Cells I w b (o + i * k) cs
 | _, _, _, _, .nil _ _ _, _, _, h => by simp at h
 | _, _, _, _, .cons k b o cs rest hk hc ht, 0, y, h => by simp at h; subst h; exact ⟨hk, by simpa using hc⟩
 | _, _, _, _, .cons k b o cs rest hk hc ht, i + 1, y, h => by
  obtain ⟨h1, h2⟩ := ht.get (i := i) (cs := y) (by simpa using h)
  refine ⟨h1, ?_⟩
  have e : o + (i + 1) * k = o + k + i * k := by rw [Nat.add_mul]; omega
  rw [e]; exact h2
theorem Els.drop {I : Imm} {w : World} : ∀ (i : Nat) {k b o : Nat} {xs : List (List AV)}, Els I w k b o xs → Els I w k b (o + i * k) (xs.drop i)
 | 0, _, _, _, _, h => by simpa using h
 | i + 1, _, _, _, _, .nil k b o => .nil _ _ _
 | i + 1, _, _, _, _, .cons k b o cs rest hk hc ht => by
  have := Els.drop i ht
  have e : o + (i + 1) * k = o + k + i * k := by rw [Nat.add_mul]; omega
  rw [e]; exact this
theorem Els.take {I : Imm} {w : World} : ∀ (i : Nat) {k b o : Nat} {xs : List (List AV)}, Els I w k b o xs → Els I w k b o (xs.take i)
 | 0, _, _, _, _, _ => .nil _ _ _
 | i + 1, _, _, _, _, .nil k b o => .nil _ _ _
 | i + 1, _, _, _, _, .cons k b o cs rest hk hc ht => .cons k b o cs _ hk hc (Els.take i ht)
theorem Els.append {I : Imm} {w : World} : ∀ {k b o : Nat} {xs ys : List (List AV)}, Els I w k b o xs → Els I w k b (o + xs.length * k) ys → Els I w k b o (xs ++ ys)
 | _, _, _, _, _, .nil k b o, h => by simpa using h
 | _, _, _, _, ys, .cons k b o cs rest hk hc ht, h => by
  refine .cons k b o cs _ hk hc (Els.append ht ?_)
  have e : o + (cs :: rest).length * k = o + k + rest.length * k := by rw [List.length_cons, Nat.add_mul]; omega
  rw [← e]; exact h
theorem Els.cells {I : Imm} {w : World} : ∀ {k b o : Nat} {xs : List (List AV)}, Els I w k b o xs → Cells I w b o xs.flatten
 | _, _, _, _, .nil k b o => .nil _ _
 | _, _, _, _, .cons k b o cs rest hk hc ht => by
  rw [List.flatten_cons]
  exact Cells.append hc (by rw [hk]; exact ht.cells)
theorem Els.flatten_length {I : Imm} {w : World} : ∀ {k b o : Nat} {xs : List (List AV)}, Els I w k b o xs → xs.flatten.length = xs.length * k
 | _, _, _, _, .nil k b o => by simp
 | _, _, _, _, .cons k b o cs rest hk hc ht => by rw [List.flatten_cons, List.length_append, ht.flatten_length, hk, List.length_cons, Nat.add_mul]; omega
theorem Cells.values {I : Imm} {w : World} : ∀ {b o : Nat} {xs : List AV}, Cells I w b o xs → ∃ vs : List Value, RelL I w xs vs ∧ ∀ j v, vs[j]? = some v → w.cell? ⟨b, o + j, none⟩ = some v
 | _, _, _, .nil b o => ⟨[], .nil, by simp⟩
 | _, _, _, .cons b o x c xs hc hI hx ht => by
  obtain ⟨vs, h1, h2⟩ := ht.values
  refine ⟨c :: vs, .cons _ _ _ _ hx h1, fun j v h => ?_⟩
  cases j with
  | zero => simp at h; subst h; simpa using hc
  | succ j =>
   have := h2 j v (by simpa using h)
   have e : o + (j + 1) = o + 1 + j := by omega
   rw [e]; exact this
inductive Ent where
 | blk (b : Nat) (t : TypeId) (cs : List AV)
 | own (t : TypeId) (k : Nat) (v : Value)
 | row (t : TypeId) (k : Nat) (v : Value) (n : Nat) (cs : List AV)
 | obj (b : Nat) (o : Obj)
 | map (b : Nat) (es : List (Value × AV))
 | loop (b : Nat) (lp : Loop) (ρ : Nat → Option AV)
 | lmap (b : Nat) (good : Value → Prop) (κ : Value → List AV) (d : List AV)
 deriving Inhabited
def Ent.foot : Ent → Option Nat
 | .blk b _ _ => some b
 | .own _ _ v => v.ownBlock
 | .row _ _ v _ _ => v.ownBlock
 | .obj b _ => some b
 | .map b _ => some b
 | .loop b _ _ => some b
 | .lmap b _ _ _ => some b
def Ent.ok (B : Nat) (I : Imm) (w : World) : Ent → Prop
 | .blk b t cs => B ≤ b ∧ ∃ vs : Array Value, w.heap[b]? = some (.cells vs t (0, 0)) ∧ RelL I w cs vs.toList ∧ ∀ o, ¬ I b o
 | .own t k v => ∃ n xs, w.ownsRow B t k v n xs ∧ ∀ g, v.ownBlock = some g → ∀ o, n * k ≤ o → ¬ I g o
 | .row t k v n cs => ∃ xs, w.ownsRow B t k v n xs ∧ RelL I w cs xs ∧ ∀ g, v.ownBlock = some g → ∀ o, ¬ I g o
 | .obj b ob => B ≤ b ∧ w.heap[b]? = some ob ∧ ∀ o, ¬ I b o
 | .map b es => B ≤ b ∧ (∃ (entries : Array MapEntry) (clock : Nat), w.heap[b]? = some (.map entries clock) ∧ entries.toList.map (·.key) = es.map (·.1) ∧ RelL I w (es.map (·.2)) (entries.toList.map (·.val))) ∧ ∀ o, ¬ I b o
 | .lmap b good κ d => B ≤ b ∧ (∃ (entries : Array MapEntry) (clock : Nat), w.heap[b]? = some (.map entries clock) ∧ (∀ e ∈ entries.toList, good e.key ∧ Rel I w (.ptr (κ e.key)) e.val) ∧ ∀ v, good v → (∀ e ∈ entries.toList, e.key ≠ v) → κ v = d) ∧ ∀ o, ¬ I b o
 | .loop b lp ρ => B ≤ b ∧ w.heap[b]? = some (.loop lp) ∧ (∀ t x, ρ t = some x → Rel I w x (lp.tmps.getD t undef)) ∧ ∀ o, ¬ I b o
structure HeapOk (B : Nat) (I : Imm) (w : World) (H : List Ent) : Prop where
 ok : ∀ e ∈ H, e.ok B I w
 apart : H.Pairwise fun e f => ∀ b, e.foot = some b → f.foot ≠ some b
structure WOk (B : Nat) (I : Imm) (w : World) : Prop where
 base : B ≤ w.heap.size
 there : ∀ b o, I b o → ∃ c, w.cell? ⟨b, o, none⟩ = some c
theorem WOk.lt {B : Nat} {I : Imm} {w : World} (h : WOk B I w) {b o : Nat} (hI : I b o) : b < w.heap.size := by
 obtain ⟨c, hc⟩ := h.there b o hI
 exact World.block_lt_of_cell? (a := ⟨b, o, none⟩) w hc
theorem WOk.drew {B : Nat} {I : Imm} {w : World} (h : WOk B I w) : WOk B I w.drew := ⟨h.base, h.there⟩
theorem Ent.foot_lt {B : Nat} {I : Imm} {w : World} {e : Ent} (h : e.ok B I w) {b : Nat} (hb : e.foot = some b) : B ≤ b ∧ b < w.heap.size := by
 cases e with
 | blk b' t cs =>
  obtain ⟨h1, vs, h2, _⟩ := h
  simp [Ent.foot] at hb; subst hb
  exact ⟨h1, (Array.getElem?_eq_some_iff.1 h2).1⟩
 | own t k v =>
  obtain ⟨n, xs, h1, _⟩ := h
  exact h1.lt b hb
 | row t k v n cs =>
  obtain ⟨xs, h1, _⟩ := h
  exact h1.lt b hb
 | obj b' o =>
  simp [Ent.foot] at hb; subst hb
  exact ⟨h.1, (Array.getElem?_eq_some_iff.1 h.2.1).1⟩
 | map b' es =>
  simp [Ent.foot] at hb; subst hb
  obtain ⟨h1, ⟨en, cl, h2, _⟩, _⟩ := h
  exact ⟨h1, (Array.getElem?_eq_some_iff.1 h2).1⟩
 | loop b' lp ρ =>
  simp [Ent.foot] at hb; subst hb
  exact ⟨h.1, (Array.getElem?_eq_some_iff.1 h.2.1).1⟩
 | lmap b' good κ d =>
  simp [Ent.foot] at hb; subst hb
  obtain ⟨h1, ⟨en, cl, h2, _⟩, _⟩ := h
  exact ⟨h1, (Array.getElem?_eq_some_iff.1 h2).1⟩
theorem HeapOk.nil {B : Nat} {I : Imm} {w : World} : HeapOk B I w [] := ⟨by simp, .nil⟩
theorem HeapOk.tail {B : Nat} {I : Imm} {w : World} {e : Ent} {H : List Ent} (h : HeapOk B I w (e :: H)) : HeapOk B I w H :=
 ⟨fun x hx => h.ok x (.tail _ hx), (List.pairwise_cons.1 h.apart).2⟩
theorem HeapOk.sub {B : Nat} {I : Imm} {w : World} {H H' : List Ent} (h : HeapOk B I w H) (hs : H'.Sublist H) : HeapOk B I w H' :=
 ⟨fun x hx => h.ok x (hs.subset hx), h.apart.sublist hs⟩
theorem Ent.keep {B : Nat} {I I' : Imm} {w w' : World} {e : Ent} (h : e.ok B I w) (hk : Keeps I w I' w') (hb : ∀ b, e.foot = some b → w'.heap[b]? = w.heap[b]?)
  (hi : ∀ b, e.foot = some b → ∀ o, I' b o → I b o) : e.ok B I' w' := by
 cases e with
 | blk b t cs =>
  obtain ⟨h1, vs, h2, h3, h4⟩ := h
  exact ⟨h1, vs, (hb b rfl).trans h2, h3.keep hk, fun o ho => h4 o (hi b rfl o ho)⟩
 | own t k v =>
  obtain ⟨n, xs, h1, h2⟩ := h
  refine ⟨n, xs, ?_, fun g hg o ho hI => h2 g hg o ho (hi g hg o hI)⟩
  refine ⟨h1.1, ?_⟩
  rcases h1.2 with hn | ⟨g, cap, cur, rfl, hbb, hgg, rest⟩
  ·exact .inl hn
  ·exact .inr ⟨g, cap, cur, rfl, hbb, (hb g rfl).trans hgg, rest⟩
 | row t k v n cs =>
  obtain ⟨xs, h1, hr, h2⟩ := h
  refine ⟨xs, ?_, hr.keep hk, fun g hg o hI => h2 g hg o (hi g hg o hI)⟩
  refine ⟨h1.1, ?_⟩
  rcases h1.2 with hn | ⟨g, cap, cur, rfl, hbb, hgg, rest⟩
  ·exact .inl hn
  ·exact .inr ⟨g, cap, cur, rfl, hbb, (hb g rfl).trans hgg, rest⟩
 | obj b o => exact ⟨h.1, (hb b rfl).trans h.2.1, fun o' ho => h.2.2 o' (hi b rfl o' ho)⟩
 | map b es =>
  obtain ⟨h1, ⟨en, cl, h2, h3, h4⟩, h5⟩ := h
  exact ⟨h1, ⟨en, cl, (hb b rfl).trans h2, h3, h4.keep hk⟩, fun o ho => h5 o (hi b rfl o ho)⟩
 | lmap b good κ d =>
  obtain ⟨h1, ⟨en, cl, h2, h3, h4⟩, h5⟩ := h
  exact ⟨h1, ⟨en, cl, (hb b rfl).trans h2, fun e he => ⟨(h3 e he).1, (h3 e he).2.keep hk⟩, h4⟩, fun o ho => h5 o (hi b rfl o ho)⟩
 | loop b lp ρ => exact ⟨h.1, (hb b rfl).trans h.2.1, fun t x ht => (h.2.2.1 t x ht).keep hk, fun o' ho => h.2.2.2 o' (hi b rfl o' ho)⟩
theorem HeapOk.keep {B : Nat} {I I' : Imm} {w w' : World} {H : List Ent} (h : HeapOk B I w H) (hk : Keeps I w I' w') (hb : ∀ e ∈ H, ∀ b, e.foot = some b → w'.heap[b]? = w.heap[b]?)
  (hi : ∀ e ∈ H, ∀ b, e.foot = some b → ∀ o, I' b o → I b o) : HeapOk B I' w' H :=
 ⟨fun e he => Ent.keep (h.ok e he) hk (hb e he) (hi e he), h.apart⟩
theorem HeapOk.drew {B : Nat} {I : Imm} {w : World} {H : List Ent} (h : HeapOk B I w H) : HeapOk B I w.drew H :=
 h.keep ⟨fun _ _ x => x, fun _ _ _ => rfl⟩ (fun _ _ _ _ => rfl) (fun _ _ _ _ _ x => x)
theorem keeps_alloc {B : Nat} {I : Imm} {w : World} (h : WOk B I w) (o : Obj) : Keeps I w I (w.alloc o) :=
 ⟨fun _ _ x => x, fun b i x => World.cell?_alloc_lt w o ⟨b, i, none⟩ (h.lt x)⟩
theorem ext_alloc {B : Nat} {I : Imm} {w : World} (h : WOk B I w) (o : Obj) : Ext B I w I (w.alloc o) :=
 ⟨fun _ _ x => x, fun b i x => World.cell?_alloc_lt w o ⟨b, i, none⟩ (h.lt x), (Below.refl _ _).alloc h.base o⟩
theorem WOk.alloc {B : Nat} {I : Imm} {w : World} (h : WOk B I w) (o : Obj) : WOk B I (w.alloc o) :=
 ⟨by have := h.base; simp; omega, fun b i x => by rw [(keeps_alloc h o).cell b i x]; exact h.there b i x⟩
theorem HeapOk.alloc {B : Nat} {I : Imm} {w : World} {H : List Ent} (h : HeapOk B I w H) (hw : WOk B I w) (o : Obj) : HeapOk B I (w.alloc o) H :=
 h.keep (keeps_alloc hw o) (fun e he b hb => Below.heap_alloc w o b (Ent.foot_lt (h.ok e he) hb).2) (fun _ _ _ _ _ x => x)
theorem HeapOk.new {B : Nat} {I : Imm} {w : World} {H : List Ent} (h : HeapOk B I w H) (hw : WOk B I w) (t : TypeId) (cs : List AV) (vs : Array Value) (hv : RelL I w cs vs.toList) :
  HeapOk B I (w.alloc (.cells vs t)) (.blk w.heap.size t cs :: H) := by
 have h' := h.alloc hw (.cells vs t)
 refine ⟨fun e he => ?_, List.pairwise_cons.2 ⟨fun f hf b hb => ?_, h'.apart⟩⟩
 ·rcases List.mem_cons.1 he with rfl | he
  ·refine ⟨hw.base, vs, heap_alloc_new w _, hv.keep (keeps_alloc hw _), fun o ho => ?_⟩
   exact absurd (hw.lt ho) (Nat.lt_irrefl _)
  ·exact h'.ok e he
 ·simp [Ent.foot] at hb; subst hb
  intro e
  exact absurd (Ent.foot_lt (h.ok f hf) e).2 (Nat.lt_irrefl _)
def Imm.add (I : Imm) (b : Nat) (n : Nat) : Imm := fun b' o => I b' o ∨ (b' = b ∧ o < n)
theorem Imm.add_new {B : Nat} {I : Imm} {w : World} (hw : WOk B I w) (t : TypeId) (vs : Array Value) :
  WOk B (I.add w.heap.size vs.size) (w.alloc (.cells vs t)) ∧ Ext B I w (I.add w.heap.size vs.size) (w.alloc (.cells vs t)) ∧
  (∀ H, HeapOk B I w H → HeapOk B (I.add w.heap.size vs.size) (w.alloc (.cells vs t)) H) ∧
  (∀ xs : List AV, RelL I w xs vs.toList → Cells (I.add w.heap.size vs.size) (w.alloc (.cells vs t)) w.heap.size 0 xs) := by
 have e := ext_alloc hw (.cells vs t)
 have k : Keeps I w (I.add w.heap.size vs.size) (w.alloc (.cells vs t)) := ⟨fun _ _ x => .inl x, e.cell⟩
 refine ⟨⟨(hw.alloc _).base, fun b o h => ?_⟩, ⟨k.imm, k.cell, e.below⟩, fun H h => ?_, fun xs h => ?_⟩
 ·rcases h with h | ⟨rfl, h⟩
  ·exact (hw.alloc _).there b o h
  ·exact ⟨vs[o], by rw [World.cell?_alloc_new]; exact Array.getElem?_eq_getElem h⟩
 ·refine h.keep k (fun e he b hb => Below.heap_alloc w _ b (Ent.foot_lt (h.ok e he) hb).2) (fun f hf b hb o ho => ?_)
  rcases ho with ho | ⟨rfl, _⟩
  ·exact ho
  ·exact absurd (Ent.foot_lt (h.ok f hf) hb).2 (Nat.lt_irrefl _)
 ·have key : ∀ (ys : List AV) (us : List Value) (o : Nat), RelL I w ys us → us = vs.toList.drop o → Cells (I.add w.heap.size vs.size) (w.alloc (.cells vs t)) w.heap.size o ys := by
   intro ys
   induction ys with
   | nil => intro us o _ _; exact .nil _ _
   | cons y ys ih =>
    intro us o hr hu
    cases hr with
    | cons _ v _ us' hx ht =>
     have h0 : vs.toList[o]? = some v := by
      have := congrArg (fun l => l[0]?) hu
      simpa using this.symm
     have hlt : o < vs.size := by
      have := (List.getElem?_eq_some_iff.1 h0).1
      simpa using this
     refine .cons _ _ _ v _ ?_ (.inr ⟨rfl, hlt⟩) (hx.keep k) (ih us' (o + 1) ht ?_)
     ·rw [World.cell?_alloc_new]; simpa using h0
     ·have := congrArg List.tail hu
      simpa [List.tail_drop] using this
  exact key xs vs.toList 0 h (by simp)
def FW (r : Option Nat) : Fence := { fn := fun _ => True, depth := none, alive := false, round := r }
theorem callsIn_FW {r : Option Nat} {n : Nat} {P : Program} {f : FuncId} {args : Array Value} {w : World} {R : Ending → World → Prop} (h : Calls P f args w R) : CallsIn (FW r) n P f args w R :=
 (callsIn_wide (n := n)).2 h
theorem calls_of_FW {n : Nat} {P : Program} {f : FuncId} {args : Array Value} {w : World} {R : Ending → World → Prop} (h : CallsIn (FW none) n P f args w R) : Calls P f args w R :=
 (callsIn_wide (n := n)).1 h
def envGet : List (Nat × AV) → Nat → Option AV
 | [], _ => none
 | (s, x) :: r, t => bif Nat.beq t s then some x else envGet r t
theorem envGet_cons (s : Nat) (x : AV) (r : List (Nat × AV)) (t : Nat) : envGet ((s, x) :: r) t = if t = s then some x else envGet r t := by
 simp only [envGet]
 by_cases h : t = s
 ·subst h; simp
 ·have hb : Nat.beq t s = false := by
   rw [Bool.eq_false_iff]; intro e; exact h (Nat.eq_of_beq_eq_true e)
  simp [h, hb]
def putEnv (dst : Option Nat) (x : AV) (env : List (Nat × AV)) : List (Nat × AV) :=
 match dst with
 | some d => (d, x) :: env
 | none => env
def dstOk (n : Nat) : Option Nat → Bool
 | some d => Nat.blt d n
 | none => true
def constAV : Value → AV
 | .agg vs => .agg (vs.toList.map .val)
 | v => .val v
theorem relL_val {I : Imm} {w : World} : ∀ l : List Value, RelL I w (l.map .val) l
 | [] => .nil
 | v :: r => .cons _ _ _ _ (.val v) (relL_val r)
theorem rel_const {I : Imm} {w : World} (v : Value) : Rel I w (constAV v) v := by
 cases v <;> first | exact .val _ | exact .agg _ _ (relL_val _)
def aeval (ρ : Nat → Option AV) : Operand → Option AV
 | .tmp t => ρ t
 | .const v => some (constAV v)
 | .global g => some (.val (.pointer (some ⟨g, 0, none⟩)))
 | .func f => some (.fn (.func f) [] [])
def strip : AV → Bool × AV
 | .opt g x => (g, x)
 | x => (true, x)
def aev (ρ : Nat → Option AV) (x : Operand) : Option (Bool × AV) := (aeval ρ x).map strip
def aevs (ρ : Nat → Option AV) : List Operand → Option (List (Bool × AV))
 | [] => some []
 | x :: r => match aev ρ x, aevs ρ r with
  | some y, some l => some (y :: l)
  | _, _ => none
def EnvOk (I : Imm) (w : World) (ρ : Nat → Option AV) (a : Act) : Prop := ∀ t x, ρ t = some x → Rel I w x (a.tmps.getD t undef)
def OpsOk (I : Imm) (w : World) (ρ : Nat → Option AV) (a : Act) (o : Oper) : Prop := ∀ x ∈ o.op.operands, ∀ y, aeval ρ x = some y → Rel I w y (a.eval x)
theorem EnvOk.eval {I : Imm} {w : World} {ρ : Nat → Option AV} {a : Act} (h : EnvOk I w ρ a) {x : Operand} {y : AV} (hx : aeval ρ x = some y) : Rel I w y (a.eval x) := by
 cases x with
 | tmp t => exact h t y hx
 | const v => simp [aeval] at hx; subst hx; exact rel_const v
 | global g => simp [aeval] at hx; subst hx; exact .val _
 | func f => simp [aeval] at hx; subst hx; exact .fn _ _ _ _ _ .nil .nil
theorem EnvOk.ops {I : Imm} {w : World} {ρ : Nat → Option AV} {a : Act} (h : EnvOk I w ρ a) (o : Oper) : OpsOk I w ρ a o := fun _ _ _ hx => h.eval hx
theorem EnvOk.keep {I I' : Imm} {w w' : World} {ρ : Nat → Option AV} {a : Act} (h : EnvOk I w ρ a) (k : Keeps I w I' w') : EnvOk I' w' ρ a := fun t x hx => (h t x hx).keep k
theorem rel_strip {I : Imm} {w : World} {x y : AV} {g : Bool} {v : Value} (h : Rel I w x v) (hs : strip x = (g, y)) (hg : g = true) : Rel I w y v := by
 cases x with
 | opt g' z => simp [strip] at hs; obtain ⟨rfl, rfl⟩ := hs; cases h with | opt _ _ _ h _ => exact h hg
 | _ => simp [strip] at hs; obtain ⟨_, rfl⟩ := hs; exact h
theorem OpsOk.get {I : Imm} {w : World} {ρ : Nat → Option AV} {a : Act} {o : Oper} (h : OpsOk I w ρ a o) {x : Operand} (hm : x ∈ o.op.operands) {y : AV} {g : Bool} (hx : aev ρ x = some (g, y)) (hg : g = true) : Rel I w y (a.eval x) := by
 unfold aev at hx
 cases he : aeval ρ x with
 | none => simp [he] at hx
 | some z => simp [he] at hx; exact rel_strip (h x hm z he) hx hg
theorem aevs_rel {I : Imm} {w : World} {ρ : Nat → Option AV} {a : Act} {o : Oper} (h : OpsOk I w ρ a o) : ∀ (l : List Operand) (ys : List (Bool × AV)), (∀ x ∈ l, x ∈ o.op.operands) → aevs ρ l = some ys →
  (∀ y ∈ ys, y.1 = true) → RelL I w (ys.map (·.2)) (l.map a.eval)
 | [], ys, _, hx, _ => by simp [aevs] at hx; subst hx; exact .nil
 | x :: r, ys, hm, hx, hg => by
  simp only [aevs] at hx
  split at hx
  ·rename_i y l h1 h2
   simp at hx; subst hx
   exact .cons _ _ _ _ (h.get (hm x (by simp)) (y := y.2) (g := y.1) h1 (hg y (by simp))) (aevs_rel h r l (fun z hz => hm z (by simp [hz])) h2 (fun z hz => hg z (by simp [hz])))
  ·cases hx
def Runs (P : Program) (r : Option Nat) (o : Oper) (a : Act) (w : World) (R : Value → World → Prop) (E : List PanicEntry → World → Prop) : Prop :=
 ∀ (K : Act → World → Prop) (Q : Exit → Act → World → Prop), (∀ v w', R v w' → K (a.put o.dst v) w') → (∀ ch w', E ch w' → Q (.panic ch) a w') → o.wpIn (FW r) 0 P a w K Q
section
variable {P : Program} {r : Option Nat} {o : Oper} {a : Act} {w w' : World} {R : Value → World → Prop} {E : List PanicEntry → World → Prop}
theorem Runs.mono {R' : Value → World → Prop} {E' : List PanicEntry → World → Prop} (h : Runs P r o a w R E) (hR : ∀ v w', R v w' → R' v w') (hE : ∀ c w', E c w' → E' c w') : Runs P r o a w R' E' :=
 fun K Q h1 h2 => h K Q (fun v w' x => h1 v w' (hR v w' x)) (fun v w' x => h2 v w' (hE v w' x))
theorem Runs.of_value {v : Value} (hd : ∀ c, o.op ≠ .defer c) (h : (execOp a.eval o).run P w = .ok (.value v) w') (hR : R v w') : Runs P r o a w R E := by
 intro K Q hK _
 refine ⟨fun _ _ => trivial, ?_⟩
 rw [Oper.semAt_eq _ _ _ hd, h]
 exact hK v w' hR
theorem Runs.of_skip (hd : ∀ c, o.op ≠ .defer c) (h : (execOp a.eval o).run P w = .ok .skip w') (hR : R undef w') : Runs P r o a w R E := by
 intro K Q hK _
 refine ⟨fun _ _ => trivial, ?_⟩
 rw [Oper.semAt_eq _ _ _ hd, h]
 exact hK undef w' hR
theorem Runs.of_panic {v : Value} (hd : ∀ c, o.op ≠ .defer c) (h : (execOp a.eval o).run P w = .halt (.panic v) w') (hE : E [{ v, recovered := false }] w') : Runs P r o a w R E := by
 intro K Q _ hQ
 refine ⟨fun _ _ => trivial, ?_⟩
 rw [Oper.semAt_eq _ _ _ hd, h]
 exact hQ _ w' hE
theorem Runs.of_enter {f : FuncId} {args : Array Value} (hd : ∀ c, o.op ≠ .defer c) (h : (execOp a.eval o).run P w = .ok (.enter f args) w')
  (hC : Calls P f args w' fun e w'' => match e with | .returned v => R v w'' | .panicked c => E c w'' | .outgrown => False) : Runs P r o a w R E := by
 intro K Q hK hQ
 refine ⟨fun _ _ => trivial, ?_⟩
 rw [Oper.semAt_eq _ _ _ hd, h, Oper.uponIn_enter]
 refine ⟨fun h => by simp [FW] at h, callsIn_FW (hC.mono fun e w'' h => ?_)⟩
 cases e with
 | returned v => exact hK v w'' h
 | panicked c => exact hQ c w'' h
 | outgrown => exact h.elim
theorem Runs.of_round {l : Nat} {f : FuncId} {tmps : Array Value} {assign body : Code} (hd : ∀ c, o.op ≠ .defer c) (h : (execOp a.eval o).run P w = .ok (.round l f tmps assign body) w')
  (hC : RoundIn (FW r) 0 P l f tmps assign body w' fun e w'' => match e with | .returned v => R v w'' | .panicked c => E c w'' | .outgrown => False) : Runs P r o a w R E := by
 intro K Q hK hQ
 refine ⟨fun _ _ => trivial, ?_⟩
 rw [Oper.semAt_eq _ _ _ hd, h, Oper.uponIn_round]
 refine ⟨fun h => by simp [FW] at h, hC.mono fun e w'' h => ?_⟩
 cases e with
 | returned v => exact hK v w'' h
 | panicked c => exact hQ c w'' h
 | outgrown => exact h.elim
end
def POp (P : Program) (H : List Ent) (ρ : Nat → Option AV) (o : Oper) (x : AV) : Prop :=
 ∀ (B : Nat) (I : Imm) (w : World) (r : Option Nat) (a : Act) (Hc : List Ent), WOk B I w → HeapOk B I w Hc → (∀ e ∈ H, e ∈ Hc) → OpsOk I w ρ a o →
  Runs P r o a w (fun v w' => ∃ I', WOk B I' w' ∧ Ext B I w I' w' ∧ HeapOk B I' w' Hc ∧ Rel I' w' x v) (fun _ _ => False)
structure Ctx where
 B : Nat
 I0 : Imm
 w0 : World
 n : Nat
 ds : List Deferred
structure St where
 env : List (Nat × AV)
 H : List Ent
structure Sat (c : Ctx) (st : St) (a : Act) (w : World) : Prop where
 ds : a.defers = c.ds
 size : a.tmps.size = c.n
 mem : ∃ I, WOk c.B I w ∧ Ext c.B c.I0 c.w0 I w ∧ HeapOk c.B I w st.H ∧ EnvOk I w (envGet st.env) a
def OL (c : Ctx) (r : Option Nat) (P : Program) (ops : Array Oper) (l : List Oper) (st : St) (Q : Exit → Act → World → Prop) : Prop :=
 ∀ a w, Sat c st a w → wpListIn (FW r) 0 P ops Q l a w
def CW (c : Ctx) (r : Option Nat) (P : Program) (code : Code) (st : St) (Q : Exit → Act → World → Prop) : Prop :=
 ∀ a w, Sat c st a w → code.wpIn (FW r) 0 P Q a w
def Done (c : Ctx) (st : St) (e : Exit) (Q : Exit → Act → World → Prop) : Prop := ∀ a w, Sat c st a w → Q e a w
theorem tmps_put_same {a : Act} {d : Nat} {v : Value} (h : d < a.tmps.size) : (a.put (some d) v).tmps.getD d undef = v := by
 simp [Act.put, Array.getD, h]
theorem tmps_put_other {a : Act} {d t : Nat} {v : Value} (h : t ≠ d) : (a.put (some d) v).tmps.getD t undef = a.tmps.getD t undef := by
 simp only [Act.put, Array.getD_eq_getD_getElem?]
 rw [Array.getElem?_setIfInBounds_ne (Ne.symm h)]
theorem tmps_put_size {a : Act} {d : Option Nat} {v : Value} : (a.put d v).tmps.size = a.tmps.size := by
 cases d <;> simp [Act.put]
theorem put_defers {a : Act} {d : Option Nat} {v : Value} : (a.put d v).defers = a.defers := by
 cases d <;> rfl
theorem EnvOk.put {I : Imm} {w : World} {env : List (Nat × AV)} {a : Act} {dst : Option Nat} {x : AV} {v : Value} (h : EnvOk I w (envGet env) a) (hd : dstOk a.tmps.size dst = true) (hx : Rel I w x v) :
  EnvOk I w (envGet (putEnv dst x env)) (a.put dst v) := by
 cases dst with
 | none => exact h
 | some d =>
  intro t y hy
  simp only [putEnv, envGet_cons] at hy
  split at hy
  ·rename_i e; subst e
   simp at hy; subst hy
   rw [tmps_put_same (Nat.lt_of_succ_le (by simpa [dstOk, Nat.blt] using hd))]
   exact hx
  ·rename_i e
   rw [tmps_put_other e]
   exact h t y hy
section
variable {c : Ctx} {r : Option Nat} {P : Program} {ops : Array Oper} {l rest : List Oper} {o : Oper} {st : St} {Q : Exit → Act → World → Prop} {x : AV}
theorem OL.nil (h : Done c st .normal Q) : OL c r P ops [] st Q := fun a w s => h a w s
def mkG : Option AV → Bool → Option Bool
 | some (.val (.bool b)), true => some b
 | some (.val (.bool b)), false => some (!b)
 | some (.opt g (.val (.bool b))), true => some (g && b)
 | some (.opt g (.val (.bool b))), false => some (g && !b)
 | _, _ => none
theorem mkG_wanted {I : Imm} {w : World} {a : Act} {y : Option AV} {j d : Nat} {want G : Bool} (hj : (ops[j]?).bind (·.dst) = some d) (ho : o.guard = some (j, want))
  (hy : ∀ z, y = some z → Rel I w z (a.tmps.getD d undef)) (hG : mkG y want = some G) (hd : d < a.tmps.size) : Region.wanted o (yielded ops a.tmps) = G := by
 have hl : a.tmps[d]? = some (a.tmps.getD d undef) := by
  simp [Array.getD, hd]
 have hw : Region.wanted o (yielded ops a.tmps) = (yielded ops a.tmps j == some want) := by simp [Region.wanted, ho]
 rw [hw]
 unfold yielded
 rw [hj]
 simp only [Option.bind_some, hl]
 match y, hy, hG with
 | some (.val (.bool b)), hy, hG =>
  have h0 := hy _ rfl
  generalize a.tmps.getD d undef = u at h0
  cases h0
  cases want <;> cases b <;> simp [mkG] at hG <;> subst hG <;> rfl
 | some (.opt g (.val (.bool b))), hy, hG =>
  have h0 := hy _ rfl
  generalize a.tmps.getD d undef = u at h0
  cases h0 with
  | opt _ _ _ h1 h2 =>
   cases g with
   | false => rw [h2 rfl]; cases want <;> simp [mkG] at hG <;> subst hG <;> rfl
   | true =>
    have h3 := h1 rfl
    cases h3
    cases want <;> cases b <;> simp [mkG] at hG <;> subst hG <;> rfl
theorem OL.guarded {j d : Nat} {want G : Bool} (hg : o.guard = some (j, want)) (hj : (ops[j]?).bind (·.dst) = some d) (hdj : Nat.blt d c.n = true) (hG : mkG (envGet st.env d) want = some G)
  (hd : dstOk c.n o.dst = true) (h : G = true → POp P st.H (envGet st.env) o x) (next : OL c r P ops rest ⟨putEnv o.dst (.opt G x) st.env, st.H⟩ Q) : OL c r P ops (o :: rest) st Q := by
 intro a w s
 obtain ⟨I, hw, he, hh, hv⟩ := s.mem
 have hwant := mkG_wanted (I := I) (w := w) (a := a) hj hg (fun z hz => hv d z hz) hG (by rw [s.size]; exact Nat.lt_of_succ_le (by simpa [Nat.blt] using hdj))
 unfold wpListIn
 rw [hwant]
 cases G with
 | true =>
  rw [if_pos rfl]
  refine h rfl c.B I w r a st.H hw hh (fun _ x => x) (hv.ops o) _ Q ?_ (fun _ _ h => h.elim)
  rintro v w' ⟨I', hw', he', hh', hx⟩
  refine next _ _ ⟨by rw [put_defers]; exact s.ds, by rw [tmps_put_size]; exact s.size, I', hw', he.trans he', hh', ?_⟩
  exact (hv.keep he'.keeps).put (by rw [s.size]; exact hd) (.opt _ _ _ (fun _ => hx) (fun e => by cases e))
 | false =>
  rw [if_neg (by simp)]
  refine ⟨fun _ _ => trivial, next _ _ ⟨by rw [put_defers]; exact s.ds, by rw [tmps_put_size]; exact s.size, I, hw, he, hh, ?_⟩⟩
  exact hv.put (by rw [s.size]; exact hd) (.opt _ _ _ (fun e => by cases e) (fun _ => rfl))
theorem CW.seq {p q : Code} (h : CW c r P p st (Exit.then (q.wpIn (FW r) 0 P Q) Q)) : CW c r P (.seq p q) st Q := fun a w s => wpIn_seq (h a w s)
theorem CW.skip (h : Done c st .normal Q) : CW c r P .skip st Q := fun a w s => wpIn_skip (h a w s)
theorem CW.ret (h : Done c st .ret Q) : CW c r P .ret st Q := fun a w s => wpIn_ret (h a w s)
theorem CW.exit {id : Nat} (h : Done c st (.exit id) Q) : CW c r P (.exit id) st Q := fun a w s => wpIn_exit (h a w s)
theorem CW.block {id : Nat} {p : Code} (h : CW c r P p st (Exit.inBlock id Q)) : CW c r P (.block id p) st Q := fun a w s => wpIn_block (h a w s)
theorem CW.region {id : Nat} {l : List Oper} (h : OL c r P l.toArray l st Q) : CW c r P (.region id l.toArray false) st Q := fun a w s => wpIn_region_lit (h a w s)
theorem CW.cond {t : Nat} {b : Bool} {p q : Code} (ht : envGet st.env t = some (.val (.bool b))) (h1 : b = true → CW c r P p st Q) (h2 : b = false → CW c r P q st Q) : CW c r P (.cond (.tmp t) p q) st Q := by
 intro a w s
 obtain ⟨I, hw, he, hh, hv⟩ := s.mem
 have h0 := hv t _ ht
 have hb : a.eval (.tmp t) = .bool b := by
  show a.tmps.getD t undef = .bool b
  generalize a.tmps.getD t undef = u at h0
  cases h0; rfl
 cases b with
 | true => exact wpIn_cond_true hb (h1 rfl a w s)
 | false => exact wpIn_cond_false hb (h2 rfl a w s)
theorem Done.seq {q : Code} (h : CW c r P q st Q) : Done c st .normal (Exit.then (q.wpIn (FW r) 0 P Q) Q) := h
theorem Sat.weaken {st' : St} {a : Act} {w : World} (s : Sat c st a w) (he : ∀ t y, envGet st'.env t = some y → envGet st.env t = some y) (hH : st'.H.Sublist st.H) : Sat c st' a w :=
 ⟨s.ds, s.size, let ⟨I, hw, hx, hh, hv⟩ := s.mem; ⟨I, hw, hx, hh.sub hH, fun t y h => hv t y (he t y h)⟩⟩
def envLe : List (Nat × AV) → List (Nat × AV) → Prop
 | [], _ => True
 | (t, y) :: r, env => envGet env t = some y ∧ envLe r env
theorem envLe_get {e : List (Nat × AV)} : ∀ {e' : List (Nat × AV)}, envLe e' e → ∀ t y, envGet e' t = some y → envGet e t = some y
 | [], _, t, y, h => by simp [envGet] at h
 | (s, z) :: r, h, t, y, hy => by
  rw [envGet_cons] at hy
  split at hy
  ·rename_i e1; subst e1; simp at hy; subst hy; exact h.1
  ·exact envLe_get h.2 t y hy
theorem CW.weaken {p : Code} {st' : St} (he : envLe st'.env st.env) (hH : st'.H.Sublist st.H) (h : CW c r P p st' Q) : CW c r P p st Q :=
 fun a w s => h a w (s.weaken (envLe_get he) hH)
theorem OL.weaken {st' : St} (he : envLe st'.env st.env) (hH : st'.H.Sublist st.H) (h : OL c r P ops l st' Q) : OL c r P ops l st Q :=
 fun a w s => h a w (s.weaken (envLe_get he) hH)
theorem CW.loop {ι : Type} (inv : ι → St) (μ : ι → Nat) (i0 : ι) {p : Code} (he : envLe (inv i0).env st.env) (hH : (inv i0).H.Sublist st.H)
  (round : ∀ i, CW c r P p (inv i) (Exit.then (fun a w => ∃ j, μ j < μ i ∧ Sat c (inv j) a w) Q)) : CW c r P (.loop p) st Q := by
 intro a w s b k cs hro hb hr
 have key : ∀ m i a w, μ i = m → Sat c (inv i) a w →
   ∃ e a' w', Q e a' w' ∧ ArrivesIn (Machine.fenced P (FW r)) P (lone (b.atR a (.code p :: .inLoop p :: k)) cs w) b k cs e a' w' := by
  intro m
  induction m using Nat.strongRecOn with
  | _ m ih =>
   intro i a w hn hI
   obtain ⟨e, a₁, w₁, hq, harr⟩ := round i a w hI b (.inLoop p :: k) cs hro hb hr
   cases e with
   | normal =>
    obtain ⟨j, hlt, hI₁⟩ := hq
    obtain ⟨e₂, a₂, w₂, hq₂, harr₂⟩ := ih (μ j) (hn ▸ hlt) j a₁ w₁ rfl hI₁
    exact ⟨e₂, a₂, w₂, hq₂, .of_steps (StepsIn.trans harr (.one (fenced_calm hb hr rfl) stepR_inLoop)) harr₂⟩
   | exit id => exact ⟨_, a₁, w₁, hq, .pass (x := .inLoop p) rfl (fun _ _ => .inl (by simp)) harr⟩
   | goto l => exact ⟨_, a₁, w₁, hq, .pass (x := .inLoop p) rfl (fun _ _ => .inl (by simp)) harr⟩
   | ret => exact ⟨_, a₁, w₁, hq, .pass (x := .inLoop p) rfl (fun _ _ => .inl (by simp)) harr⟩
   | panic ch => exact ⟨_, a₁, w₁, hq, .pass (x := .inLoop p) rfl (fun _ _ => .inl (by simp)) harr⟩
   | outgrown => exact ⟨_, a₁, w₁, hq, .pass (x := .inLoop p) rfl (fun _ _ => .inl (by simp)) harr⟩
 obtain ⟨e, a', w', hq, harr⟩ := key _ i0 a w rfl (s.weaken (envLe_get he) hH)
 exact ⟨e, a', w', hq, .of_steps (.one (fenced_calm hb hr rfl) stepR_loop) harr⟩
theorem Done.again {ι : Type} {inv : ι → St} {μ : ι → Nat} {i : ι} (j : ι) (hμ : μ j < μ i) (he : envLe (inv j).env st.env) (hH : (inv j).H.Sublist st.H) :
  Done c st .normal (Exit.then (fun a w => ∃ j, μ j < μ i ∧ Sat c (inv j) a w) Q) :=
 fun a w s => ⟨j, hμ, s.weaken (envLe_get he) hH⟩
end
section
variable {P : Program} {H : List Ent} {ρ : Nat → Option AV} {o : Oper}
theorem POp.same {y : AV} (hd : ∀ c, o.op ≠ .defer c) (h : ∀ (I : Imm) (w : World) (a : Act), OpsOk I w ρ a o → ∃ v, (execOp a.eval o).run P w = .ok (.value v) w ∧ Rel I w y v) : POp P H ρ o y := by
 intro B I w r a Hc hw hh _ ho
 obtain ⟨v, h1, h2⟩ := h I w a ho
 exact Runs.of_value hd h1 ⟨I, hw, Ext.refl _ _ _, hh, h2⟩
theorem POp.move {x : Operand} {y : AV} {g : Bool} (h : o.op = .move x) (hx : aev ρ x = some (g, y)) (hg : g = true) : POp P H ρ o y :=
 .same (by simp [h]) fun I w a ho => ⟨a.eval x, by simp [execOp, h], ho.get (by simp [h, Op.operands]) hx hg⟩
theorem POp.assign {x : Operand} {y : AV} {g : Bool} (h : o.op = .assign x) (hx : aev ρ x = some (g, y)) (hg : g = true) : POp P H ρ o y :=
 .same (by simp [h]) fun I w a ho => ⟨a.eval x, by simp [execOp, h], ho.get (by simp [h, Op.operands]) hx hg⟩
theorem rel_val {I : Imm} {w : World} {u v : Value} (h : Rel I w (.val u) v) : v = u := by cases h; rfl
theorem POp.pick {c x y : Operand} {b p q : Bool} {gc gx gy : Bool} (h : o.op = .pick c x y) (hc : aev ρ c = some (gc, .b b)) (hgc : gc = true) (hx : aev ρ x = some (gx, .b p)) (hy : aev ρ y = some (gy, .b q))
  (hgx : b = true → gx = true) (hgy : b = false → gy = true) : POp P H ρ o (.b (bif b then p else q)) := by
 refine .same (by simp [h]) fun I w a ho => ?_
 have h1 := rel_val (ho.get (by simp [h, Op.operands]) hc hgc)
 cases b with
 | true => exact ⟨a.eval x, by simp [execOp, h, h1, asBool], by rw [rel_val (ho.get (by simp [h, Op.operands]) hx (hgx rfl))]; exact .val _⟩
 | false => exact ⟨a.eval y, by simp [execOp, h, h1, asBool], by rw [rel_val (ho.get (by simp [h, Op.operands]) hy (hgy rfl))]; exact .val _⟩
def cmpI : BinOp → Int → Int → Option Bool
 | .eql, a, b => some (a == b)
 | .neq, a, b => some (a != b)
 | .lss, a, b => some (decide (a < b))
 | .leq, a, b => some (decide (a ≤ b))
 | .gtr, a, b => some (decide (a > b))
 | .geq, a, b => some (decide (a ≥ b))
 | _, _, _ => none
def arI : BinOp → Int → Int → Option Int
 | .add, a, b => some (a + b)
 | .sub, a, b => some (a - b)
 | .mul, a, b => some (a * b)
 | _, _, _ => none
def bitI (op : BinOp) (k : IntKind) (x y : Int) : Option Int :=
 match op with
 | .and => some (k.wrap (BitVec.ofInt k.bits x &&& BitVec.ofInt k.bits y).toNat)
 | .or => some (k.wrap (BitVec.ofInt k.bits x ||| BitVec.ofInt k.bits y).toNat)
 | .xor => some (k.wrap (BitVec.ofInt k.bits x ^^^ BitVec.ofInt k.bits y).toNat)
 | .andNot => some (k.wrap (BitVec.ofInt k.bits x &&& ~~~BitVec.ofInt k.bits y).toNat)
 | _ => none
theorem POp.bits {op : BinOp} {t t' : TypeId} {x y : Operand} {k : IntKind} {a b c : Int} {gx gy : Bool} (h : o.op = .binOp op t x y t') (hx : aev ρ x = some (gx, .val (.int k a))) (hy : aev ρ y = some (gy, .val (.int k b)))
  (hgx : gx = true) (hgy : gy = true) (hc : bitI op k a b = some c) : POp P H ρ o (.val (.int k c)) := by
 refine .same (by simp [h]) fun I w f ho => ?_
 have h1 := rel_val (ho.get (by simp [h, Op.operands]) hx hgx)
 have h2 := rel_val (ho.get (by simp [h, Op.operands]) hy hgy)
 refine ⟨.int k c, ?_, .val _⟩
 cases op <;> simp [bitI] at hc <;> subst hc <;> simp [execOp, h, h1, h2, eqGuard, binOp, Op.intBits]
def shI (op : BinOp) (k : IntKind) (x y : Int) : Option Int :=
 match op with
 | .shl => some (k.wrap (x * 2 ^ (min y.toNat k.bits)))
 | .shr => some (x.fdiv (2 ^ (min y.toNat k.bits)))
 | _ => none
theorem POp.shift {op : BinOp} {t t' : TypeId} {x y : Operand} {k k' : IntKind} {a b c : Int} {gx gy : Bool} (h : o.op = .binOp op t x y t') (hx : aev ρ x = some (gx, .val (.int k a))) (hy : aev ρ y = some (gy, .val (.int k' b)))
  (hgx : gx = true) (hgy : gy = true) (hb : 0 ≤ b) (hc : shI op k a b = some c) : POp P H ρ o (.val (.int k c)) := by
 refine .same (by simp [h]) fun I w f ho => ?_
 have h1 := rel_val (ho.get (by simp [h, Op.operands]) hx hgx)
 have h2 := rel_val (ho.get (by simp [h, Op.operands]) hy hgy)
 have hn : ¬ b < 0 := by omega
 refine ⟨.int k c, ?_, .val _⟩
 cases op <;> simp [shI] at hc <;> subst hc <;> simp [execOp, h, h1, h2, eqGuard, binOp, Op.shift, hn]
theorem POp.div {op : BinOp} {t t' : TypeId} {x y : Operand} {k : IntKind} {a b c : Int} {gx gy : Bool} (h : o.op = .binOp op t x y t') (hx : aev ρ x = some (gx, .val (.int k a))) (hy : aev ρ y = some (gy, .val (.int k b)))
  (hgx : gx = true) (hgy : gy = true) (hb : b ≠ 0) (hc : (op = .quo ∧ c = k.wrap (a.tdiv b)) ∨ (op = .rem ∧ c = a.tmod b)) : POp P H ρ o (.val (.int k c)) := by
 refine .same (by simp [h]) fun I w f ho => ?_
 have h1 := rel_val (ho.get (by simp [h, Op.operands]) hx hgx)
 have h2 := rel_val (ho.get (by simp [h, Op.operands]) hy hgy)
 refine ⟨.int k c, ?_, .val _⟩
 rcases hc with ⟨rfl, rfl⟩ | ⟨rfl, rfl⟩ <;> simp [execOp, h, h1, h2, eqGuard, binOp, Op.intDiv, hb]
theorem POp.not {t : TypeId} {x : Operand} {a g : Bool} (h : o.op = .unOp .not t x) (hx : aev ρ x = some (g, .b a)) (hg : g = true) : POp P H ρ o (.b (!a)) := by
 refine .same (by simp [h]) fun I w f ho => ?_
 have h1 := rel_val (ho.get (by simp [h, Op.operands]) hx hg)
 exact ⟨.bool (!a), by simp [execOp, h, h1, Op.unary], .val _⟩
theorem POp.neg {t : TypeId} {x : Operand} {k : IntKind} {a d : Int} {g : Bool} (h : o.op = .unOp .neg t x) (hx : aev ρ x = some (g, .val (.int k a))) (hg : g = true) (hw : k.wrap (0 - a) = d) : POp P H ρ o (.val (.int k d)) := by
 refine .same (by simp [h]) fun I w f ho => ?_
 have h1 := rel_val (ho.get (by simp [h, Op.operands]) hx hg)
 subst hw
 exact ⟨.int k (k.wrap (0 - a)), by simp [execOp, h, h1, Op.unary, Op.intArith], .val _⟩
theorem POp.extract {x : Operand} {i : Nat} {xs : List AV} {y : AV} {g : Bool} (h : o.op = .extract x i) (hx : aev ρ x = some (g, .tup xs)) (hg : g = true) (hi : xs[i]? = some y) : POp P H ρ o y := by
 refine .same (by simp [h]) fun I w f ho => ?_
 have h1 := ho.get (by simp [h, Op.operands]) hx hg
 generalize hv : f.eval x = u at h1
 cases h1 with
 | tup _ vs hl =>
  obtain ⟨v, h2, h3⟩ := hl.get hi
  exact ⟨v, by
   have h4 : vs[i]? = some v := by simpa using h2
   simp [execOp, h, hv, Instr.extract, h4], h3⟩
def isSl (P : Program) (t : TypeId) : Bool := match P.underlying t with | some (.slice _) => true | _ => false
theorem isSl_elem {P : Program} {t : TypeId} (h : isSl P t = true) : P.underlying t = some (.slice (P.elem t)) := by
 unfold isSl at h
 unfold Program.elem
 split at h
 ·rename_i e he; rw [he]
 ·cases h
theorem run_len_sl (t : TypeId) (a : Option Addr) (n c : Nat) (ht : isSl P t = true) (w : World) (ty : TypeId) : (Builtin.len_ #[t] ty #[.slice a n c]).run P w = .ok (.int .i64 n) w :=
 run_len_slice w t ty a n c (isSl_elem ht)
theorem POp.len {x : Operand} {t : TypeId} {k : Nat} {els : List (List AV)} {g : Bool} (h : o.op = .call { callee := .builtin .len, args := #[x], argTypes := #[t] }) (hx : aev ρ x = some (g, .sl k els)) (hg : g = true) (ht : isSl P t = true) :
  POp P H ρ o (.i els.length) := by
 refine .same (by simp [h]) fun I w f ho => ?_
 have h1 := ho.get (by simp [h, Op.operands, Call.operands]) hx hg
 generalize hv : f.eval x = u at h1
 refine ⟨.int .i64 els.length, ?_, .val _⟩
 cases h1 with
 | sl0 k a c => simp [execOp, h, hv, resolve, invoke, builtin, run_len_sl t a 0 c ht w]
 | sl k els b off len cap hl hc hm he => simp [execOp, h, hv, resolve, invoke, builtin, run_len_sl t _ len cap ht w, hl]
def slSize (P : Program) (t : TypeId) : Option Nat := match P.underlying t with | some (.slice e) => (P.info? e).map (·.size) | _ => none
theorem slSize_spec {P : Program} {t : TypeId} {k : Nat} (h : slSize P t = some k) : ∃ e i, P.underlying t = some (.slice e) ∧ P.info? e = some i ∧ i.size = k := by
 unfold slSize at h
 split at h
 ·rename_i e he
  cases hi : P.info? e with
  | none => simp [hi] at h
  | some i => simp [hi] at h; exact ⟨e, i, he, hi, h⟩
 ·cases h
theorem run_indexSl {t : TypeId} {k : Nat} (ht : slSize P t = some k) (b off len cap : Nat) (kk : IntKind) (i : Int) (h0 : 0 ≤ i) (h1 : i < len) (w : World) :
  (Instr.indexAt t (.slice (some ⟨b, off, none⟩) len cap) (.int kk i)).run P w = .ok (.pointer (some ⟨b, off + i.toNat * k, none⟩)) w := by
 obtain ⟨e, inf, hu, hi, hk⟩ := slSize_spec ht
 have h2 : 0 ≤ i ∧ i < (len : Int) := ⟨h0, h1⟩
 simp [Instr.indexAt, asIntOf, run_underlying hu, sizeOf, typeInfo, hi, hk, h2, Addr.add_lit]
theorem POp.index {t : TypeId} {x y : Operand} {k : Nat} {els : List (List AV)} {kk : IntKind} {i : Int} {cs : List AV} {gx gy : Bool} (h : o.op = .indexAddr t x y) (hx : aev ρ x = some (gx, .sl k els)) (hy : aev ρ y = some (gy, .val (.int kk i)))
  (hgx : gx = true) (hgy : gy = true) (ht : slSize P t = some k) (h0 : 0 ≤ i) (he : els[i.toNat]? = some cs) : POp P H ρ o (.ptr cs) := by
 refine .same (by simp [h]) fun I w f ho => ?_
 have h1 := ho.get (by simp [h, Op.operands]) hx hgx
 have h2 := rel_val (ho.get (by simp [h, Op.operands]) hy hgy)
 generalize hv : f.eval x = u at h1
 cases h1 with
 | sl0 k a c => simp at he
 | sl k els b off len cap hl hc hm hE =>
  have hlt : i < (len : Int) := by
   have := (List.getElem?_eq_some_iff.1 he).1
   omega
  exact ⟨.pointer (some ⟨b, off + i.toNat * k, none⟩), by simp [execOp, h, hv, h2, run_indexSl ht b off len cap kk i h0 hlt w], .ptr _ _ _ (hE.get he).2⟩
theorem POp.slice {t : TypeId} {x : Operand} {lo hi : Option Operand} {k : Nat} {els : List (List AV)} {l n : Nat} {gx gl gh : Bool} {kl kh : IntKind} (h : o.op = .slice t x lo hi none) (hx : aev ρ x = some (gx, .sl k els)) (hgx : gx = true)
  (hlo : match lo with | none => l = 0 | some y => aev ρ y = some (gl, .val (.int kl (l : Int)))) (hgl : gl = true) (hhi : match hi with | none => n = els.length | some y => aev ρ y = some (gh, .val (.int kh (n : Int)))) (hgh : gh = true)
  (ht : slSize P t = some k) (h1 : l ≤ n) (h2 : n ≤ els.length) : POp P H ρ o (.sl k ((els.take n).drop l)) := by
 refine .same (by simp [h]) fun I w f ho => ?_
 have hr := ho.get (by simp [h, Op.operands]) hx hgx
 have hl0 : ∀ y, lo = some y → f.eval y = .int kl (l : Int) := fun y e => by
  subst e; exact rel_val (ho.get (by simp [h, Op.operands]) hlo hgl)
 have hh0 : ∀ y, hi = some y → f.eval y = .int kh (n : Int) := fun y e => by
  subst e; exact rel_val (ho.get (by simp [h, Op.operands]) hhi hgh)
 obtain ⟨e, inf, hu, hi', hk⟩ := slSize_spec ht
 generalize hv : f.eval x = u at hr
 have key : ∀ (a : Option Addr) (len cap : Nat), u = .slice a len cap → els.length = len → len ≤ cap → (execOp f.eval o).run P w = .ok (.value (.slice (if cap = l then a else a.map (·.add (l * k))) (n - l) (cap - l))) w := by
  intro a len cap hua hle hc
  rw [hua] at hv
  have hn : n ≤ cap := by omega
  have hln : l ≤ n := by omega
  cases lo with
  | none =>
   simp only at hlo
   subst hlo
   cases hi with
   | none =>
    simp only at hhi
    subst hhi
    simp [execOp, h, hv, Instr.sliceAt, run_underlying hu, Instr.slice, Instr.sliceBounds, sizeOf, typeInfo, hi', hk, hle]
   | some y =>
    have := hh0 y rfl
    simp [execOp, h, hv, this, Instr.sliceAt, run_underlying hu, Instr.slice, Instr.sliceBounds, Instr.sliceBound, asIntOf, sizeOf, typeInfo, hi', hk, hn]
  | some z =>
   have hz := hl0 z rfl
   cases hi with
   | none =>
    simp only at hhi
    subst hhi
    have hlc : l ≤ len := by omega
    simp [execOp, h, hv, hz, Instr.sliceAt, run_underlying hu, Instr.slice, Instr.sliceBounds, Instr.sliceBound, asIntOf, sizeOf, typeInfo, hi', hk, hle, hlc]
   | some y =>
    have := hh0 y rfl
    simp [execOp, h, hv, hz, this, Instr.sliceAt, run_underlying hu, Instr.slice, Instr.sliceBounds, Instr.sliceBound, asIntOf, sizeOf, typeInfo, hi', hk, hn, hln]
 cases hr with
 | sl0 k a c =>
  refine ⟨_, key a 0 c rfl rfl (Nat.zero_le _), ?_⟩
  have : n = 0 := by simpa using h2
  subst this
  have : l = 0 := by omega
  subst this
  simp
  exact .sl0 _ _ _
 | sl k els b off len cap hl hc hm hE =>
  refine ⟨_, key _ len cap rfl hl hc, ?_⟩
  have hlen : ((els.take n).drop l).length = n - l := by simp; omega
  by_cases hz : n = l
  ·subst hz
   have e0 : (els.take n).drop n = [] := by simp
   rw [e0]
   simp
   exact .sl0 _ _ _
  ·have hcl : ¬ cap = l := by omega
   simp only [if_neg hcl, Option.map_some, Addr.add_lit]
   exact .sl k _ b _ _ _ hlen (by omega) (by omega) ((hE.take n).drop l)
def tyInfo (P : Program) (t : TypeId) : Option (Bool × Nat) :=
 match P.underlying t, P.info? t with
 | some (.struct _), some i => some (true, i.size)
 | some (.array _ _), some i => some (true, i.size)
 | some _, some i => some (false, i.size)
 | _, _ => none
theorem tyInfo_run {t : TypeId} {agg : Bool} {n : Nat} (h : tyInfo P t = some (agg, n)) (w : World) : (isAgg t).run P w = .ok agg w ∧ (sizeOf t).run P w = .ok n w := by
 unfold tyInfo at h
 split at h
 ·rename_i hu hi; simp at h; obtain ⟨rfl, rfl⟩ := h
  exact ⟨by simp [isAgg, run_underlying hu], by simp [sizeOf, typeInfo, hi]⟩
 ·rename_i hu hi; simp at h; obtain ⟨rfl, rfl⟩ := h
  exact ⟨by simp [isAgg, run_underlying hu], by simp [sizeOf, typeInfo, hi]⟩
 ·rename_i d i h1 h2 hu hi; simp at h; obtain ⟨rfl, rfl⟩ := h
  refine ⟨?_, by simp [sizeOf, typeInfo, hi]⟩
  simp only [isAgg, Sem.run_bind, run_underlying hu, Result.andThen_ok]
  cases d <;> first | rfl | (exfalso; exact h1 _ hu hi) | (exfalso; exact h2 _ _ hu hi) | simp_all
 ·cases h
theorem run_loadVar_agg {t : TypeId} {n : Nat} (h : tyInfo P t = some (true, n)) (b o : Nat) (vs : List Value) (w : World) (hl : vs.length = n) (hc : ∀ j v, vs[j]? = some v → w.cell? ⟨b, o + j, none⟩ = some v) :
  (loadVar t ⟨b, o, none⟩).run P w = .ok (.agg vs.toArray) w := by
 obtain ⟨h1, h2⟩ := tyInfo_run h w
 subst hl
 have h3 := run_loadCells_list (P := P) w ⟨b, o, none⟩ vs (fun j v hj => by rw [Addr.add_lit]; exact hc j v hj)
 simp [loadVar, h1, h2, h3]
theorem run_loadVar_one {t : TypeId} {n : Nat} (h : tyInfo P t = some (false, n)) (b o : Nat) (v : Value) (w : World) (hc : w.cell? ⟨b, o, none⟩ = some v) : (loadVar t ⟨b, o, none⟩).run P w = .ok v w := by
 obtain ⟨h1, h2⟩ := tyInfo_run h w
 simp [loadVar, h1, hc]
theorem cell_of_blk {w : World} {b : Nat} {vs : Array Value} {t : TypeId} {fr : Nat × Nat} (h : w.heap[b]? = some (.cells vs t fr)) (o : Nat) : w.cell? ⟨b, o, none⟩ = vs[o]? := by
 simp [World.cell?, h]
theorem RelL.drop {I : Imm} {w : World} : ∀ (n : Nat) {xs : List AV} {vs : List Value}, RelL I w xs vs → RelL I w (xs.drop n) (vs.drop n)
 | 0, _, _, h => h
 | n + 1, _, _, .nil => .nil
 | n + 1, _, _, .cons _ _ _ _ _ t => RelL.drop n t
theorem RelL.take {I : Imm} {w : World} : ∀ (n : Nat) {xs : List AV} {vs : List Value}, RelL I w xs vs → RelL I w (xs.take n) (vs.take n)
 | 0, _, _, _ => .nil
 | n + 1, _, _, .nil => .nil
 | n + 1, _, _, .cons _ _ _ _ h t => .cons _ _ _ _ h (RelL.take n t)
theorem RelL.append {I : Imm} {w : World} : ∀ {xs ys : List AV} {vs us : List Value}, RelL I w xs vs → RelL I w ys us → RelL I w (xs ++ ys) (vs ++ us)
 | _, _, _, _, .nil, h => h
 | _, _, _, _, .cons _ _ _ _ h t, h' => .cons _ _ _ _ h (RelL.append t h')
def fldOff (P : Program) (t : TypeId) (f : Nat) : Option Nat :=
 match P.underlying t with
 | some (.struct fs) => match fs[f]? with
  | some fd => match P.info? fd.type with
   | some i => if i.size = 0 then none else some fd.offset
   | none => none
  | none => none
 | _ => none
theorem run_fieldAt {t : TypeId} {f off : Nat} (h : fldOff P t f = some off) (b o : Nat) (w : World) : (Instr.fieldAt t (.pointer (some ⟨b, o, none⟩)) f).run P w = .ok (.pointer (some ⟨b, o + off, none⟩)) w := by
 unfold fldOff at h
 split at h
 ·rename_i fs hu
  split at h
  ·rename_i fd hf
   split at h
   ·rename_i i hi
    split at h
    ·cases h
    ·rename_i hz
     simp at h; subst h
     simp [Instr.fieldAt, run_underlying hu, hf, Instr.sureAddr, fieldPlace, sizeOf, typeInfo, hi, hz, Addr.add_lit]
   ·cases h
  ·cases h
 ·cases h
theorem POp.field {t : TypeId} {x : Operand} {f off b o' : Nat} {g : Bool} (h : o.op = .fieldAddr t x f) (hx : aev ρ x = some (g, .p b o')) (hg : g = true) (hf : fldOff P t f = some off) : POp P H ρ o (.p b (o' + off)) := by
 refine .same (by simp [h]) fun I w a ho => ?_
 have h1 := rel_val (ho.get (by simp [h, Op.operands]) hx hg)
 exact ⟨.pointer (some ⟨b, o' + off, none⟩), by simp [execOp, h, h1, run_fieldAt hf b o' w], .val _⟩
def arrInfo (P : Program) (t : TypeId) : Option (Nat × Nat) := match P.underlying t with | some (.array n e) => (P.info? e).map fun i => (n, i.size) | _ => none
theorem run_indexArr {t : TypeId} {n k : Nat} (ht : arrInfo P t = some (n, k)) (b o : Nat) (kk : IntKind) (i : Int) (h0 : 0 ≤ i) (h1 : i < n) (w : World) :
  (Instr.indexAt t (.pointer (some ⟨b, o, none⟩)) (.int kk i)).run P w = .ok (.pointer (some ⟨b, o + i.toNat * k, none⟩)) w := by
 unfold arrInfo at ht
 split at ht
 ·rename_i m e hu
  cases hi : P.info? e with
  | none => simp [hi] at ht
  | some inf =>
   simp [hi] at ht
   obtain ⟨rfl, rfl⟩ := ht
   have h2 : 0 ≤ i ∧ i < (m : Int) := ⟨h0, h1⟩
   simp [Instr.indexAt, asIntOf, run_underlying hu, Instr.sureAddr, sizeOf, typeInfo, hi, h2, Addr.add_lit]
 ·cases ht
theorem POp.nilCheck {x : Operand} {b off : Nat} {g : Bool} (h : o.op = .nilCheck x) (hx : aev ρ x = some (g, .p b off)) (hg : g = true) : POp P H ρ o (.p b off) := by
 refine .same (by simp [h]) fun I w a ho => ?_
 have h1 := rel_val (ho.get (by simp [h, Op.operands]) hx hg)
 exact ⟨.pointer (some ⟨b, off, none⟩), by simp [execOp, h, h1], .val _⟩
theorem POp.makeFunc {f : Fn} {first caps : Array Operand} {fs cs : List (Bool × AV)} (h : o.op = .makeFunc f first caps) (hf : aevs ρ first.toList = some fs) (hc : aevs ρ caps.toList = some cs) (hgf : fs.all (·.1) = true) (hgc : cs.all (·.1) = true) :
  POp P H ρ o (.fn f (fs.map (·.2)) (cs.map (·.2))) := by
 refine .same (by simp [h]) fun I w a ho => ?_
 have h1 := aevs_rel ho first.toList fs (fun x hx => by simp [h, Op.operands]; left; simpa using hx) hf (by simpa using hgf)
 have h2 := aevs_rel ho caps.toList cs (fun x hx => by simp [h, Op.operands]; right; simpa using hx) hc (by simpa using hgc)
 exact ⟨.func f (first.map a.eval) (caps.map a.eval), by simp [execOp, h, Instr.makeFunc], .fn _ _ _ _ _ (by simpa using h1) (by simpa using h2)⟩
theorem POp.min2 {x y : Operand} {ts : Array TypeId} {k k' : IntKind} {a b c : Int} {gx gy : Bool} (h : o.op = .call { callee := .builtin .min, args := #[x, y], argTypes := ts }) (hx : aev ρ x = some (gx, .val (.int k a))) (hy : aev ρ y = some (gy, .val (.int k' b))) (hgx : gx = true) (hgy : gy = true)
  (hc : (if b < a then b else a) = c) : POp P H ρ o (.val (.int k c)) := by
 refine .same (by simp [h]) fun I w f ho => ?_
 have h1 := rel_val (ho.get (by simp [h, Op.operands, Call.operands]) hx hgx)
 have h2 := rel_val (ho.get (by simp [h, Op.operands, Call.operands]) hy hgy)
 subst hc
 exact ⟨.int k (if b < a then b else a), by simp [execOp, h, h1, h2, resolve, invoke, builtin, run_min_int2], .val _⟩
theorem POp.max2 {x y : Operand} {ts : Array TypeId} {k k' : IntKind} {a b c : Int} {gx gy : Bool} (h : o.op = .call { callee := .builtin .max, args := #[x, y], argTypes := ts }) (hx : aev ρ x = some (gx, .val (.int k a))) (hy : aev ρ y = some (gy, .val (.int k' b))) (hgx : gx = true) (hgy : gy = true)
  (hc : (if b > a then b else a) = c) : POp P H ρ o (.val (.int k c)) := by
 refine .same (by simp [h]) fun I w f ho => ?_
 have h1 := rel_val (ho.get (by simp [h, Op.operands, Call.operands]) hx hgx)
 have h2 := rel_val (ho.get (by simp [h, Op.operands, Call.operands]) hy hgy)
 subst hc
 exact ⟨.int k (if b > a then b else a), by simp [execOp, h, h1, h2, resolve, invoke, builtin, run_max_int2], .val _⟩
end
def fnOk (P : Program) (f : FuncId) : Bool :=
 match P.funcs[f]? with
 | some fn => fn.body.isSome && !(fn.name == "runtime.NumGoroutine")
 | none => false
def RetP (B : Nat) (I0 : Imm) (w0 : World) (Φ : AV → List Ent → Prop) (E : AV → List Ent → Prop) : Ending → World → Prop := fun e w' =>
 ∃ I' H', WOk B I' w' ∧ Ext B I0 w0 I' w' ∧ HeapOk B I' w' H' ∧
  ((∃ v x, e = .returned v ∧ Rel I' w' x v ∧ Φ x H') ∨ (∃ v x, e = .panicked [{ v, recovered := false }] ∧ Rel I' w' x v ∧ E x H'))
def ACall (P : Program) (f : FuncId) (xs : List AV) (H : List Ent) (Φ : AV → List Ent → Prop) (E : AV → List Ent → Prop) : Prop :=
 fnOk P f = true ∧ ∀ (B : Nat) (I : Imm) (w : World) (vs : List Value), WOk B I w → HeapOk B I w H → RelL I w xs vs → Calls P f vs.toArray w (RetP B I w Φ E)
def PCall (P : Program) (f : FuncId) (xs : List AV) (y : AV) : Prop := ∀ H, ACall P f xs H (fun x H' => x = y ∧ H' = H) (fun _ _ => False)
section
variable {P : Program} {H : List Ent} {ρ : Nat → Option AV} {o : Oper}
theorem run_callFunc {f : FuncId} (h : fnOk P f = true) (args : Array Value) (w : World) : (callFunc f args).run P w = .ok (.enter f args) w := by
 unfold fnOk at h
 split at h
 ·rename_i fn hf
  simp only [Bool.and_eq_true, Bool.not_eq_true'] at h
  obtain ⟨h1, h2⟩ := h
  have h3 : fn.body.isNone = false := by cases hb : fn.body <;> simp_all
  simp only [callFunc, Sem.run_bind, run_program, Result.andThen_ok, hf, h2, h3, Bool.false_eq_true, if_false, Sem.run_pure]
 ·cases h
theorem run_call {x : Operand} {args : Array Operand} {ts : Array TypeId} {f : FuncId} {vf vc : Array Value} (h : o.op = .call { callee := .value x, args := args, argTypes := ts }) (hf : fnOk P f = true) (a : Act) (w : World)
  (hx : a.eval x = .func (.func f) vf vc) : (execOp a.eval o).run P w = .ok (.enter f (vf ++ args.map a.eval ++ vc)) w := by
 simp [execOp, h, resolve, hx, Deferred.ofValue, invoke, run_callFunc hf]
structure CallOk (P : Program) (ρ : Nat → Option AV) (o : Oper) (f : FuncId) (xs : List AV) : Prop where
 run : ∀ (I : Imm) (w : World) (a : Act), OpsOk I w ρ a o → ∃ vs : List Value, RelL I w xs vs ∧ (fnOk P f = true → (execOp a.eval o).run P w = .ok (.enter f vs.toArray) w)
 nodefer : ∀ c, o.op ≠ .defer c
theorem POp.call {f : FuncId} {xs : List AV} {y : AV} (hc : CallOk P ρ o f xs) (h : PCall P f xs y) : POp P H ρ o y := by
 intro B I w r a Hc hw hh hs ho
 obtain ⟨vs, h1, h2⟩ := hc.run I w a ho
 obtain ⟨hok, hcall⟩ := h Hc
 refine Runs.of_enter hc.nodefer (h2 hok) ((hcall B I w vs hw hh h1).mono fun e w' hr => ?_)
 obtain ⟨I', H', hw', he', hh', hr⟩ := hr
 rcases hr with ⟨v, x, rfl, hx, rfl, rfl⟩ | ⟨v, x, rfl, _, hE⟩
 ·exact ⟨I', hw', he', hh', hx⟩
 ·exact hE.elim
end
section
variable {c : Ctx} {r : Option Nat} {P : Program} {ops : Array Oper} {l rest : List Oper} {o : Oper} {st : St} {Q : Exit → Act → World → Prop} {x : AV}
theorem OL.call {f : FuncId} {xs : List AV} {Φ : AV → List Ent → Prop} {E : AV → List Ent → Prop} (hg : o.guard = none) (hd : dstOk c.n o.dst = true) (hc : CallOk P (envGet st.env) o f xs) (h : ACall P f xs st.H Φ E)
  (next : ∀ y H', Φ y H' → OL c r P ops rest ⟨putEnv o.dst y st.env, H'⟩ Q)
  (pan : ∀ y H', E y H' → ∀ a w, Sat c ⟨st.env, H'⟩ a w → ∀ I v, Rel I w y v → Q (.panic [{ v, recovered := false }]) a w) : OL c r P ops (o :: rest) st Q := by
 intro a w s
 refine wpListIn_plain hg fun K hK => ?_
 obtain ⟨I, hw, he, hh, hv⟩ := s.mem
 obtain ⟨vs, h1, h2⟩ := hc.run I w a (hv.ops o)
 obtain ⟨hok, hcall⟩ := h
 refine Runs.of_enter (R := fun v w' => ∃ I' H' x, WOk c.B I' w' ∧ Ext c.B I w I' w' ∧ HeapOk c.B I' w' H' ∧ Rel I' w' x v ∧ Φ x H')
  (E := fun ch w' => ∃ I' H' v x, WOk c.B I' w' ∧ Ext c.B I w I' w' ∧ HeapOk c.B I' w' H' ∧ ch = [{ v, recovered := false }] ∧ Rel I' w' x v ∧ E x H') hc.nodefer (h2 hok) ((hcall c.B I w vs hw hh h1).mono fun e w' hr => ?_) K Q ?_ ?_
 ·obtain ⟨I', H', hw', he', hh', hr⟩ := hr
  rcases hr with ⟨v, x, rfl, hx, hΦ⟩ | ⟨v, x, rfl, hx, hE⟩
  ·exact ⟨I', H', x, hw', he', hh', hx, hΦ⟩
  ·exact ⟨I', H', v, x, hw', he', hh', rfl, hx, hE⟩
 ·rintro v w' ⟨I', H', x, hw', he', hh', hx, hΦ⟩
  refine hK _ _ (next x H' hΦ _ _ ⟨by rw [put_defers]; exact s.ds, by rw [tmps_put_size]; exact s.size, I', hw', he.trans he', hh', ?_⟩)
  exact (hv.keep he'.keeps).put (by rw [s.size]; exact hd) hx
 ·rintro ch w' ⟨I', H', v, x, hw', he', hh', rfl, hx, hE⟩
  exact pan x H' hE a w' ⟨s.ds, s.size, I', hw', he.trans he', hh', hv.keep he'.keeps⟩ I' v hx
def bcells : AV → List AV
 | .agg cs => cs
 | x => [x]
def bOk : AV → Bool
 | .any => false
 | .as x _ => match x with | .sl _ _ => true | .fn _ _ _ => true | .ptr _ => true | .iface _ _ => true | _ => false
 | .opt _ _ => false
 | .val v => v.oneCell'
 | .tup _ => false
 | _ => true
theorem Rel.one {I : Imm} {w : World} {x : AV} {v : Value} (h : Rel I w x v) (hb : bOk x = true) (hx : ∀ cs, x ≠ .agg cs) : v.oneCell' = true := by
 cases h with
 | any => simp [bOk] at hb
 | val v => exact hb
 | sl0 => rfl
 | sl => rfl
 | as y v h =>
  cases h <;> first | rfl | simp [bOk] at hb
 | opt => simp [bOk] at hb
 | agg cs vs h => exact absurd rfl (hx cs)
 | tup => simp [bOk] at hb
 | fn => rfl
 | iface => rfl
 | ptr => rfl
 | e0 => rfl
 | single v h => exact h
theorem cells_one {v : Value} (h : v.oneCell' = true) : v.cells = #[v] := by
 cases v <;> first | rfl | simp [Value.oneCell'] at h
theorem bcells_rel {I : Imm} {w : World} {x : AV} {v : Value} (h : Rel I w x v) (hb : bOk x = true) : RelL I w (bcells x) v.cells.toList := by
 by_cases hx : ∃ cs, x = .agg cs
 ·obtain ⟨cs, rfl⟩ := hx
  cases h with
  | agg _ vs h => exact h
 ·have hn : ∀ cs, x ≠ .agg cs := fun cs e => hx ⟨cs, e⟩
  have h1 := h.one hb hn
  rw [cells_one h1]
  have : bcells x = [x] := by cases x <;> first | rfl | exact absurd rfl (hn _)
  rw [this]
  exact .cons _ _ _ _ h .nil
theorem OL.box {t : TypeId} {z : Operand} {y : AV} {g : Bool} (hgd : o.guard = none) (hd : dstOk c.n o.dst = true) (h : o.op = .box t z) (hz : aev (envGet st.env) z = some (g, y)) (hg : g = true) (hb : bOk y = true)
  (next : ∀ b, OL c r P ops rest ⟨putEnv o.dst (.p b 0) st.env, .blk b t (bcells y) :: st.H⟩ Q) : OL c r P ops (o :: rest) st Q := by
 intro a w s
 refine wpListIn_plain hgd fun K hK => ?_
 obtain ⟨I, hw, he, hh, hv⟩ := s.mem
 have h1 := bcells_rel ((hv.ops o).get (by simp [h, Op.operands]) hz hg) hb
 refine Runs.of_value (R := fun v w' => v = .pointer (some ⟨w.heap.size, 0, none⟩) ∧ w' = w.alloc (.cells (a.eval z).cells t)) (E := fun _ _ => False) (by simp [h])
  (v := .pointer (some ⟨w.heap.size, 0, none⟩)) (w' := w.alloc (.cells (a.eval z).cells t)) (by simp [execOp, h, Instr.box, newVar, newRow]) ⟨rfl, rfl⟩ K Q ?_ (fun _ _ h => h.elim)
 rintro v w' ⟨rfl, rfl⟩
 refine hK _ _ (next w.heap.size _ _ ⟨by rw [put_defers]; exact s.ds, by rw [tmps_put_size]; exact s.size, I, hw.alloc _, he.trans (ext_alloc hw _), hh.new hw t _ _ h1, ?_⟩)
 exact (hv.keep (keeps_alloc hw _)).put (by rw [s.size]; exact hd) (.val _)
def zeroCells (P : Program) (t : TypeId) : Option (List Value) := ((P.info? t).bind (·.zero)).map fun v => v.cells.toList
theorem OL.alloc {t : TypeId} {zs : List Value} (hgd : o.guard = none) (hd : dstOk c.n o.dst = true) (h : o.op = .alloc t) (hz : zeroCells P t = some zs)
  (next : ∀ b, OL c r P ops rest ⟨putEnv o.dst (.p b 0) st.env, .blk b t (zs.map .val) :: st.H⟩ Q) : OL c r P ops (o :: rest) st Q := by
 intro a w s
 refine wpListIn_plain hgd fun K hK => ?_
 obtain ⟨I, hw, he, hh, hv⟩ := s.mem
 unfold zeroCells at hz
 cases hi : P.info? t with
 | none => simp [hi] at hz
 | some inf =>
  cases hzz : inf.zero with
  | none => simp [hi, hzz] at hz
  | some z =>
   simp [hi, hzz] at hz
   have h1 : RelL I w (zs.map .val) z.cells.toList := by rw [hz]; exact relL_val zs
   refine Runs.of_value (R := fun v w' => v = .pointer (some ⟨w.heap.size, 0, none⟩) ∧ w' = w.alloc (.cells z.cells t)) (E := fun _ _ => False) (by simp [h])
    (v := .pointer (some ⟨w.heap.size, 0, none⟩)) (w' := w.alloc (.cells z.cells t)) (by simp [execOp, h, Instr.alloc, newVar, newRow, zeroValue, typeInfo, hi, hzz]) ⟨rfl, rfl⟩ K Q ?_ (fun _ _ h => h.elim)
   rintro v w' ⟨rfl, rfl⟩
   refine hK _ _ (next w.heap.size _ _ ⟨by rw [put_defers]; exact s.ds, by rw [tmps_put_size]; exact s.size, I, hw.alloc _, he.trans (ext_alloc hw _), hh.new hw t _ _ h1, ?_⟩)
   exact (hv.keep (keeps_alloc hw _)).put (by rw [s.size]; exact hd) (.val _)
inductive Upd : List Ent → Ent → Ent → List Ent → Prop
 | head (e e' : Ent) (H : List Ent) : Upd (e :: H) e e' (e' :: H)
 | tail (f e e' : Ent) (H H' : List Ent) (h : Upd H e e' H') : Upd (f :: H) e e' (f :: H')
theorem Upd.mem {H H' : List Ent} {e e' : Ent} (h : Upd H e e' H') : e ∈ H := by
 induction h with
 | head => exact .head _
 | tail _ _ _ _ _ _ ih => exact .tail _ ih
theorem Upd.foot {H H' : List Ent} {e e' : Ent} (h : Upd H e e' H') : ∀ f ∈ H', f = e' ∨ f ∈ H := by
 induction h with
 | head => intro f hf; rcases List.mem_cons.1 hf with rfl | h; exact .inl rfl; exact .inr (.tail _ h)
 | tail g _ _ _ _ _ ih =>
  intro f hf
  rcases List.mem_cons.1 hf with rfl | h
  ·exact .inr (.head _)
  ·rcases ih f h with h | h
   ·exact .inl h
   ·exact .inr (.tail _ h)
theorem HeapOk.upd {B : Nat} {I I' : Imm} {w w' : World} {H H' : List Ent} {e e' : Ent} (h : HeapOk B I w H) (hu : Upd H e e' H') (hk : Keeps I w I' w')
  (hblk : ∀ b, b < w.heap.size → e.foot ≠ some b → w'.heap[b]? = w.heap[b]?) (himm : ∀ b o, I' b o → I b o ∨ e.foot = some b ∨ w.heap.size ≤ b)
  (hok : e'.ok B I' w') (hft : ∀ b, e'.foot = some b → e.foot = some b ∨ w.heap.size ≤ b) : HeapOk B I' w' H' := by
 have keep : ∀ f : Ent, f.ok B I w → (∀ b, f.foot = some b → e.foot ≠ some b) → f.ok B I' w' := fun f hf hne =>
  Ent.keep hf hk (fun b hb => hblk b (Ent.foot_lt hf hb).2 (hne b hb)) (fun b hb o ho => by
   rcases himm b o ho with h | h | h
   ·exact h
   ·exact absurd h (hne b hb)
   ·exact absurd (Ent.foot_lt hf hb).2 (Nat.not_lt.2 h))
 induction hu with
 | head e e' H =>
  obtain ⟨h1, h2⟩ := List.pairwise_cons.1 h.apart
  refine ⟨fun f hf => ?_, List.pairwise_cons.2 ⟨fun f hf b hb hfb => ?_, h2⟩⟩
  ·rcases List.mem_cons.1 hf with rfl | hf
   ·exact hok
   ·exact keep f (h.ok f (.tail _ hf)) (fun b hb he => h1 f hf b he hb)
  ·rcases hft b hb with h3 | h3
   ·exact h1 f hf b h3 hfb
   ·exact absurd (Ent.foot_lt (h.ok f (.tail _ hf)) hfb).2 (Nat.not_lt.2 h3)
 | tail f e e' H H' hu ih =>
  obtain ⟨h1, h2⟩ := List.pairwise_cons.1 h.apart
  have ih' := ih h.tail hblk himm hok hft keep
  have hne : ∀ b, f.foot = some b → e.foot ≠ some b := fun b hb he => h1 e hu.mem b hb he
  refine ⟨fun g hg => ?_, List.pairwise_cons.2 ⟨fun g hg b hb hgb => ?_, ih'.apart⟩⟩
  ·rcases List.mem_cons.1 hg with rfl | hg
   ·exact keep g (h.ok g (.head _)) hne
   ·exact ih'.ok g hg
  ·rcases hu.foot g hg with rfl | hg'
   ·rcases hft b hgb with h3 | h3
    ·exact hne b hb h3
    ·exact absurd (Ent.foot_lt (h.ok f (.head _)) hb).2 (Nat.not_lt.2 h3)
   ·exact h1 g hg' b hb hgb
def allOne (ys : List AV) : Bool := ys.all fun y => bOk y && (match y with | .agg _ => false | _ => true)
theorem relL_one {I : Imm} {w : World} : ∀ {ys : List AV} {vs : List Value}, RelL I w ys vs → allOne ys = true → ∀ v ∈ vs, v.oneCell' = true
 | _, _, .nil, _, v, hv => by cases hv
 | _, _, .cons y u ys vs h t, ha, v, hv => by
  simp only [allOne, List.all_cons, Bool.and_eq_true] at ha
  rcases List.mem_cons.1 hv with rfl | hv
  ·exact h.one ha.1.1 (fun cs e => by subst e; simp at ha)
  ·exact relL_one t ha.2 v hv
theorem OL.store {t tb : TypeId} {p z : Operand} {y : AV} {gp g : Bool} {b off : Nat} {cs : List AV} {H' : List Ent} {agg : Bool} (hgd : o.guard = none) (hd : dstOk c.n o.dst = true) (h : o.op = .store t p z)
  (hp : aev (envGet st.env) p = some (gp, .p b off)) (hgp : gp = true) (hz : aev (envGet st.env) z = some (g, y)) (hg : g = true) (hb : bOk y = true) (h1 : allOne (bcells y) = true)
  (ht : tyInfo P t = some (agg, (bcells y).length)) (hfit : Nat.ble (off + (bcells y).length) cs.length = true)
  (hu : Upd st.H (.blk b tb cs) (.blk b tb (cs.take off ++ bcells y ++ cs.drop (off + (bcells y).length))) H')
  (next : OL c r P ops rest ⟨putEnv o.dst .any st.env, H'⟩ Q) : OL c r P ops (o :: rest) st Q := by
 intro a w s
 refine wpListIn_plain hgd fun K hK => ?_
 obtain ⟨I, hw, he, hh, hv⟩ := s.mem
 have hpv := rel_val ((hv.ops o).get (by simp [h, Op.operands]) hp hgp)
 have hzv := bcells_rel ((hv.ops o).get (by simp [h, Op.operands]) hz hg) hb
 obtain ⟨hB, vs, hblk, hrel, hni⟩ := hh.ok _ hu.mem
 have hone := relL_one hzv h1
 have hlen : (a.eval z).cells.toList.length = (bcells y).length := hzv.length
 have hcl : vs.size = cs.length := by have := hrel.length; simpa using this
 have hfit' : off + 0 + (a.eval z).cells.toList.length ≤ vs.size := by
  have := Nat.le_of_ble_eq_true hfit
  rw [hlen, hcl]; omega
 have hrun := run_storeCells_at P b off tb (a.eval z).cells.toList 0 vs w hblk hfit' hone
 obtain ⟨_, hsz⟩ := tyInfo_run ht w
 generalize hcur : (vs.toList.take (off + 0) ++ (a.eval z).cells.toList ++ vs.toList.drop (off + 0 + (a.eval z).cells.toList.length)).toArray = cur at hrun
 have hsize : (a.eval z).cells.size = (bcells y).length := by simpa using hlen
 have hexec : (execOp a.eval o).run P w = .ok .skip (w.setRow b cur) := by
  simp [execOp, h, Instr.storeAt, hpv, Instr.sureAddr, storeVar, hsz, hsize, hrun]
 have hkeep : Keeps I w I (w.setRow b cur) := ⟨fun _ _ x => x, fun b' o' hI => by
  have hne : b' ≠ b := fun e => by subst e; exact hni o' hI
  exact World.cell?_of_block (a := ⟨b', o', none⟩) (setRow_other w b b' cur hne)⟩
 have hext : Ext c.B I w I (w.setRow b cur) := ⟨hkeep.imm, hkeep.cell, ⟨rfl, rfl, rfl, by simp, fun k hk => setRow_other w b k cur (by omega)⟩⟩
 have hw' : WOk c.B I (w.setRow b cur) := ⟨by simpa using hw.base, fun b' o' hI => by rw [hkeep.cell b' o' hI]; exact hw.there b' o' hI⟩
 have hrel' : RelL I w (cs.take off ++ bcells y ++ cs.drop (off + (bcells y).length)) cur.toList := by
  rw [← hcur]
  simp only [Nat.add_zero, hlen]
  exact ((hrel.take off).append hzv).append (hrel.drop _)
 have hh' : HeapOk c.B I (w.setRow b cur) H' := by
  refine hh.upd hu hkeep (fun k hk hne => setRow_other w b k cur (fun e => hne (by subst e; rfl))) (fun _ _ x => .inl x) ?_ (fun k hk => .inl hk)
  exact ⟨hB, cur, setRow_heap w b vs cur tb (0, 0) hblk, hrel'.keep hkeep, hni⟩
 refine Runs.of_skip (R := fun v w' => v = undef ∧ w' = w.setRow b cur) (E := fun _ _ => False) (by simp [h]) hexec ⟨rfl, rfl⟩ K Q ?_ (fun _ _ h => h.elim)
 rintro v w' ⟨rfl, rfl⟩
 refine hK _ _ (next _ _ ⟨by rw [put_defers]; exact s.ds, by rw [tmps_put_size]; exact s.size, I, hw', he.trans hext, hh', ?_⟩)
 exact (hv.keep hkeep).put (by rw [s.size]; exact hd) (.any _)
theorem ACall.of {f : FuncId} {fn : Func} {code : Code} {xs : List AV} {H : List Ent} {Φ : AV → List Ent → Prop} {E : AV → List Ent → Prop} {n : Nat} (hf : P.funcs[f]? = some fn) (hb : fn.body = some code) (hnm : (fn.name == "runtime.NumGoroutine") = false)
  (hn : fn.ntmps = n) (env : List (Nat × AV)) (henv : ∀ t y, envGet env t = some y → xs[t]? = some y) (hl : xs.length ≤ n)
  (h : ∀ B I w, CW ⟨B, I, w, n, []⟩ none P code ⟨env, H⟩ (bodyPost P fn (RetP B I w Φ E))) : ACall P f xs H Φ E := by
 refine ⟨by simp [fnOk, hf, hb, hnm], fun B I w vs hw hh hv => calls_of_FW (n := 0) (callsIn_of_wp hf hb trivial ?_ rfl)⟩
 refine h B I w _ w ⟨rfl, ?_, I, hw, Ext.refl _ _ _, hh, fun t y hy => ?_⟩
 ·have := hv.length
  simp; omega
 ·obtain ⟨v, h1, h2⟩ := hv.get (henv t y hy)
  have : (vs.toArray ++ Array.replicate (fn.ntmps - vs.toArray.size) undef).getD t undef = v := by
   have hlt := (List.getElem?_eq_some_iff.1 h1).1
   simp only [Array.getD_eq_getD_getElem?]
   rw [Array.getElem?_append_left (by simpa using hlt)]
   simp [h1]
  rw [this]; exact h2
end
def deps (o : Oper) : List Nat := o.after.toList.filterMap fun e => if Region.binds .any e then some e.on else none
def maskOf (acc : List Nat) (o : Oper) : Nat := (deps o).foldl (fun s j => s ||| 2 ^ j ||| acc.getD j 0) 0
def masks : List Oper → List Nat → List Nat
 | [], acc => acc
 | o :: r, acc => masks r (acc ++ [maskOf acc o])
theorem fold_mask (acc : List Nat) : ∀ (l : List Nat) (s j : Nat), (l.foldl (fun s j => s ||| 2 ^ j ||| acc.getD j 0) s).testBit j = true → s.testBit j = true ∨ ∃ k ∈ l, j = k ∨ (acc.getD k 0).testBit j = true
 | [], s, j, h => .inl h
 | k :: l, s, j, h => by
  rcases fold_mask acc l _ j h with h | ⟨k', hk, h⟩
  ·simp only [Nat.testBit_or, Bool.or_eq_true, Nat.testBit_two_pow, decide_eq_true_eq] at h
   rcases h with (h | h) | h
   ·exact .inl h
   ·exact .inr ⟨k, by simp, .inl h.symm⟩
   ·exact .inr ⟨k, by simp, .inr h⟩
  ·exact .inr ⟨k', by simp [hk], h⟩
def Closed (ops : List Oper) (L : Nat → Prop) : Prop := ∀ i o, L i → ops[i]? = some o → ∀ j ∈ deps o, L j
theorem masks_spec (ops : List Oper) (L : Nat → Prop) (hL : Closed ops L) : ∀ (l : List Oper) (acc : List Nat), acc.length + l.length = ops.length → (∀ k, l[k]? = ops[acc.length + k]?) →
  (∀ (i m : Nat) (o : Oper), acc[i]? = some m → ops[i]? = some o → (∀ k ∈ deps o, L k) → ∀ j, m.testBit j = true → L j) →
  ∀ (i m : Nat) (o : Oper), (masks l acc)[i]? = some m → ops[i]? = some o → (∀ k ∈ deps o, L k) → ∀ j, m.testBit j = true → L j
 | [], acc, _, _, h => h
 | o :: l, acc, hlen, hl, h => by
  refine masks_spec ops L hL l (acc ++ [maskOf acc o]) (by simp at hlen ⊢; omega) (fun k => ?_) ?_
  ·have := hl (k + 1)
   simp at this
   rw [this]; congr 1; simp; omega
  ·intro i m o' hi ho hd j hj
   by_cases hlt : i < acc.length
   ·rw [List.getElem?_append_left hlt] at hi
    exact h i m o' hi ho hd j hj
   ·have hi' : i = acc.length := by
     have := (List.getElem?_eq_some_iff.1 hi).1
     simp at this; omega
    subst hi'
    rw [List.getElem?_append_right (Nat.le_refl _)] at hi
    simp at hi; subst hi
    have ho' : o' = o := by
     have hh := hl 0
     simp at hh
     rw [← hh] at ho
     exact (Option.some.inj ho).symm
    subst ho'
    rcases fold_mask acc (deps o') 0 j hj with h0 | ⟨k, hk, h0⟩
    ·simp at h0
    ·rcases h0 with rfl | h0
     ·exact hd j hk
     ·cases hak : acc[k]? with
      | none => simp [List.getD, hak] at h0
      | some mk =>
       simp [List.getD, hak] at h0
       have hkl := (List.getElem?_eq_some_iff.1 hak).1
       have hok : ∃ ok, ops[k]? = some ok := ⟨ops[k]'(by omega), List.getElem?_eq_getElem (by omega)⟩
       obtain ⟨ok, hok⟩ := hok
       exact h k mk ok hak hok (fun k' hk' => hL k ok (hd k hk) hok k' hk') j h0
def looks (ops : List Oper) (o : Oper) : List Nat :=
 (o.op.operands.toList.filterMap fun | .tmp t => some t | _ => none) ++ (match o.guard with | some (g, _) => ((ops[g]?).bind (·.dst)).toList | none => [])
def drawChk (l : List Oper) (m : Nat) : Bool :=
 let ms := masks l []
 (l.zipIdx.all fun p => (deps p.1).all fun j => Nat.blt j p.2) &&
 (l.zipIdx.all fun p => Nat.blt p.2 m || (List.range p.2).all fun j => (ms.getD p.2 0).testBit j) &&
 ((l.take m).zipIdx.all fun p => l.zipIdx.all fun q => match q.1.dst with
  | some d => (Nat.beq p.2 q.2 || !(match p.1.dst with | some d' => Nat.beq d d' | none => false)) && (!((looks l p.1).any (Nat.beq d)) || (Nat.blt q.2 p.2 && (ms.getD p.2 0).testBit q.2))
  | none => true)
structure DrawOk (l : List Oper) (m : Nat) : Prop where
 back : ∀ i o, l[i]? = some o → ∀ j ∈ deps o, j < i
 tail : ∀ i, m ≤ i → i < l.length → ∀ j, j < i → ((masks l []).getD i 0).testBit j = true
 apart : ∀ i oi j oj d, i < m → l[i]? = some oi → l[j]? = some oj → oj.dst = some d → i ≠ j → oi.dst ≠ some d
 looked : ∀ i oi j oj d, i < m → l[i]? = some oi → l[j]? = some oj → oj.dst = some d → d ∈ looks l oi → j < i ∧ ((masks l []).getD i 0).testBit j = true
theorem mem_zipIdx_of {α : Type} {l : List α} {i : Nat} {x : α} (h : l[i]? = some x) : (x, i) ∈ l.zipIdx := by
 rw [List.mem_zipIdx_iff_getElem?]; exact h
theorem drawOk_of {l : List Oper} {m : Nat} (h : drawChk l m = true) : DrawOk l m := by
 simp only [drawChk, Bool.and_eq_true, List.all_eq_true] at h
 obtain ⟨⟨h1, h2⟩, h3⟩ := h
 have key : ∀ i oi j oj d, i < m → l[i]? = some oi → l[j]? = some oj → oj.dst = some d → (i = j ∨ oi.dst ≠ some d) ∧ (d ∈ looks l oi → j < i ∧ ((masks l []).getD i 0).testBit j = true) := by
  intro i oi j oj d hi hoi hoj hd
  have hti : (l.take m)[i]? = some oi := by rw [List.getElem?_take, if_pos hi]; exact hoi
  have := h3 _ (mem_zipIdx_of hti) _ (mem_zipIdx_of hoj)
  simp only [hd, Bool.and_eq_true, Bool.or_eq_true, Bool.not_eq_true'] at this
  obtain ⟨ha, hb⟩ := this
  refine ⟨?_, fun hm => ?_⟩
  ·rcases ha with ha | ha
   ·exact .inl (Nat.eq_of_beq_eq_true ha)
   ·refine .inr fun e => ?_
    rw [e] at ha
    simp at ha
  ·rcases hb with hb | hb
   ·exfalso
    rw [List.any_eq_false] at hb
    exact hb d hm (by simp)
   ·exact ⟨Nat.lt_of_succ_le (by simpa [Nat.blt] using hb.1), hb.2⟩
 refine ⟨fun i o ho j hj => ?_, fun i hi hl j hj => ?_, fun i oi j oj d hi hoi hoj hd hne => ?_, fun i oi j oj d hi hoi hoj hd hm => (key i oi j oj d hi hoi hoj hd).2 hm⟩
 ·have := h1 _ (mem_zipIdx_of ho) j hj
  exact Nat.lt_of_succ_le (by simpa [Nat.blt] using this)
 ·have := h2 _ (mem_zipIdx_of (List.getElem?_eq_getElem hl))
  simp only [Bool.or_eq_true] at this
  rcases this with h | h
  ·have : i < m := Nat.lt_of_succ_le (by simpa [Nat.blt] using h)
   omega
  ·rw [List.all_eq_true] at h
   exact h j (by simpa using hj)
 ·rcases (key i oi j oj d hi hoi hoj hd).1 with h | h
  ·exact absurd h hne
  ·exact h
def AOk (P : Program) (H : List Ent) (ops : List Oper) (env : List (Nat × AV)) (o : Oper) (y : AV) : Prop :=
 (o.guard = none ∧ POp P H (envGet env) o y) ∨
 (∃ j want d G x, o.guard = some (j, want) ∧ (ops[j]?).bind (·.dst) = some d ∧ mkG (envGet env d) want = some G ∧ (G = true → POp P H (envGet env) o x) ∧ y = .opt G x)
def AD (P : Program) (H : List Ent) (ops : List Oper) (n : Nat) : List Oper → List (Nat × AV) → (List (Nat × AV) → Prop) → Prop
 | [], env, K => K env
 | o :: rest, env, K => ∃ x, AOk P H ops env o x ∧ dstOk n o.dst = true ∧ AD P H ops n rest (putEnv o.dst x env) K
def puts : List (Nat × AV) → List Oper → List AV → List (Nat × AV)
 | env, o :: r, x :: xs => puts (putEnv o.dst x env) r xs
 | env, _, _ => env
theorem AD_spec {P : Program} {H : List Ent} {ops : List Oper} {n : Nat} : ∀ (l : List Oper) (env : List (Nat × AV)) (K : List (Nat × AV) → Prop), AD P H ops n l env K →
  ∃ xs : List AV, xs.length = l.length ∧ K (puts env l xs) ∧ ∀ i o x, l[i]? = some o → xs[i]? = some x → AOk P H ops (puts env (l.take i) (xs.take i)) o x ∧ dstOk n o.dst = true
 | [], env, K, h => ⟨[], rfl, h, by simp⟩
 | o :: l, env, K, ⟨x, h1, h2, h3⟩ => by
  obtain ⟨xs, hl, hK, hx⟩ := AD_spec l _ K h3
  refine ⟨x :: xs, by simp [hl], hK, fun i o' x' ho' hx' => ?_⟩
  cases i with
  | zero =>
   simp at ho' hx'
   subst ho'; subst hx'
   exact ⟨h1, h2⟩
  | succ i =>
   simp at ho' hx'
   exact hx i o' x' ho' hx'
theorem envGet_putEnv {dst : Option Nat} {x : AV} {env : List (Nat × AV)} {t : Nat} : envGet (putEnv dst x env) t = if dst = some t then some x else envGet env t := by
 cases dst with
 | none => simp [putEnv]
 | some d =>
  simp only [putEnv, envGet_cons, Option.some.injEq]
  by_cases h : t = d
  ·subst h; simp
  ·rw [if_neg h, if_neg (Ne.symm h)]
theorem puts_other : ∀ (l : List Oper) (xs : List AV) (env : List (Nat × AV)) (t : Nat), (∀ (i : Nat) (o : Oper), l[i]? = some o → o.dst ≠ some t) → envGet (puts env l xs) t = envGet env t
 | [], _, _, _, _ => by simp [puts]
 | o :: l, [], _, _, _ => by simp [puts]
 | o :: l, x :: xs, env, t, h => by
  rw [puts, puts_other l xs _ t (fun i o' ho' => h (i + 1) o' (by simpa using ho')), envGet_putEnv, if_neg (h 0 o (by simp))]
theorem puts_at : ∀ (l : List Oper) (xs : List AV) (env : List (Nat × AV)) (i t : Nat) (o : Oper) (x : AV), l[i]? = some o → xs[i]? = some x → o.dst = some t → (∀ j o', l[j]? = some o' → o'.dst = some t → j = i) → envGet (puts env l xs) t = some x
 | [], _, _, i, _, _, _, h, _, _, _ => by simp at h
 | o :: l, [], _, i, _, _, _, _, h, _, _ => by simp at h
 | o :: l, y :: xs, env, 0, t, o', x, ho, hx, hd, hu => by
  simp at ho hx; subst ho; subst hx
  rw [puts, puts_other l xs _ t (fun i o' ho' e => by have := hu (i + 1) o' (by simpa using ho') e; omega), envGet_putEnv, if_pos hd]
 | o :: l, y :: xs, env, i + 1, t, o', x, ho, hx, hd, hu => by
  rw [puts]
  exact puts_at l xs _ i t o' x (by simpa using ho) (by simpa using hx) hd (fun j o2 h2 e => by have := hu (j + 1) o2 (by simpa using h2) e; omega)
theorem puts_split : ∀ (i : Nat) (l : List Oper) (xs : List AV) (env : List (Nat × AV)), xs.length = l.length → puts env l xs = puts (puts env (l.take i) (xs.take i)) (l.drop i) (xs.drop i)
 | 0, l, xs, env, _ => by simp [puts]
 | i + 1, [], xs, env, h => by simp [puts]
 | i + 1, o :: l, [], env, h => by simp at h
 | i + 1, o :: l, x :: xs, env, h => by
  simp only [List.take_succ_cons, List.drop_succ_cons, puts]
  exact puts_split i l xs _ (by simpa using h)
theorem POp.congr {P : Program} {H : List Ent} {ρ ρ' : Nat → Option AV} {o : Oper} {x : AV} (h : POp P H ρ o x) (he : ∀ t, .tmp t ∈ o.op.operands.toList → ρ t = ρ' t) : POp P H ρ' o x := by
 intro B I w r a Hc hw hh hs ho
 refine h B I w r a Hc hw hh hs (fun y hy z hz => ho y hy z ?_)
 cases y with
 | tmp t => rw [← hz]; exact (he t (by simpa using hy)).symm
 | _ => exact hz
theorem mem_looks {l : List Oper} {o : Oper} {t : Nat} (h : .tmp t ∈ o.op.operands.toList) : t ∈ looks l o :=
 List.mem_append_left _ (List.mem_filterMap.2 ⟨.tmp t, h, rfl⟩)
theorem AOk.run {c : Ctx} {r : Option Nat} {P : Program} {l : List Oper} {H : List Ent} {env : List (Nat × AV)} {o : Oper} {y : AV} {Q : Exit → Act → World → Prop} (h : AOk P H l env o y) {i : Nat} (hi : l[i]? = some o)
  {a : Act} {w : World} {I : Imm} (hw : WOk c.B I w) (hh : HeapOk c.B I w H) (hv : ∀ t ∈ looks l o, ∀ z, envGet env t = some z → Rel I w z (a.tmps.getD t undef)) (hn : ∀ t ∈ looks l o, t < a.tmps.size)
  {K : Act → World → Prop} (hK : ∀ v w' I', WOk c.B I' w' → Ext c.B I w I' w' → HeapOk c.B I' w' H → Rel I' w' y v → K (a.put o.dst v) w') : wpOpIn (FW r) 0 P l.toArray Q i K a w := by
 have hops : OpsOk I w (envGet env) a o := fun x hx z hz => by
  cases x with
  | tmp t => exact hv t (mem_looks (by simpa using hx)) z hz
  | const v => simp [aeval] at hz; subst hz; exact rel_const v
  | global g => simp [aeval] at hz; subst hz; exact .val _
  | func f => simp [aeval] at hz; subst hz; exact .fn _ _ _ _ _ .nil .nil
 have hio : l.toArray[i]? = some o := by simpa using hi
 unfold wpOpIn
 simp only [hio]
 rcases h with ⟨hg, hp⟩ | ⟨j, want, d, G, x, hg, hj, hG, hp, rfl⟩
 ·have hwant : Region.wanted o (yielded l.toArray a.tmps) = true := by simp [Region.wanted, hg]
  rw [if_pos hwant]
  exact hp c.B I w r a H hw hh (fun _ x => x) hops K Q (fun v w' ⟨I', h1, h2, h3, h4⟩ => hK v w' I' h1 h2 h3 h4) (fun _ _ h => h.elim)
 ·have hdl : d ∈ looks l o := List.mem_append_right _ (by simp [hg, hj])
  have hwant := mkG_wanted (ops := l.toArray) (I := I) (w := w) (a := a) (o := o) (j := j) (d := d) (y := envGet env d) (by simpa using hj) hg (fun z hz => hv d hdl z hz) hG (hn d hdl)
  rw [hwant]
  cases G with
  | true =>
   rw [if_pos rfl]
   exact hp rfl c.B I w r a H hw hh (fun _ x => x) hops K Q (fun v w' ⟨I', h1, h2, h3, h4⟩ => hK v w' I' h1 h2 h3 (.opt _ _ _ (fun _ => h4) (fun e => by cases e))) (fun _ _ h => h.elim)
  | false =>
   rw [if_neg (by simp)]
   exact ⟨fun _ _ => trivial, hK undef w I hw (Ext.refl _ _ _) hh (.opt _ _ _ (fun e => by cases e) (fun _ => rfl))⟩
theorem getD_set (listed : Array Bool) (i j : Nat) (h : i < listed.size) : (listed.setIfInBounds i true).getD j false = if i = j then true else listed.getD j false := by
 by_cases e : i = j
 ·subst e; simp [Array.getD, h]
 ·rw [if_neg e]; exact getD_set_ne false e
theorem getD_true_iff {listed : Array Bool} {j : Nat} (h : j < listed.size) (d : Bool) : listed.getD j d = listed.getD j false := by
 simp [Array.getD, h]
theorem CW.draw {c : Ctx} {r : Option Nat} {P : Program} {id : Nat} {l : List Oper} {st : St} {Q : Exit → Act → World → Prop} (m : Nat) (hm : P.follows .mixedOrders = true) (hchk : drawChk l m = true) (hml : m ≤ l.length)
  (h : AD P st.H l c.n (l.take m) st.env fun env => OL c r P l.toArray (l.drop m) ⟨env, st.H⟩ Q) (hlk : (l.all fun o => (looks l o).all fun t => Nat.blt t c.n) = true) : CW c r P (.region id l.toArray true) st Q := by
 have ok := drawOk_of hchk
 obtain ⟨xs, hxl, htail, hspec⟩ := AD_spec _ _ _ h
 have hxm : xs.length = m := by rw [hxl, List.length_take]; exact Nat.min_eq_left hml
 generalize hF : puts st.env (l.take m) xs = envF at htail
 have takeAt : ∀ (i : Nat) (o : Oper), (l.take m)[i]? = some o ↔ i < m ∧ l[i]? = some o := by
  intro i o
  rw [List.getElem?_take]
  by_cases hi : i < m
  ·rw [if_pos hi]; simp [hi]
  ·rw [if_neg hi]; simp [hi]
 have hlook : ∀ (i : Nat) (o : Oper), l[i]? = some o → ∀ t ∈ looks l o, t < c.n := by
  intro i o ho t ht
  simp only [List.all_eq_true] at hlk
  have := hlk o (List.mem_of_getElem? ho) t ht
  exact Nat.lt_of_succ_le (by simpa [Nat.blt] using this)
 have fin : ∀ (i : Nat) (o : Oper) (x : AV), i < m → l[i]? = some o → xs[i]? = some x → AOk P st.H l envF o x ∧ dstOk c.n o.dst = true := by
  intro i o x hi ho hx
  obtain ⟨h1, h2⟩ := hspec i o x ((takeAt i o).2 ⟨hi, ho⟩) hx
  refine ⟨?_, h2⟩
  have same : ∀ t ∈ looks l o, envGet (puts st.env ((l.take m).take i) (xs.take i)) t = envGet envF t := by
   intro t ht
   rw [← hF, puts_split i (l.take m) xs st.env hxl]
   symm
   apply puts_other
   intro j o' ho' e
   rw [List.getElem?_drop] at ho'
   obtain ⟨hj, hoj⟩ := (takeAt _ _).1 ho'
   have := (ok.looked i o (i + j) o' t hi ho hoj e ht).1
   omega
  rcases h1 with ⟨hg, hp⟩ | ⟨j, want, d, G, y, hg, hj, hG, hp, rfl⟩
  ·exact .inl ⟨hg, hp.congr fun t ht => same t (mem_looks ht)⟩
  ·have hdl : d ∈ looks l o := List.mem_append_right _ (by simp [hg, hj])
   exact .inr ⟨j, want, d, G, y, hg, hj, by rw [← same d hdl]; exact hG, fun e => (hp e).congr fun t ht => same t (mem_looks ht), rfl⟩
 have finAt : ∀ (i : Nat) (o : Oper) (x : AV) (t : Nat), i < m → l[i]? = some o → xs[i]? = some x → o.dst = some t → envGet envF t = some x := by
  intro i o x t hi ho hx hd
  rw [← hF]
  refine puts_at (l.take m) xs st.env i t o x ((takeAt i o).2 ⟨hi, ho⟩) hx hd (fun j o' ho' e => ?_)
  obtain ⟨hj, hoj⟩ := (takeAt _ _).1 ho'
  rcases Nat.decEq j i with hne | he
  ·exact absurd hd (ok.apart i o j o' t hi ho hoj e (Ne.symm hne))
  ·exact he
 have finOther : ∀ t, (∀ (i : Nat) (o : Oper), i < m → l[i]? = some o → o.dst ≠ some t) → envGet envF t = envGet st.env t := by
  intro t ht
  rw [← hF]
  exact puts_other _ _ _ _ fun i o ho => let ⟨h1, h2⟩ := (takeAt i o).1 ho; ht i o h1 h2
 intro a w s
 refine wpIn_region_any hm ?_
 show wpAnyIn (FW r) 0 P .any l.toArray Q l.toArray.size (Array.replicate l.toArray.size false) a w.drew
 have main : ∀ (fuel : Nat) (listed : Array Bool) (a : Act) (w : World) (I : Imm), listed.size = l.length → (fuel = (List.range l.length).countP fun i => !listed.getD i false) → Closed l (fun i => listed.getD i false = true) →
   (∀ i, listed.getD i false = true → i < m) → a.defers = c.ds → a.tmps.size = c.n → WOk c.B I w → Ext c.B c.I0 c.w0 I w → HeapOk c.B I w st.H →
   (∀ t x, envGet envF t = some x → (∀ (i : Nat) (o : Oper), i < m → l[i]? = some o → o.dst = some t → listed.getD i false = true) → Rel I w x (a.tmps.getD t undef)) →
   wpAnyIn (FW r) 0 P .any l.toArray Q fuel listed a w := by
  intro fuel
  induction fuel with
  | zero =>
   intro listed a w I hsz hf hcl hlm hd hts hw he hh hv
   have hall : ∀ i, i < l.length → listed.getD i false = true := by
    intro i hi
    have := List.countP_eq_zero.1 hf.symm i (by simpa using hi)
    simpa using this
   have hml' : m = l.length := by
    rcases Nat.lt_or_ge m l.length with h1 | h1
    ·exact absurd (hlm m (hall m h1)) (Nat.lt_irrefl _)
    ·omega
   refine ⟨?_, ?_⟩
   ·cases hr : Region.ready .any l.toArray listed with
    | nil => rfl
    | cons i rs =>
     exfalso
     have hi : i ∈ Region.ready .any l.toArray listed := by rw [hr]; simp
     obtain ⟨h1, o, h2, _⟩ := mem_ready.1 hi
     have hlt : i < l.length := by
      have := (Array.getElem?_eq_some_iff.1 h2).1
      simpa using this
     rw [getD_true_iff (by omega)] at h1
     rw [hall i hlt] at h1; cases h1
   ·have hs : Sat c ⟨envF, st.H⟩ a w := ⟨hd, hts, I, hw, he, hh, fun t x hx => hv t x hx (fun i o hi _ _ => hall i (by omega))⟩
    have := htail a w hs
    rw [show l.drop m = [] by rw [hml']; simp] at this
    exact this
  | succ fuel ih =>
   intro listed a w I hsz hf hcl hlm hd hts hw he hh hv
   by_cases hD : ∀ i, i < m → listed.getD i false = true
   ·-- the tail
    have hs : Sat c ⟨envF, st.H⟩ a w := ⟨hd, hts, I, hw, he, hh, fun t x hx => hv t x hx (fun i o hi _ _ => hD i hi)⟩
    have ht := htail a w hs
    have tail : ∀ (k fuel : Nat) (listed : Array Bool) (a : Act) (w : World), listed.size = l.length → k ≤ l.length → m ≤ k → (∀ i, listed.getD i false = true ↔ i < k) → l.length - k ≤ fuel →
      wpListIn (FW r) 0 P l.toArray Q (l.drop k) a w → wpAnyIn (FW r) 0 P .any l.toArray Q fuel listed a w := by
     intro k
     induction hk : l.length - k generalizing k with
     | zero =>
      intro fuel listed a w hsz hkl hmk hli hfu hwp
      have hkl' : k = l.length := by omega
      have hr : Region.ready .any l.toArray listed = [] := by
       cases hr : Region.ready .any l.toArray listed with
       | nil => rfl
       | cons i rs =>
        exfalso
        have hi : i ∈ Region.ready .any l.toArray listed := by rw [hr]; simp
        obtain ⟨h1, o, h2, _⟩ := mem_ready.1 hi
        have hlt : i < l.length := by
         have := (Array.getElem?_eq_some_iff.1 h2).1
         simpa using this
        rw [getD_true_iff (by omega), (hli i).2 (by omega)] at h1; cases h1
      rw [show l.drop k = [] by rw [hkl']; simp] at hwp
      exact wpAnyIn_done hr hwp fuel
     | succ q ihk =>
      intro fuel listed a w hsz hkl hmk hli hfu hwp
      obtain ⟨fuel, rfl⟩ : ∃ f, fuel = f + 1 := ⟨fuel - 1, by omega⟩
      have hkl' : k < l.length := by omega
      have hok : l[k]? = some l[k] := List.getElem?_eq_getElem hkl'
      have hmem : ∀ i ∈ Region.ready .any l.toArray listed, i = k := by
       intro i hi
       obtain ⟨h1, o, h2, h3⟩ := mem_ready.1 hi
       have hlt : i < l.length := by
        have := (Array.getElem?_eq_some_iff.1 h2).1
        simpa using this
       rw [getD_true_iff (by omega)] at h1
       have hge : k ≤ i := by
        rcases Nat.lt_or_ge i k with h | h
        ·rw [(hli i).2 h] at h1; cases h1
        ·exact h
       rcases Nat.lt_or_ge k i with hlt' | hge'
       ·exfalso
        have ho : l[i]? = some o := by simpa using h2
        have hcl2 : Closed l (fun j => listed.getD j false = true) := fun j oj hj hoj j' hj' => (hli j').2 (by have := ok.back j oj hoj j' hj'; have := (hli j).1 hj; omega)
        have hms : (masks l [])[i]? = some ((masks l []).getD i 0) := by
         have hlen : ∀ (l' : List Oper) (acc : List Nat), (masks l' acc).length = acc.length + l'.length := by
          intro l'; induction l' with
          | nil => intro acc; simp [masks]
          | cons o l' ih => intro acc; rw [masks, ih]; simp; omega
         have : i < (masks l []).length := by rw [hlen]; simpa using hlt
         simp [List.getD, this]
        have := masks_spec l _ hcl2 l [] (by simp) (by simp) (by simp) i _ o hms ho (fun j hj => by
         simp only [deps, List.mem_filterMap] at hj
         obtain ⟨e, he, hb⟩ := hj
         split at hb
         ·rename_i hbi; simp at hb; subst hb; exact h3 e (by simpa using he) hbi
         ·cases hb) k (ok.tail i (by omega) hlt k hlt')
        exact Nat.lt_irrefl _ ((hli k).1 this)
       ·omega
      rw [List.drop_eq_getElem_cons hkl'] at hwp
      refine ⟨fun h0 => ?_, fun i hi => ?_⟩
      ·exfalso
       have : k ∈ Region.ready .any l.toArray listed := by
        rw [mem_ready]
        refine ⟨?_, l[k], by simpa using hok, fun e he hb => ?_⟩
        ·rw [getD_true_iff (by omega)]
         cases hx : listed.getD k false with
         | false => rfl
         | true => exact absurd ((hli k).1 hx) (Nat.lt_irrefl _)
        ·exact (hli _).2 (ok.back k _ hok e.on (by simp only [deps, List.mem_filterMap]; exact ⟨e, by simpa using he, by simp [hb]⟩))
       rw [h0] at this; cases this
      ·have hik := hmem i hi
       subst hik
       unfold wpOpIn
       have hio : l.toArray[i]? = some l[i] := by simpa using hok
       simp only [hio]
       have next : ∀ a w, wpListIn (FW r) 0 P l.toArray Q (l.drop (i + 1)) a w → wpAnyIn (FW r) 0 P .any l.toArray Q fuel (listed.setIfInBounds i true) a w := by
        intro a w hwp
        refine ihk (i + 1) (by omega) fuel _ a w (by simp [hsz]) (by omega) (by omega) (fun j => ?_) (by omega) hwp
        rw [getD_set _ _ _ (by omega)]
        by_cases e : i = j
        ·subst e; simp
        ·rw [if_neg e, hli]; omega
       unfold wpListIn at hwp
       split at hwp
       ·rename_i hwant; rw [if_pos hwant]; exact Oper.wpIn_mono next hwp
       ·rename_i hwant; rw [if_neg hwant]; exact ⟨hwp.1, next _ _ hwp.2⟩
    refine tail m (fuel + 1) listed a w hsz hml (Nat.le_refl _) (fun i => ⟨hlm i, hD i⟩) ?_ ht
    rw [hf]
    have : ((List.range l.length).drop m).countP (fun i => !listed.getD i false) ≤ (List.range l.length).countP (fun i => !listed.getD i false) := List.Sublist.countP_le (List.drop_sublist _ _)
    refine Nat.le_trans ?_ this
    have hall : ((List.range l.length).drop m).countP (fun i => !listed.getD i false) = ((List.range l.length).drop m).length := by
     rw [List.countP_eq_length]
     intro i hi
     have : m ≤ i := by
      obtain ⟨k, hk⟩ := List.mem_iff_getElem?.1 hi
      rw [List.getElem?_drop] at hk
      have := List.getElem?_eq_some_iff.1 hk
      obtain ⟨h1, h2⟩ := this
      simp at h2; omega
     cases hx : listed.getD i false with
     | false => rfl
     | true => exact absurd (hlm i hx) (by omega)
    rw [hall]; simp
   ·-- one more of the first operations
    have hex : ∃ i, i < m ∧ listed.getD i false = false ∧ ∀ j, j < i → listed.getD j false = true := by
     have : ∃ i, i < m ∧ listed.getD i false = false := by
      refine Classical.byContradiction fun hn => hD fun i hi => ?_
      cases hx : listed.getD i false with
      | true => rfl
      | false => exact absurd ⟨i, hi, hx⟩ hn
     obtain ⟨i, hi⟩ := this
     induction i using Nat.strongRecOn with
     | _ i ihi =>
      by_cases hx : ∃ j, j < i ∧ listed.getD j false = false
      ·obtain ⟨j, hj, hj2⟩ := hx
       exact ihi j hj ⟨by omega, hj2⟩
      ·exact ⟨i, hi.1, hi.2, fun j hj => by
        cases hy : listed.getD j false with
        | true => rfl
        | false => exact absurd ⟨j, hj, hy⟩ hx⟩
    obtain ⟨i0, hi0m, hi0, hi0b⟩ := hex
    refine ⟨fun h0 => ?_, fun i hi => ?_⟩
    ·exfalso
     have hok : l[i0]? = some l[i0] := List.getElem?_eq_getElem (by omega)
     have : i0 ∈ Region.ready .any l.toArray listed := by
      rw [mem_ready]
      refine ⟨by rw [getD_true_iff (by omega)]; exact hi0, l[i0], by simpa using hok, fun e he hb => ?_⟩
      exact hi0b _ (ok.back i0 _ hok e.on (by simp only [deps, List.mem_filterMap]; exact ⟨e, by simpa using he, by simp [hb]⟩))
     rw [h0] at this; cases this
    ·obtain ⟨h1, o, h2, h3⟩ := mem_ready.1 hi
     have ho : l[i]? = some o := by simpa using h2
     have hlt : i < l.length := (List.getElem?_eq_some_iff.1 ho).1
     rw [getD_true_iff (by omega)] at h1
     have hdeps : ∀ k ∈ deps o, listed.getD k false = true := by
      intro k hk
      simp only [deps, List.mem_filterMap] at hk
      obtain ⟨e, he, hb⟩ := hk
      split at hb
      ·rename_i hbi; simp at hb; subst hb; exact h3 e (by simpa using he) hbi
      ·cases hb
     have hms : (masks l [])[i]? = some ((masks l []).getD i 0) := by
      have hlen : ∀ (l' : List Oper) (acc : List Nat), (masks l' acc).length = acc.length + l'.length := by
       intro l'; induction l' with
       | nil => intro acc; simp [masks]
       | cons o l' ih => intro acc; rw [masks, ih]; simp; omega
      have : i < (masks l []).length := by rw [hlen]; simpa using hlt
      simp [List.getD, this]
     have hanc := masks_spec l _ hcl l [] (by simp) (by simp) (by simp) i _ o hms ho hdeps
     have him : i < m := by
      rcases Nat.lt_or_ge i m with h | h
      ·exact h
      ·have := hanc i0 (ok.tail i h hlt i0 (by omega))
       rw [hi0] at this; cases this
     have hxi : xs[i]? = some xs[i] := List.getElem?_eq_getElem (by omega)
     obtain ⟨hA, hdst⟩ := fin i o _ him ho hxi
     have avail : ∀ t ∈ looks l o, ∀ (i' : Nat) (o' : Oper), i' < m → l[i']? = some o' → o'.dst = some t → listed.getD i' false = true := fun t ht i' o' hi' ho' hd' => hanc i' (ok.looked i o i' o' t him ho ho' hd' ht).2
     refine hA.run (c := c) ho hw hh (fun t ht z hz => hv t z hz (avail t ht)) (fun t ht => by rw [hts]; exact hlook i o ho t ht) ?_
     intro v w' I' hw' he' hh' hx
     have hset : ∀ j, (listed.setIfInBounds i true).getD j false = if i = j then true else listed.getD j false := fun j => getD_set _ _ _ (by omega)
     refine ih (listed.setIfInBounds i true) _ w' I' (by simp [hsz]) ?_ ?_ ?_ (by rw [put_defers]; exact hd) (by rw [tmps_put_size]; exact hts) hw' (he.trans he') hh' ?_
     ·have : (List.range l.length).countP (fun j => !listed.getD j false) = (List.range l.length).countP (fun j => !(listed.setIfInBounds i true).getD j false) + 1 := by
       have key : ∀ (n : Nat), (List.range n).countP (fun j => !listed.getD j false) = (List.range n).countP (fun j => !(listed.setIfInBounds i true).getD j false) + (if i < n then 1 else 0) := by
        intro n
        induction n with
        | zero => simp
        | succ n ihn =>
         rw [List.range_succ, List.countP_append, List.countP_append, ihn]
         simp only [List.countP_cons, List.countP_nil, Nat.zero_add, hset n]
         by_cases e : i = n
         ·subst e
          rw [if_neg (Nat.lt_irrefl _), if_pos (Nat.lt_succ_self _), if_pos rfl, h1]
          simp
         ·rw [if_neg e]
          by_cases hlt' : i < n
          ·rw [if_pos hlt', if_pos (Nat.lt_succ_of_lt hlt')]; omega
          ·rw [if_neg hlt', if_neg (show ¬ i < n + 1 by omega)]; omega
       rw [key, if_pos hlt]
      omega
     ·intro j oj hj hoj k hk
      rw [hset]
      by_cases e : i = k
      ·rw [if_pos e]
      ·rw [if_neg e]
       rw [hset] at hj
       by_cases e' : i = j
       ·subst e'
        rw [ho] at hoj; cases hoj
        exact hdeps k hk
       ·rw [if_neg e'] at hj
        exact hcl j oj hj hoj k hk
     ·intro j hj
      rw [hset] at hj
      by_cases e : i = j
      ·omega
      ·rw [if_neg e] at hj; exact hlm j hj
     ·intro t x hxt hav
      by_cases hdt : o.dst = some t
      ·rw [hdt]
       have : x = xs[i] := by
        have := finAt i o _ t him ho hxi hdt
        rw [this] at hxt; exact (Option.some.inj hxt).symm
       subst this
       rw [tmps_put_same (by rw [hts]; rw [hdt] at hdst; exact Nat.lt_of_succ_le (by simpa [dstOk, Nat.blt] using hdst))]
       exact hx
      ·have hold : Rel I w x (a.tmps.getD t undef) := hv t x hxt fun i' o' hi' ho' hd' => by
        have := hav i' o' hi' ho' hd'
        rw [hset] at this
        by_cases e : i = i'
        ·subst e
         rw [ho] at ho'; cases ho'
         exact absurd hd' hdt
        ·rw [if_neg e] at this; exact this
       have hget : (a.put o.dst v).tmps.getD t undef = a.tmps.getD t undef := by
        cases hod : o.dst with
        | none => rfl
        | some d => exact tmps_put_other (fun e => hdt (by rw [hod, e]))
       rw [hget]
       exact hold.keep he'.keeps
 obtain ⟨I, hw, he, hh, hv⟩ := s.mem
 have hrep : ∀ i, (Array.replicate l.toArray.size false).getD i false = false := by
  intro i; simp [Array.getD]
 refine main l.toArray.size _ a w.drew I (by simp) ?_ (fun i o hi => absurd ((hrep i).symm.trans hi) (by simp)) (fun i hi => absurd ((hrep i).symm.trans hi) (by simp)) s.ds s.size hw.drew (he.drew) hh.drew ?_
 ·symm
  have : (List.range l.length).countP (fun i => !(Array.replicate l.toArray.size false).getD i false) = (List.range l.length).length := by
   rw [List.countP_eq_length]; intro i _; rw [hrep]; rfl
  rw [this]; simp
 ·intro t x hx hav
  have : envGet st.env t = some x := by
   rw [← finOther t (fun i o hi ho hd => absurd ((hrep i).symm.trans (hav i o hi ho hd)) (by simp))]; exact hx
  exact (hv t x this).keep (show Keeps I w I w.drew from ⟨fun _ _ x => x, fun _ _ _ => rfl⟩)
theorem AD.nil {P : Program} {H : List Ent} {ops : List Oper} {n : Nat} {env : List (Nat × AV)} {K : List (Nat × AV) → Prop} (h : K env) : AD P H ops n [] env K := h
theorem AD.guarded {P : Program} {H : List Ent} {ops : List Oper} {n : Nat} {env : List (Nat × AV)} {K : List (Nat × AV) → Prop} {o : Oper} {rest : List Oper} {x : AV} {j d : Nat} {want G : Bool} (hg : o.guard = some (j, want)) (hj : (ops[j]?).bind (·.dst) = some d)
  (hG : mkG (envGet env d) want = some G) (hd : dstOk n o.dst = true) (h : G = true → POp P H (envGet env) o x) (next : AD P H ops n rest (putEnv o.dst (.opt G x) env) K) : AD P H ops n (o :: rest) env K :=
 ⟨.opt G x, .inr ⟨j, want, d, G, x, hg, hj, hG, h, rfl⟩, hd, next⟩
class HasTy (P : Program) (t : Nat) (x : outParam (Bool × Nat)) : Prop where h : tyInfo P t = some x
class HasFld (P : Program) (t f : Nat) (x : outParam Nat) : Prop where h : fldOff P t f = some x
class HasSl (P : Program) (t : Nat) (x : outParam Nat) : Prop where h : slSize P t = some x
class HasArr (P : Program) (t : Nat) (x : outParam (Nat × Nat)) : Prop where h : arrInfo P t = some x
class HasZero (P : Program) (t : Nat) (x : outParam (List Value)) : Prop where h : zeroCells P t = some x
class IsB (P : Program) (t : Nat) : Prop where h : P.underlying t = some .bool
class HasInt (P : Program) (t : Nat) (k : outParam IntKind) : Prop where h : P.underlying t = some (.int k)
class MapLike {α : Type} (F : List α → List (List AV)) (enc : outParam (α → List AV)) : Prop where h : ∀ l, F l = l.map enc
instance {α : Type} (enc : α → List AV) : MapLike (List.map enc) enc := ⟨fun _ => rfl⟩
section
variable {P : Program} {H : List Ent} {ρ : Nat → Option AV} {o : Oper}
end
section
variable {c : Ctx} {r : Option Nat} {P : Program} {ops : Array Oper} {l rest : List Oper} {o : Oper} {st : St} {Q : Exit → Act → World → Prop} {x : AV}
theorem OL.al {t : TypeId} {zs : List Value} [hz : HasZero P t zs] (hgd : o.guard = none) (hd : dstOk c.n o.dst = true) (h : o.op = .alloc t)
  (next : ∀ b, OL c r P ops rest ⟨putEnv o.dst (.p b 0) st.env, .blk b t (zs.map .val) :: st.H⟩ Q) : OL c r P ops (o :: rest) st Q := OL.alloc hgd hd h hz.h next
theorem CW.bound {p : Code} {t k : Nat} {els : List (List AV)} (ht : envGet st.env t = some (.sl k els)) (h : els.length ≤ maxLen → CW c r P p st Q) : CW c r P p st Q := by
 intro a w s
 refine h ?_ a w s
 obtain ⟨I, hw, he, hh, hv⟩ := s.mem
 have h0 := hv t _ ht
 generalize a.tmps.getD t undef = u at h0
 cases h0 with
 | sl0 => simp
 | sl k els b off len cap hl hc hm h => omega
end
def envOf : Nat → List AV → List (Nat × AV)
 | _, [] => []
 | i, x :: xs => (i, x) :: envOf (i + 1) xs
theorem envOf_get : ∀ (xs : List AV) (i t : Nat) (y : AV), envGet (envOf i xs) t = some y → i ≤ t ∧ xs[t - i]? = some y
 | [], i, t, y, h => by simp [envOf, envGet] at h
 | x :: xs, i, t, y, h => by
  rw [envOf, envGet_cons] at h
  split at h
  ·rename_i e; subst e; simp at h; subst h; simp
  ·rename_i e
   obtain ⟨h1, h2⟩ := envOf_get xs (i + 1) t y h
   refine ⟨by omega, ?_⟩
   have e1 : t - i = (t - (i + 1)) + 1 := by omega
   rw [e1]; simpa using h2
def AVle (x y : AV) : Prop := ∀ I w v, Rel I w x v → Rel I w y v
inductive AVleL : List AV → List AV → Prop
 | nil : AVleL [] []
 | cons {x y : AV} {xs ys : List AV} (h : AVle x y) (t : AVleL xs ys) : AVleL (x :: xs) (y :: ys)
theorem AVle.refl (x : AV) : AVle x x := fun _ _ _ h => h
theorem AVle.trans {x y z : AV} (h : AVle x y) (h' : AVle y z) : AVle x z := fun I w v r => h' I w v (h I w v r)
theorem AVle.nil (k : Nat) : AVle (.val (.slice none 0 0)) (.sl k []) := fun I w v h => by cases h; exact .sl0 _ _ _
theorem AVle.empty (k : Nat) (a : Option Addr) (c : Nat) : AVle (.val (.slice a 0 c)) (.sl k []) := fun I w v h => by cases h; exact .sl0 _ _ _
theorem AVle.e0 (k : Nat) : AVle .e0 (.sl k []) := fun I w v h => by cases h; exact .sl0 _ _ _
theorem AVle.one {x : AV} (hb : bOk x = true) (hx : ∀ cs, x ≠ .agg cs) : AVle x .one := fun I w v h => .single _ (h.one hb hx)
theorem AVle.any (x : AV) : AVle x .any := fun _ _ _ _ => .any _
theorem AVleL.rel {I : Imm} {w : World} : ∀ {xs ys : List AV} {vs : List Value}, AVleL xs ys → RelL I w xs vs → RelL I w ys vs
 | _, _, _, .nil, h => h
 | _, _, _, .cons h t, .cons _ _ _ _ hx ht => .cons _ _ _ _ (h _ _ _ hx) (AVleL.rel t ht)
theorem AVleL.refl : ∀ xs : List AV, AVleL xs xs
 | [] => .nil
 | _ :: xs => .cons (.refl _) (AVleL.refl xs)
theorem AVleL.length {xs ys : List AV} (h : AVleL xs ys) : ys.length = xs.length := by
 induction h with
 | nil => rfl
 | cons _ _ ih => simp [ih]
theorem AVle.agg {xs ys : List AV} (h : AVleL xs ys) : AVle (.agg xs) (.agg ys) := fun I w v r => by cases r; exact .agg _ _ (h.rel (by assumption))
theorem AVle.tup {xs ys : List AV} (h : AVleL xs ys) : AVle (.tup xs) (.tup ys) := fun I w v r => by cases r; exact .tup _ _ (h.rel (by assumption))
theorem AVle.fn {f : Fn} {fs fs' cs cs' : List AV} (h : AVleL fs fs') (h' : AVleL cs cs') : AVle (.fn f fs cs) (.fn f fs' cs') := fun I w v r => by cases r; exact .fn _ _ _ _ _ (h.rel (by assumption)) (h'.rel (by assumption))
theorem AVle.iface {t : TypeId} {x y : AV} (h : AVle x y) : AVle (.iface t x) (.iface t y) := fun I w v r => by cases r; exact .iface _ _ _ (h _ _ _ (by assumption))
theorem AVleL.cells {I : Imm} {w : World} {b : Nat} : ∀ {o : Nat} {xs ys : List AV}, AVleL xs ys → Cells I w b o xs → Cells I w b o ys
 | _, _, _, .nil, h => h
 | _, _, _, .cons h t, .cons _ _ _ c _ hc hI hx ht => .cons _ _ _ c _ hc hI (h _ _ _ hx) (AVleL.cells t ht)
theorem AVle.ptr {xs ys : List AV} (h : AVleL xs ys) : AVle (.ptr xs) (.ptr ys) := fun I w v r => by cases r; exact .ptr _ _ _ (h.cells (by assumption))
inductive AVleE : List (List AV) → List (List AV) → Prop
 | nil : AVleE [] []
 | cons {x y : List AV} {xs ys : List (List AV)} (h : AVleL x y) (t : AVleE xs ys) : AVleE (x :: xs) (y :: ys)
theorem AVleE.refl : ∀ xs : List (List AV), AVleE xs xs
 | [] => .nil
 | _ :: xs => .cons (.refl _) (AVleE.refl xs)
theorem AVleE.length {xs ys : List (List AV)} (h : AVleE xs ys) : ys.length = xs.length := by
 induction h with
 | nil => rfl
 | cons _ _ ih => simp [ih]
theorem AVleE.els {I : Imm} {w : World} {k b : Nat} : ∀ {o : Nat} {xs ys : List (List AV)}, AVleE xs ys → Els I w k b o xs → Els I w k b o ys
 | _, _, _, .nil, h => h
 | _, _, _, .cons h t, .cons _ _ _ _ _ hk hc ht => .cons _ _ _ _ _ (by rw [h.length]; exact hk) (h.cells hc) (AVleE.els t ht)
theorem AVle.sl {k : Nat} {xs ys : List (List AV)} (h : AVleE xs ys) : AVle (.sl k xs) (.sl k ys) := fun I w v r => by
 cases r with
 | sl0 => cases h; exact .sl0 _ _ _
 | sl _ _ b off len cap hl hc hm he => exact .sl _ _ _ _ _ _ (by rw [h.length]; exact hl) hc hm (h.els he)
section
variable {P : Program} {H : List Ent} {ρ : Nat → Option AV} {o : Oper}
theorem POp.le {x y : AV} (h : POp P H ρ o x) (hle : AVle x y) : POp P H ρ o y := by
 intro B I w r a Hc hw hh hs ho
 exact (h B I w r a Hc hw hh hs ho).mono (fun v w' ⟨I', h1, h2, h3, h4⟩ => ⟨I', h1, h2, h3, hle _ _ _ h4⟩) (fun _ _ h => h)
theorem CallOk.le {f : FuncId} {xs ys : List AV} (h : CallOk P ρ o f xs) (hle : AVleL xs ys) : CallOk P ρ o f ys :=
 ⟨fun I w a ho => let ⟨vs, h1, h2⟩ := h.run I w a ho; ⟨vs, hle.rel h1, h2⟩, h.nodefer⟩
theorem foldl_set : ∀ (news : List Value) (off j : Nat) (cells : Array Value), off + j + news.length ≤ cells.size →
  (news.zipIdx j).foldl (fun (cs : Array Value) (x : Value × Nat) => cs.setIfInBounds (off + x.2) x.1) cells = (cells.toList.take (off + j) ++ news ++ cells.toList.drop (off + j + news.length)).toArray
 | [], off, j, cells, h => by simp
 | v :: news, off, j, cells, h => by
  simp only [List.length_cons] at h
  rw [List.zipIdx_cons, List.foldl_cons, foldl_set news off (j + 1) _ (by simp; omega)]
  congr 1
  have hlt : off + j < cells.toList.length := by simp; omega
  simp only [Array.toList_setIfInBounds]
  have e1 : off + (j + 1) = off + j + 1 := by omega
  rw [e1, List.take_set, List.drop_set_of_lt (by omega)]
  have e2 : off + j + (v :: news).length = off + j + 1 + news.length := by simp; omega
  rw [e2, List.take_succ_eq_append_getElem hlt, List.set_append_right _ _ (by simp [Nat.min_le_left]), List.append_assoc, List.append_assoc, List.append_assoc]
  have hm : off + j - (cells.toList.take (off + j)).length = 0 := by simp; omega
  rw [hm]
  rfl
def bfill (place : Nat → Option (Nat × Nat)) : List AV → List (Nat × AV) → Option (List AV)
 | cs, [] => some cs
 | cs, (i, x) :: rest =>
  match place i with
  | none => none
  | some (off, size) => bif bOk x && Nat.beq (bcells x).length size && Nat.ble (off + size) cs.length then bfill place (cs.take off ++ bcells x ++ cs.drop (off + size)) rest else none
theorem bfill_rel {I : Imm} {w : World} {place : Nat → Option (Nat × Nat)} : ∀ (parts : List (Nat × AV)) (vals : List (Nat × Value)) (cs : List AV) (vs : Array Value) (ys : List AV), RelL I w cs vs.toList →
  parts.map (·.1) = vals.map (·.1) → RelL I w (parts.map (·.2)) (vals.map (·.2)) → bfill place cs parts = some ys → ∃ us, Instr.fill place vs vals = some us ∧ RelL I w ys us.toList
 | [], [], cs, vs, ys, h, _, _, hf => by simp [bfill] at hf; subst hf; exact ⟨vs, rfl, h⟩
 | [], _ :: _, _, _, _, _, hk, _, _ => by simp at hk
 | _ :: _, [], _, _, _, _, hk, _, _ => by simp at hk
 | (i, x) :: parts, (i', v) :: vals, cs, vs, ys, h, hk, hr, hf => by
  simp only [List.map_cons, List.cons.injEq] at hk
  obtain ⟨hi, hk⟩ := hk
  subst hi
  cases hr with
  | cons _ _ _ _ hx ht =>
   simp only [bfill] at hf
   split at hf
   ·cases hf
   ·rename_i off size hp
    cases hc : (bOk x && Nat.beq (bcells x).length size && Nat.ble (off + size) cs.length) with
    | false => simp [hc] at hf
    | true =>
     simp only [hc, cond_true] at hf
     simp only [Bool.and_eq_true] at hc
     obtain ⟨⟨hb, hs⟩, hfit⟩ := hc
     have hs := Nat.eq_of_beq_eq_true hs
     have hfit := Nat.le_of_ble_eq_true hfit
     have hxr := bcells_rel hx hb
     have hvl : v.cells.size = size := by have := hxr.length; simp at this; omega
     have hcl : vs.size = cs.length := by have := h.length; simpa using this
     have hrel : RelL I w (cs.take off ++ bcells x ++ cs.drop (off + size)) (vs.toList.take off ++ v.cells.toList ++ vs.toList.drop (off + size)) := ((h.take off).append hxr).append (h.drop _)
     obtain ⟨us, h1, h2⟩ := bfill_rel parts vals _ (vs.toList.take off ++ v.cells.toList ++ vs.toList.drop (off + size)).toArray ys (by simpa using hrel) hk ht hf
     refine ⟨us, ?_, h2⟩
     rw [Instr.fill, hp]
     have hne : ¬ (v.cells.size ≠ size ∨ off + v.cells.size > vs.size) := by omega
     have hfs := foldl_set v.cells.toList off 0 vs (by simp; omega)
     simp only [hvl, ne_eq, not_true_eq_false, false_or, gt_iff_lt, decide_eq_true_eq, Bool.or_eq_true, bne_self_eq_false, Bool.false_or]
     rw [if_neg (by simp; omega)]
     rw [← h1]
     congr 1
     have e3 : v.cells.zipIdx = (v.cells.toList.zipIdx 0).toArray := by
      apply Array.ext'
      simp
     rw [e3, List.foldl_toArray]
     simp only [Nat.add_zero, Array.length_toList, hvl] at hfs
     rw [← hfs]
def buildInfo (P : Program) (t : TypeId) : Option (List Value × List (Nat × Nat)) :=
 match P.info? t, P.underlying t with
 | some it, some (.struct fields) =>
  match it.zero, fields.toList.mapM (fun f => (P.info? f.type).map fun i => (f.offset, i.size)) with
  | some z, some places => some (z.cells.toList, places)
  | _, _ => none
 | some it, some (.array n e) =>
  match it.zero, P.info? e with
  | some z, some ie => some (z.cells.toList, (List.range n).map fun i => (i * ie.size, ie.size))
  | _, _ => none
 | _, _ => none
class HasBuild (P : Program) (t : Nat) (x : outParam (List Value × List (Nat × Nat))) : Prop where h : buildInfo P t = some x
def partsOf (ps : List (Nat × Operand)) (ys : List (Bool × AV)) : List (Nat × AV) := (ps.map (·.1)).zip (ys.map (·.2))
theorem fill_congr {p q : Nat → Option (Nat × Nat)} : ∀ (parts : List (Nat × Value)) (vs : Array Value) (us : Array Value), (∀ i x, p i = some x → q i = some x) → Instr.fill p vs parts = some us → Instr.fill q vs parts = some us
 | [], vs, us, _, h => h
 | (i, v) :: parts, vs, us, hpq, h => by
  rw [Instr.fill] at h ⊢
  cases hp : p i with
  | none => simp [hp] at h
  | some x =>
   rw [hp] at h
   rw [hpq i x hp]
   simp only at h ⊢
   split at h
   ·cases h
   ·rename_i hc
    rw [if_neg hc]
    exact fill_congr parts _ _ hpq h
theorem build_run {t : TypeId} {zs : List Value} {places : List (Nat × Nat)} (hb : buildInfo P t = some (zs, places)) (parts : Array (Nat × Value)) (us : Array Value) (h : Instr.fill (places[·]?) zs.toArray parts.toList = some us) (w : World) :
  (Instr.build t parts).run P w = .ok (.agg us) w := by
 refine run_build w t parts us ?_
 unfold buildInfo at hb
 unfold Program.built
 split at hb
 ·rename_i it fields hi hu
  cases hz : it.zero with
  | none => simp [hz] at hb
  | some z =>
   simp only [hi, hu, hz]
   cases hp : fields.toList.mapM (fun f => (P.info? f.type).map fun i => (f.offset, i.size)) with
   | none => simp [hz, hp] at hb
   | some pl =>
    simp [hz, hp] at hb
    obtain ⟨rfl, rfl⟩ := hb
    simpa using h
 ·rename_i it n e hi hu
  cases hz : it.zero with
  | none => simp [hz] at hb
  | some z =>
   cases hie : P.info? e with
   | none => simp [hz, hie] at hb
   | some ie =>
    simp [hz, hie] at hb
    obtain ⟨rfl, rfl⟩ := hb
    simp only [hi, hu, hz, hie]
    refine fill_congr _ _ _ (fun i x hx => ?_) (by simpa using h)
    cases hr : (List.range n)[i]? with
    | none => simp [hr] at hx
    | some j =>
     have hj : j = i := by
      have := List.getElem?_eq_some_iff.1 hr
      obtain ⟨hlt, he⟩ := this
      simpa using he.symm
     subst hj
     simpa [hr] using hx
 ·cases hb
theorem parts_rel {I : Imm} {w : World} {a : Act} (ho : OpsOk I w ρ a o) (ps : Array (Nat × Operand)) (hm : ∀ x ∈ ps.toList.map (·.2), x ∈ o.op.operands) {ys : List (Bool × AV)} (hy : aevs ρ (ps.toList.map (·.2)) = some ys) (hg : ys.all (·.1) = true) :
  (partsOf ps.toList ys).map (·.1) = ((ps.map fun (i, x) => (i, a.eval x)).toList).map (·.1) ∧ RelL I w ((partsOf ps.toList ys).map (·.2)) (((ps.map fun (i, x) => (i, a.eval x)).toList).map (·.2)) := by
 have h2 := aevs_rel ho _ ys hm hy (by simpa using hg)
 have hl : ys.length = ps.toList.length := by have := h2.length; simp at this; simp [this]
 constructor
 ·show ((ps.toList.map (·.1)).zip (ys.map (·.2))).map (·.1) = _
  rw [List.map_fst_zip (by simp [hl])]
  simp [Function.comp_def]
 ·show RelL I w (((ps.toList.map (·.1)).zip (ys.map (·.2))).map (·.2)) _
  rw [List.map_snd_zip (by simp [hl])]
  simpa [Function.comp_def] using h2
theorem POp.build' {t : TypeId} {ps : Array (Nat × Operand)} {zs : List Value} {places : List (Nat × Nat)} {ys : List (Bool × AV)} {cs : List AV} [hB : HasBuild P t (zs, places)] (h : o.op = .build t ps)
  (hy : aevs ρ (ps.toList.map (·.2)) = some ys) (hg : ys.all (·.1) = true) (hf : bfill (places[·]?) (zs.map .val) (partsOf ps.toList ys) = some cs) : POp P H ρ o (.agg cs) := by
 refine .same (by simp [h]) fun I w a ho => ?_
 obtain ⟨e1, e2⟩ := parts_rel ho ps (by simp [h, Op.operands]) hy hg
 obtain ⟨us, h1, h2⟩ := bfill_rel _ _ (zs.map .val) zs.toArray cs (by simpa using relL_val zs) e1 e2 hf
 refine ⟨.agg us, ?_, .agg _ _ h2⟩
 simp [execOp, h, build_run hB.h _ us h1 w]
def rowInfo (P : Program) (t : TypeId) : Option (Nat × List Value) :=
 match P.underlying t with
 | some (.slice e) => match P.info? e with
  | some i => i.zero.map fun z => (i.size, z.cells.toList)
  | none => none
 | _ => none
class HasRow (P : Program) (t : Nat) (x : outParam (Nat × List Value)) : Prop where h : rowInfo P t = some x
theorem rowInfo_spec {t : TypeId} {k : Nat} {zs : List Value} (h : rowInfo P t = some (k, zs)) : ∃ e i z, P.underlying t = some (.slice e) ∧ P.info? e = some i ∧ i.zero = some z ∧ i.size = k ∧ z.cells.toList = zs := by
 unfold rowInfo at h
 split at h
 ·rename_i e hu
  split at h
  ·rename_i i hi
   cases hz : i.zero with
   | none => simp [hz] at h
   | some z => simp [hz] at h; exact ⟨e, i, z, hu, hi, hz, h.1, h.2⟩
  ·cases h
 ·cases h
def rowZero (n k : Nat) (zs : List Value) : List Value := (List.range (n * k)).map fun i => zs.getD (i % zs.length) default
theorem els_of_cells {I : Imm} {w : World} {k b : Nat} : ∀ (els : List (List AV)) (o : Nat), (∀ e ∈ els, e.length = k) → Cells I w b o els.flatten → Els I w k b o els
 | [], o, _, _ => .nil _ _ _
 | e :: els, o, hl, h => by
  rw [List.flatten_cons] at h
  have hk := hl e (.head _)
  have h1 : Cells I w b o e := by have := h.take e.length; rwa [List.take_left] at this
  have h2 : Cells I w b (o + k) els.flatten := by have := h.drop e.length; rw [List.drop_left, hk] at this; exact this
  exact .cons _ _ _ _ _ hk h1 (els_of_cells els _ (fun e he => hl e (.tail _ he)) h2)
theorem buildSlice_run {t : TypeId} {n k : Nat} {zs : List Value} (hr : rowInfo P t = some (k, zs)) (parts : Array (Nat × Value)) (us : Array Value) (hsm : n * k ≤ 16777216) (hpos : 0 < n * k)
  (h : Instr.fill (fun i => some (i * k, k)) (rowZero n k zs).toArray parts.toList = some us) (w : World) :
  ∃ e, (Instr.buildSlice t n parts).run P w = .ok (.slice (some ⟨w.heap.size, 0, none⟩) n n) (w.alloc (.cells us e)) := by
 obtain ⟨e, i, z, hu, hi, hz, hk, hzs⟩ := rowInfo_spec hr
 have hsm' : ¬ n * i.size > 2 ^ 24 := by rw [hk]; omega
 have hpos' : ¬ n * i.size = 0 := by rw [hk]; omega
 have hf : Instr.fill (fun j => some (j * i.size, i.size)) ((Array.range (n * i.size)).map (z.cells[· % z.cells.size]!)) parts.toList = some us := ?_
 ·exact ⟨e, by simp [Instr.buildSlice, run_underlying hu, sizeOf, typeInfo, zeroValue, hi, hz, hsm', hpos', hf, newRow]⟩
 rw [hk, ← h]
 congr 1
 apply Array.ext'
 simp only [rowZero, Array.toList_map, Array.toList_range, ← hzs]
 refine List.map_congr_left fun j _ => ?_
 simp [Array.getElem!_eq_getD, Array.getD_eq_getD_getElem?, List.getD_eq_getElem?_getD]
theorem POp.row {t : TypeId} {n k : Nat} {ps : Array (Nat × Operand)} {zs : List Value} {ys : List (Bool × AV)} {els : List (List AV)} [hR : HasRow P t (k, zs)] (h : o.op = .buildSlice t n ps)
  (hy : aevs ρ (ps.toList.map (·.2)) = some ys) (hg : ys.all (·.1) = true) (hels : (partsOf ps.toList ys).map (fun x => bcells x.2) = els) (hlen : Nat.beq els.length n = true) (hk : els.all (fun e => Nat.beq e.length k) = true)
  (hsm : Nat.ble (n * k) 16777216 = true) (hpos : Nat.blt 0 (n * k) = true)
  (hf : bfill (fun i => some (i * k, k)) ((rowZero n k zs).map .val) (partsOf ps.toList ys) = some els.flatten) : POp P H ρ o (.sl k els) := by
 intro B I w r a Hc hw hh _ ho
 obtain ⟨e1, e2⟩ := parts_rel ho ps (by simp [h, Op.operands]) hy hg
 obtain ⟨us, h1, h2⟩ := bfill_rel _ _ ((rowZero n k zs).map .val) (rowZero n k zs).toArray els.flatten (by simpa using relL_val _) e1 e2 hf
 have hsm := Nat.le_of_ble_eq_true hsm
 have hpos : 0 < n * k := Nat.le_of_ble_eq_true hpos
 obtain ⟨e, hrun⟩ := buildSlice_run hR.h (ps.map fun (i, x) => (i, a.eval x)) us hsm hpos h1 w
 obtain ⟨a1, a2, a3, a4⟩ := Imm.add_new hw e us
 have hn := Nat.eq_of_beq_eq_true hlen
 have hnk : n ≤ n * k := by
  rcases Nat.eq_zero_or_pos k with rfl | hk'
  ·simp at hpos
  ·exact Nat.le_mul_of_pos_right n hk'
 refine Runs.of_value (v := .slice (some ⟨w.heap.size, 0, none⟩) n n) (w' := w.alloc (.cells us e)) (by simp [h]) (by simp [execOp, h, hrun]) ⟨_, a1, a2, a3 _ hh, .sl _ _ _ _ _ _ hn (Nat.le_refl _) (by simp only [maxLen]; omega) ?_⟩
 refine els_of_cells els 0 (fun x hx => ?_) (a4 _ h2)
 have := List.all_eq_true.1 hk x hx
 exact Nat.eq_of_beq_eq_true this
end
inductive Del : List Ent → Ent → List Ent → Prop
 | head (e : Ent) (H : List Ent) : Del (e :: H) e H
 | tail (f e : Ent) (H H' : List Ent) (h : Del H e H') : Del (f :: H) e (f :: H')
theorem Del.mem {H H' : List Ent} {e : Ent} (h : Del H e H') : e ∈ H := by
 induction h with
 | head => exact .head _
 | tail _ _ _ _ _ ih => exact .tail _ ih
theorem Del.sub {H H' : List Ent} {e : Ent} (h : Del H e H') : H'.Sublist H := by
 induction h with
 | head => exact List.sublist_cons_self _ _
 | tail _ _ _ _ _ ih => exact ih.cons_cons _
theorem Del.apart {H H' : List Ent} {e : Ent} (h : Del H e H') (hp : H.Pairwise fun e f => ∀ b, e.foot = some b → f.foot ≠ some b) : ∀ f ∈ H', ∀ b, e.foot = some b → f.foot ≠ some b := by
 induction h with
 | head e H => exact (List.pairwise_cons.1 hp).1
 | tail g e H H' h ih =>
  obtain ⟨h1, h2⟩ := List.pairwise_cons.1 hp
  intro f hf b hb hfb
  rcases List.mem_cons.1 hf with rfl | hf
  ·exact h1 e h.mem b hfb hb
  ·exact ih h2 f hf b hb hfb
section
variable {c : Ctx} {r : Option Nat} {P : Program} {ops : Array Oper} {l rest : List Oper} {o : Oper} {st : St} {Q : Exit → Act → World → Prop} {x : AV} {H : List Ent} {ρ : Nat → Option AV}
theorem Sat.put1 {a : Act} {w : World} {d : Nat} {y : AV} {env : List (Nat × AV)} {I : Imm} (hv : EnvOk I w (envGet env) a) (h : Rel I w y (a.tmps.getD d undef)) : EnvOk I w (envGet ((d, y) :: env)) a := by
 intro t z hz
 rw [envGet_cons] at hz
 split at hz
 ·rename_i e; subst e; simp at hz; subst hz; exact h
 ·exact hv t z hz
theorem Sat.le {a : Act} {w : World} {d : Nat} {x y : AV} (s : Sat c st a w) (hd : envGet st.env d = some x) (h : AVle x y) : Sat c ⟨(d, y) :: st.env, st.H⟩ a w := by
 obtain ⟨I, hw, he, hh, hv⟩ := s.mem
 exact ⟨s.ds, s.size, I, hw, he, hh, Sat.put1 hv (h _ _ _ (hv d _ hd))⟩
theorem CW.le {p : Code} (d : Nat) {x y : AV} (hd : envGet st.env d = some x) (hle : AVle x y) (h : CW c r P p ⟨(d, y) :: st.env, st.H⟩ Q) : CW c r P p st Q := fun a w s => h a w (s.le hd hle)
theorem OL.le (d : Nat) {x y : AV} (hd : envGet st.env d = some x) (hle : AVle x y) (h : OL c r P ops l ⟨(d, y) :: st.env, st.H⟩ Q) : OL c r P ops l st Q := fun a w s => h a w (s.le hd hle)
theorem Done.le {e : Exit} (d : Nat) {x y : AV} (hd : envGet st.env d = some x) (hle : AVle x y) (h : Done c ⟨(d, y) :: st.env, st.H⟩ e Q) : Done c st e Q := fun a w s => h a w (s.le hd hle)
def appInfo (P : Program) (t : TypeId) : Option (TypeId × Nat × Nat) :=
 match P.underlying t with
 | some (.slice e) => match P.info? e with
  | some i => match i.zero with
   | some z => bif Nat.beq z.cells.size i.size && Nat.blt 0 i.size then some (e, i.size, i.bytes) else none
   | none => none
  | none => none
 | _ => none
class HasApp (P : Program) (t : Nat) (x : outParam (Nat × Nat × Nat)) : Prop where h : appInfo P t = some x
theorem Els.values {I : Imm} {w : World} {k b o : Nat} {els : List (List AV)} (h : Els I w k b o els) : ∃ us, RelL I w els.flatten us ∧ us.length = els.length * k ∧ ∀ j u, us[j]? = some u → w.cell? ((⟨b, o, none⟩ : Addr).add j) = some u := by
 obtain ⟨us, h1, h2⟩ := h.cells.values
 refine ⟨us, h1, ?_, fun j u hu => ?_⟩
 ·rw [h1.length, h.flatten_length]
 ·have : (⟨b, o, none⟩ : Addr).add j = ⟨b, o + j, none⟩ := by unfold Addr.add; split <;> simp_all
  rw [this]; exact h2 j u hu
theorem flatten_len {k : Nat} : ∀ {els : List (List AV)}, (∀ x ∈ els, x.length = k) → els.flatten.length = els.length * k
 | [], _ => by simp
 | e :: els, h => by rw [List.flatten_cons, List.length_append, flatten_len (fun x hx => h x (.tail _ hx)), h e (.head _), List.length_cons, Nat.add_mul]; omega
theorem cells_of {I : Imm} {w : World} {b : Nat} {vs : Array Value} {t : TypeId} (hb : w.heap[b]? = some (.cells vs t (0, 0))) : ∀ (ys : List AV) (zs : List Value) (o : Nat), RelL I w ys zs → (∀ j u, zs[j]? = some u → vs[o + j]? = some u) → (∀ j, j < ys.length → I b (o + j)) → Cells I w b o ys
 | [], _, o, _, _, _ => .nil _ _
 | y :: ys, _, o, .cons _ v _ zs hx ht, hz, hI => by
  refine .cons _ _ _ v _ (by rw [cell_of_blk hb]; simpa using hz 0 v rfl) (by simpa using hI 0 (by simp)) hx (cells_of hb ys zs (o + 1) ht (fun j u hu => ?_) (fun j hj => ?_))
  ·have := hz (j + 1) u (by simpa using hu)
   have e : o + (j + 1) = o + 1 + j := by omega
   rwa [e] at this
  ·have := hI (j + 1) (by simp; omega)
   have e : o + (j + 1) = o + 1 + j := by omega
   rwa [e] at this
end
inductive ResOk (P : Program) (st : St) : List ResultVar → List AV → Prop
 | nil : ResOk P st [] []
 | tmp {t : Nat} {y : AV} {rs : List ResultVar} {ys : List AV} (h : aev (envGet st.env) (.tmp t) = some (true, y)) (r : ResOk P st rs ys) : ResOk P st (.tmp t :: rs) (y :: ys)
 | cellA {t ty b off tb n : Nat} {cs zs : List AV} {rs : List ResultVar} {ys : List AV} (hT : HasTy P ty (true, n)) (h : envGet st.env t = some (.p b off)) (hm : Ent.blk b tb cs ∈ st.H) (hz : (cs.drop off).take n = zs) (hn : Nat.beq zs.length n = true) (r : ResOk P st rs ys) : ResOk P st (.cell t ty :: rs) (.agg zs :: ys)
 | cell1 {t ty b off tb n : Nat} {cs : List AV} {z : AV} {rs : List ResultVar} {ys : List AV} (hT : HasTy P ty (false, n)) (h : envGet st.env t = some (.p b off)) (hm : Ent.blk b tb cs ∈ st.H) (hz : cs[off]? = some z) (r : ResOk P st rs ys) : ResOk P st (.cell t ty :: rs) (z :: ys)
 | ptrA {t ty n : Nat} {cs : List AV} {rs : List ResultVar} {ys : List AV} (hT : HasTy P ty (true, n)) (h : envGet st.env t = some (.ptr cs)) (hn : Nat.ble n cs.length = true) (r : ResOk P st rs ys) : ResOk P st (.cell t ty :: rs) (.agg (cs.take n) :: ys)
 | ptr1 {t ty n : Nat} {cs : List AV} {z : AV} {rs : List ResultVar} {ys : List AV} (hT : HasTy P ty (false, n)) (h : envGet st.env t = some (.ptr cs)) (hz : cs[0]? = some z) (r : ResOk P st rs ys) : ResOk P st (.cell t ty :: rs) (z :: ys)
def resStep (tmps : Array Value) : ResultVar → Sem Value
 | .tmp t => pure (tmps.getD t undef)
 | .cell a t => do loadVar t (← asAddr (tmps.getD a undef))
theorem ResOk.run {c : Ctx} {P : Program} {st : St} {a : Act} {w : World} {I : Imm} (hh : HeapOk c.B I w st.H) (hv : EnvOk I w (envGet st.env) a) : ∀ {rs : List ResultVar} {ys : List AV}, ResOk P st rs ys →
  ∃ vs, (rs.mapM (resStep a.tmps)).run P w = .ok vs w ∧ RelL I w ys vs := by
 intro rs ys h
 have stepped : ∀ {r : ResultVar} {rs : List ResultVar} {y : AV} {ys : List AV} {v : Value}, (resStep a.tmps r).run P w = .ok v w → Rel I w y v → (∃ vs, (rs.mapM (resStep a.tmps)).run P w = .ok vs w ∧ RelL I w ys vs) → ∃ vs, ((r :: rs).mapM (resStep a.tmps)).run P w = .ok vs w ∧ RelL I w (y :: ys) vs := by
  rintro r rs y ys v h1 h2 ⟨vs, h3, h4⟩
  exact ⟨v :: vs, by simp only [List.mapM_cons, Sem.run_bind, h1, h3, Result.andThen_ok, Sem.run_pure], .cons _ _ _ _ h2 h4⟩
 induction h with
 | nil => exact ⟨[], rfl, .nil⟩
 | @tmp t y rs ys h r ih =>
  refine stepped (v := a.tmps.getD t undef) rfl ?_ ih
  unfold aev at h
  cases hx : aeval (envGet st.env) (.tmp t) with
  | none => simp [hx] at h
  | some z => simp [hx] at h; exact rel_strip (hv t z hx) h rfl
 | @cellA t ty b off tb n cs zs rs ys hT h hm hz hn r ih =>
  have h0 := rel_val (hv t _ h)
  obtain ⟨_, vs, hb, hr, _⟩ := hh.ok _ hm
  have hrel : RelL I w zs ((vs.toList.drop off).take n) := by rw [← hz]; exact (hr.drop off).take n
  have hlen : ((vs.toList.drop off).take n).length = n := by rw [hrel.length]; exact Nat.eq_of_beq_eq_true hn
  have hl := run_loadVar_agg (P := P) hT.h b off ((vs.toList.drop off).take n) w hlen (fun j v hj => by
   rw [cell_of_blk hb]
   rw [List.getElem?_take] at hj
   split at hj
   ·simpa using hj
   ·cases hj)
  refine stepped (v := .agg ((vs.toList.drop off).take n).toArray) ?_ (.agg _ _ (by simpa using hrel)) ih
  simp [resStep, h0, asAddr, hl]
 | @cell1 t ty b off tb n cs z rs ys hT h hm hz r ih =>
  have h0 := rel_val (hv t _ h)
  obtain ⟨_, vs, hb, hr, _⟩ := hh.ok _ hm
  obtain ⟨v, h1, h2⟩ := hr.get hz
  have hl := run_loadVar_one (P := P) hT.h b off v w (by rw [cell_of_blk hb]; simpa using h1)
  refine stepped (v := v) ?_ h2 ih
  simp [resStep, h0, asAddr, hl]
 | @ptrA t ty n cs rs ys hT h hn r ih =>
  have h0 := hv t _ h
  generalize hu : a.tmps.getD t undef = u at h0
  cases h0 with
  | ptr _ b o hc =>
   obtain ⟨vs, h1, h2⟩ := (hc.take n).values
   have hlen : vs.length = n := by rw [h1.length, List.length_take]; exact Nat.min_eq_left (Nat.le_of_ble_eq_true hn)
   have hl := run_loadVar_agg (P := P) hT.h b o vs w hlen h2
   refine stepped (v := .agg vs.toArray) ?_ (.agg _ _ (by simpa using h1)) ih
   simp only [resStep, hu, asAddr, Sem.run_bind, Sem.run_pure, Result.andThen_ok, hl]
 | @ptr1 t ty n cs z rs ys hT h hz r ih =>
  have h0 := hv t _ h
  generalize hu : a.tmps.getD t undef = u at h0
  cases h0 with
  | ptr _ b o hc =>
   obtain ⟨v, h1, _, h2⟩ := hc.get hz
   have hl := run_loadVar_one (P := P) hT.h b o v w (by simpa using h1)
   refine stepped (v := v) ?_ h2 ih
   simp only [resStep, hu, asAddr, Sem.run_bind, Sem.run_pure, Result.andThen_ok, hl]
def tupOf : List AV → AV
 | [x] => x
 | xs => .tup xs
theorem ResOk.res {c : Ctx} {P : Program} {st : St} {a : Act} {w : World} {I : Imm} (hh : HeapOk c.B I w st.H) (hv : EnvOk I w (envGet st.env) a) {fn : Func} {rs : List ResultVar} (hr : fn.results = rs.toArray) {ys : List AV} (h : ResOk P st rs ys) :
  ∃ v, (results fn a.tmps).run P w = .ok v w ∧ Rel I w (tupOf ys) v := by
 obtain ⟨vs, h1, h2⟩ := h.run hh hv
 have hf : (results fn a.tmps).run P w = .ok (if h : vs.length = 1 then vs[0] else .tuple vs.toArray) w := by
  unfold Go.results
  rw [hr, List.mapM_toArray]
  simp only [Sem.run_bind, Sem.run_map]
  have key : ∀ g : ResultVar → Sem Value, (∀ r, g r = resStep a.tmps r) → (rs.mapM g).run P w = .ok vs w := fun g hg => by rw [show g = resStep a.tmps from funext hg]; exact h1
  rw [key _ (fun r => by cases r <;> rfl)]
  simp
 refine ⟨_, hf, ?_⟩
 cases h2 with
 | nil => exact .tup _ _ .nil
 | cons x v xs vs hx ht =>
  cases ht with
  | nil => simpa [tupOf] using hx
  | cons y u xs vs hy ht => exact .tup _ _ (.cons _ _ _ _ hx (.cons _ _ _ _ hy ht))
section
variable {c : Ctx} {r : Option Nat} {P : Program} {ops : Array Oper} {l rest : List Oper} {o : Oper} {st : St} {Q : Exit → Act → World → Prop} {x : AV}
def FCall (P : Program) (v : Value) (vs : List Value) (w : World) (R : Ending → World → Prop) : Prop :=
 (∃ f vf vc, v = .func (.func f) vf vc ∧ fnOk P f = true ∧ Calls P f (vf ++ vs.toArray ++ vc) w R) ∨
 (∃ l, v = .func (.yield l) #[] #[] ∧ YieldAt (FW none) 0 P l vs.toArray w R)
def VCall (B : Nat) (P : Program) (g : AV) (xs : List AV) (H : List Ent) (Φ : AV → List Ent → Prop) (E : AV → List Ent → Prop) : Prop :=
 ∀ (I : Imm) (w : World) (v : Value) (vs : List Value), WOk B I w → HeapOk B I w H → Rel I w g v → RelL I w xs vs → FCall P v vs w (RetP B I w Φ E)
theorem VCall.fn {B : Nat} {f : FuncId} {fs xs cs : List AV} {H : List Ent} {Φ : AV → List Ent → Prop} {E : AV → List Ent → Prop} (h : ACall P f (fs ++ xs ++ cs) H Φ E) : VCall B P (.fn (.func f) fs cs) xs H Φ E := by
 intro I w v vs hw hh hv hvs
 cases hv with
 | fn _ _ _ vf vc hf hc =>
  refine .inl ⟨f, vf, vc, rfl, h.1, ?_⟩
  have := h.2 B I w (vf.toList ++ vs ++ vc.toList) hw hh ((hf.append hvs).append hc)
  have e : (vf.toList ++ vs ++ vc.toList).toArray = vf ++ vs.toArray ++ vc := by apply Array.ext'; simp
  rwa [e] at this
def BCall (B : Nat) (P : Program) (f : FuncId) (xs : List AV) (H : List Ent) (Φ : AV → List Ent → Prop) (E : AV → List Ent → Prop) : Prop :=
 fnOk P f = true ∧ ∀ (I : Imm) (w : World) (vs : List Value), WOk B I w → HeapOk B I w H → RelL I w xs vs → Calls P f vs.toArray w (RetP B I w Φ E)
theorem ACall.b {B : Nat} {f : FuncId} {xs : List AV} {H : List Ent} {Φ : AV → List Ent → Prop} {E : AV → List Ent → Prop} (h : ACall P f xs H Φ E) : BCall B P f xs H Φ E := ⟨h.1, h.2 B⟩
theorem BCall.of {B : Nat} {f : FuncId} {fn : Func} {code : Code} {xs : List AV} {H : List Ent} {Φ : AV → List Ent → Prop} {E : AV → List Ent → Prop} {n : Nat} (hf : P.funcs[f]? = some fn) (hb : fn.body = some code) (hnm : (fn.name == "runtime.NumGoroutine") = false)
  (hn : fn.ntmps = n) (hl : Nat.ble xs.length n = true) (h : ∀ I w, CW ⟨B, I, w, n, []⟩ none P code ⟨envOf 0 xs, H⟩ (bodyPost P fn (RetP B I w Φ E))) : BCall B P f xs H Φ E := by
 refine ⟨by simp [fnOk, hf, hb, hnm], fun I w vs hw hh hv => calls_of_FW (n := 0) (callsIn_of_wp hf hb trivial ?_ rfl)⟩
 refine h I w _ w ⟨rfl, ?_, I, hw, Ext.refl _ _ _, hh, fun t y hy => ?_⟩
 ·have := hv.length
  have := Nat.le_of_ble_eq_true hl
  simp; omega
 ·obtain ⟨v, h1, h2⟩ := hv.get (by have := (envOf_get xs 0 t y hy).2; simpa using this)
  have : (vs.toArray ++ Array.replicate (fn.ntmps - vs.toArray.size) undef).getD t undef = v := by
   have hlt := (List.getElem?_eq_some_iff.1 h1).1
   simp only [Array.getD_eq_getD_getElem?]
   rw [Array.getElem?_append_left (by simpa using hlt)]
   simp [h1]
  rw [this]; exact h2
theorem run_callYield {x : Operand} {args : Array Operand} {ts : Array TypeId} {l : Nat} (h : o.op = .call { callee := .value x, args := args, argTypes := ts }) (a : Act) (w : World)
  (hx : a.eval x = .func (.yield l) #[] #[]) {fn : FuncId} {tmps : Array Value} {assign body : Code} (hy : (Instr.yield l (args.map a.eval)).run P w = .ok (.round l fn tmps assign body) w) :
  (execOp a.eval o).run P w = .ok (.round l fn tmps assign body) w := by
 simp [execOp, h, resolve, hx, Deferred.ofValue, invoke, hy]
end
def CbOk {α : Type} (B : Nat) (P : Program) (g : AV) (enc : α → AV) (L : List α) (F : List Ent → Prop) (J Jx : List α → List Ent → Prop) : Prop :=
 ∀ pre x H Hx, pre ++ [x] <+: L → F Hx → J pre H → VCall B P g [enc x] (H ++ Hx) (fun y H' => ∃ b H1, y = .b b ∧ H' = H1 ++ Hx ∧ (b = true → J (pre ++ [x]) H1) ∧ (b = false → Jx (pre ++ [x]) H1)) (fun _ _ => False)
def SeqOk {α : Type} (B : Nat) (P : Program) (gv : AV) (enc : α → AV) (L : List α) : Prop :=
 ∀ (J Jx : List α → List Ent → Prop) (f : Fn) (fs cs : List AV), CbOk B P (.fn f fs cs) enc L (fun _ => True) J Jx → ∀ H Hx, J [] H →
  VCall B P gv [.fn f fs cs] (H ++ Hx) (fun _ H' => ∃ H1, H' = H1 ++ Hx ∧ (J L H1 ∨ ∃ pre, pre <+: L ∧ Jx pre H1)) (fun _ _ => False)
theorem HeapOk.newObj {B : Nat} {I : Imm} {w : World} {H : List Ent} (h : HeapOk B I w H) (hw : WOk B I w) (o : Obj) : HeapOk B I (w.alloc o) (.obj w.heap.size o :: H) := by
 have h' := h.alloc hw o
 refine ⟨fun e he => ?_, List.pairwise_cons.2 ⟨fun f hf b hb => ?_, h'.apart⟩⟩
 ·rcases List.mem_cons.1 he with rfl | he
  ·exact ⟨hw.base, World.alloc_heap_new w o, fun o' ho => absurd (hw.lt ho) (Nat.lt_irrefl _)⟩
  ·exact h'.ok e he
 ·simp [Ent.foot] at hb; subst hb
  intro e
  exact absurd (Ent.foot_lt (h.ok f hf) e).2 (Nat.lt_irrefl _)
theorem putObj_keeps {B : Nat} {I : Imm} {w : World} {b : Nat} {o' : Obj} (hni : ∀ o, ¬ I b o) : Keeps I w I (w.putObj b o') :=
 ⟨fun _ _ x => x, fun b' o x => World.cell?_of_block (a := ⟨b', o, none⟩) (World.putObj_heap_other (fun e => hni o (e ▸ x)))⟩
theorem WOk.putObj {B : Nat} {I : Imm} {w : World} (h : WOk B I w) {b : Nat} {o' : Obj} (hni : ∀ o, ¬ I b o) : WOk B I (w.putObj b o') :=
 ⟨by simpa using h.base, fun b' o x => by rw [(putObj_keeps (B := B) (o' := o') hni).cell b' o x]; exact h.there b' o x⟩
theorem below_putObj {B b : Nat} {w : World} {o : Obj} (h : B ≤ b) : Below B w (w.putObj b o) :=
 ⟨rfl, rfl, rfl, by simp, fun j hj => World.putObj_heap_other (by omega)⟩
theorem HeapOk.putLoop {B : Nat} {I : Imm} {w : World} {H H' : List Ent} {b : Nat} {lp lp' : Loop} {ρ : Nat → Option AV} (h : HeapOk B I w H) (hu : Upd H (.loop b lp ρ) (.loop b lp' ρ) H') (ht : lp'.tmps = lp.tmps) : HeapOk B I (w.putObj b (.loop lp')) H' := by
 obtain ⟨hB, hb, hv, hni⟩ := h.ok _ hu.mem
 refine h.upd hu (putObj_keeps (B := B) hni) (fun k hk hne => World.putObj_heap_other (fun e => hne (by rw [e]; rfl))) (fun _ _ x => .inl x) ⟨hB, World.putObj_heap_same (Array.getElem?_eq_some_iff.1 hb).1, fun t x hx => ?_, hni⟩ (fun k hk => .inl hk)
 rw [ht]
 exact (hv t x hx).keep (putObj_keeps (B := B) hni)
theorem HeapOk.newLoop {B : Nat} {I : Imm} {w : World} {H : List Ent} (h : HeapOk B I w H) (hw : WOk B I w) (lp : Loop) (ρ : Nat → Option AV) (hρ : ∀ t x, ρ t = some x → Rel I w x (lp.tmps.getD t undef)) : HeapOk B I (w.alloc (.loop lp)) (.loop w.heap.size lp ρ :: H) := by
 have h' := h.alloc hw (.loop lp)
 refine ⟨fun e he => ?_, List.pairwise_cons.2 ⟨fun f hf b hb => ?_, h'.apart⟩⟩
 ·rcases List.mem_cons.1 he with rfl | he
  ·exact ⟨hw.base, World.alloc_heap_new w _, fun t x hx => (hρ t x hx).keep (keeps_alloc hw _), fun o' ho => absurd (hw.lt ho) (Nat.lt_irrefl _)⟩
  ·exact h'.ok e he
 ·simp [Ent.foot] at hb; subst hb
  intro e
  exact absurd (Ent.foot_lt (h.ok f hf) e).2 (Nat.lt_irrefl _)
theorem Ext.putObj {B : Nat} {I : Imm} {w : World} {b : Nat} {o' : Obj} (hB : B ≤ b) (hni : ∀ o, ¬ I b o) : Ext B I w I (w.putObj b o') :=
 ⟨fun _ _ x => x, (putObj_keeps (B := B) hni).cell, below_putObj hB⟩
def roundEnd {α : Type} (B : Nat) (I0 : Imm) (w0 : World) (l D : Nat) (lp : Loop) (ρ : Nat → Option AV) (J : List α → List Ent → Prop) (Jx : Code → List α → List Ent → Prop) (pre : List α) (Hx : List Ent) : Exit → Act → World → Prop := fun e _ w =>
 ∃ I H, WOk B I w ∧ Ext B I0 w0 I w ∧ HeapOk B I w (.loop l lp ρ :: .obj D (.deferred (some [])) :: (H ++ Hx)) ∧
  match e with
  | .normal => J pre H
  | .ret => Jx .ret pre H
  | .exit id => Jx (.exit id) pre H
  | _ => False
def FindOk {α : Type} (B : Nat) (P : Program) (g : AV) (enc : α → AV) (L : List α) (F : List Ent → Prop) (J Jx : List α → List Ent → Prop) : Prop :=
 ∀ pre x H Hx, pre ++ [x] <+: L → F Hx → J pre H → VCall B P g [enc x] (H ++ Hx) (fun y H' => ∃ b H1, y = .b b ∧ H' = H1 ++ Hx ∧ (b = false → J (pre ++ [x]) H1) ∧ (b = true → Jx (pre ++ [x]) H1)) (fun _ _ => False)
def PredOn {α : Type} (P : Program) (Hm : List Ent) (g : AV) (enc : α → AV) (l : List α) (p : α → Bool) : Prop := ∀ x ∈ l, ∀ B H, (∀ e ∈ Hm, e ∈ H) → VCall B P g [enc x] H (fun y H' => y = .b (p x) ∧ H' = H) (fun _ _ => False)
def PredOk {α : Type} (P : Program) (g : AV) (enc : α → AV) (p : α → Bool) : Prop := ∀ B x H, VCall B P g [enc x] H (fun y H' => y = .b (p x) ∧ H' = H) (fun _ _ => False)
theorem PredOk.on {α : Type} {P : Program} {g : AV} {enc : α → AV} {p : α → Bool} (h : PredOk P g enc p) (l : List α) : PredOn P [] g enc l p := fun x _ B H _ => h B x H
theorem PredOn.find {α : Type} {B : Nat} {P : Program} {Hm : List Ent} {g : AV} {enc : α → AV} {l : List α} {p : α → Bool} (h : PredOn P Hm g enc l p) : FindOk B P g enc l (fun Hx => ∀ e ∈ Hm, e ∈ Hx) (fun pre H => H = [] ∧ ∀ x ∈ pre, p x = false) (fun pre H => H = [] ∧ ∃ q x, pre = q ++ [x] ∧ (∀ y ∈ q, p y = false) ∧ p x = true) := by
 rintro pre x H Hx hpx hF ⟨rfl, hp⟩ I w v vs hw hh hv hvs
 have := h x (hpx.subset (by simp)) B Hx hF I w v vs hw hh hv hvs
 have conv : ∀ e w', RetP B I w (fun y H' => y = .b (p x) ∧ H' = Hx) (fun _ _ => False) e w' → RetP B I w (fun y H' => ∃ b H1, y = .b b ∧ H' = H1 ++ Hx ∧ (b = false → H1 = [] ∧ ∀ y ∈ pre ++ [x], p y = false) ∧ (b = true → H1 = [] ∧ ∃ q z, pre ++ [x] = q ++ [z] ∧ (∀ y ∈ q, p y = false) ∧ p z = true)) (fun _ _ => False) e w' := by
  rintro e w' ⟨I', H', a, b, d, hr⟩
  refine ⟨I', H', a, b, d, hr.elim (fun ⟨v, y, e1, e2, e3, e4⟩ => .inl ⟨v, y, e1, e2, p x, [], e3, by simp [e4], fun hb => ⟨rfl, fun y hy => ?_⟩, fun hb => ⟨rfl, pre, x, rfl, hp, hb⟩⟩) (fun ⟨_, _, _, _, h⟩ => h.elim)⟩
  rcases List.mem_append.1 hy with hy | hy
  ·exact hp y hy
  ·simp at hy; subst hy; exact hb
 exact this.elim (fun ⟨f, vf, vc, e, hok, hc⟩ => .inl ⟨f, vf, vc, e, hok, hc.mono conv⟩) (fun ⟨l, e, hy⟩ => .inr ⟨l, e, hy.mono conv⟩)
section
variable {c : Ctx} {r : Option Nat} {P : Program} {ops : Array Oper} {rest : List Oper} {o : Oper} {st : St} {Q : Exit → Act → World → Prop} {x : AV}
theorem Done.roundN {α : Type} {B : Nat} {I0 : Imm} {w0 : World} {n l D : Nat} {lp : Loop} {ρ : Nat → Option AV} {J : List α → List Ent → Prop} {Jx : Code → List α → List Ent → Prop} {pre : List α} {H Hx : List Ent} {ds : List Deferred}
  (hH : (.loop l lp ρ :: .obj D (.deferred (some [])) :: (H ++ Hx)).Sublist st.H) (hJ : J pre H) : Done ⟨B, I0, w0, n, ds⟩ st .normal (roundEnd B I0 w0 l D lp ρ J Jx pre Hx) := fun a w s =>
 let ⟨I, hw, he, hh, hv⟩ := s.mem; ⟨I, H, hw, he, hh.sub hH, hJ⟩
theorem RetP.mono {B : Nat} {I : Imm} {w : World} {Φ Φ' : AV → List Ent → Prop} {E E' : AV → List Ent → Prop} {e : Ending} {w' : World} (h : RetP B I w Φ E e w') (h1 : ∀ y H, Φ y H → Φ' y H) (h2 : ∀ y H, E y H → E' y H) : RetP B I w Φ' E' e w' := by
 obtain ⟨I', H', a, b, d, hr⟩ := h
 exact ⟨I', H', a, b, d, hr.elim (fun ⟨v, x, e1, e2, e3⟩ => .inl ⟨v, x, e1, e2, h1 _ _ e3⟩) (fun ⟨v, x, e1, e2, e3⟩ => .inr ⟨v, x, e1, e2, h2 _ _ e3⟩)⟩
theorem FCall.mono {v : Value} {vs : List Value} {w : World} {R R' : Ending → World → Prop} (h : FCall P v vs w R) (hr : ∀ e w, R e w → R' e w) : FCall P v vs w R' :=
 h.elim (fun ⟨f, vf, vc, e, hok, hc⟩ => .inl ⟨f, vf, vc, e, hok, hc.mono hr⟩) (fun ⟨l, e, hy⟩ => .inr ⟨l, e, hy.mono hr⟩)
theorem VCall.mono {B : Nat} {g : AV} {xs : List AV} {H : List Ent} {Φ Φ' : AV → List Ent → Prop} {E E' : AV → List Ent → Prop} (h : VCall B P g xs H Φ E) (h1 : ∀ y H, Φ y H → Φ' y H) (h2 : ∀ y H, E y H → E' y H) : VCall B P g xs H Φ' E' :=
 fun I w v vs hw hh hv hvs => (h I w v vs hw hh hv hvs).mono fun _ _ hr => hr.mono h1 h2
theorem envGet_zip {I : Imm} {w : World} {env : List (Nat × AV)} {a : Act} {p : Nat} {v : Value} {y : AV} (h : EnvOk I w (envGet env) a) (hp : p < a.tmps.size) (hy : Rel I w y v) (ds : List Deferred) : EnvOk I w (envGet ((p, y) :: env)) { tmps := a.tmps.setIfInBounds p v, defers := ds } := by
 intro t z hz
 rw [envGet_cons] at hz
 show Rel I w z ((a.tmps.setIfInBounds p v).getD t undef)
 split at hz
 ·rename_i e; subst e; simp at hz; subst hz
  simp [Array.getD, hp]; exact hy
 ·rename_i e
  have := h t z hz
  simp only [Array.getD_eq_getD_getElem?] at this ⊢
  rwa [Array.getElem?_setIfInBounds_ne (Ne.symm e)]
theorem CW.rangeFunc {α : Type} {t p : Nat} {assign body : Code} {f : FuncId} {caps : List AV} (enc : α → AV) (L : List α) (J : List α → List Ent → Prop) (Jx : Code → List α → List Ent → Prop) (H Hx : List Ent) (env' : α → List (Nat × AV))
  (hr : r = none) (hH : st.H = H ++ Hx) (hg : envGet st.env t = some (.fn (.func f) [] caps)) (hp : Nat.blt p c.n = true) (hseq : SeqOk c.B P (.fn (.func f) [] caps) enc L) (hJ : J [] H)
  (assignOk : ∀ (l : Nat) (I : Imm) (w : World) (x : α) (Hy : List Ent), CW ⟨c.B, I, w, c.n, []⟩ (some l) P assign ⟨(p, enc x) :: st.env, Hy⟩ (Exit.then (fun a w' => ∃ st', st' = (⟨env' x, Hy⟩ : St) ∧ Sat ⟨c.B, I, w, c.n, []⟩ st' a w') (fun _ _ _ => False)))
  (round : ∀ (l D : Nat) (lp : Loop) (pre : List α) (x : α) (H1 Hy : List Ent) (I : Imm) (w : World), pre ++ [x] <+: L → J pre H1 →
   CW ⟨c.B, I, w, c.n, []⟩ (some l) P body ⟨env' x, .loop l lp (envGet st.env) :: .obj D (.deferred (some [])) :: (H1 ++ Hy)⟩ (roundEnd c.B I w l D lp (envGet st.env) J Jx (pre ++ [x]) Hy))
  (done : ∀ (D : Nat) (H1 : List Ent), J L H1 → Done ⟨c.B, c.I0, c.w0, c.n, { target := .collected D, args := #[] } :: c.ds⟩ ⟨st.env, .obj D (.deferred (some [])) :: (H1 ++ Hx)⟩ .normal Q)
  (jump : ∀ (D : Nat) (code : Code) (pre : List α) (H1 : List Ent), pre <+: L → Jx code pre H1 → CW ⟨c.B, c.I0, c.w0, c.n, { target := .collected D, args := #[] } :: c.ds⟩ r P code ⟨st.env, .obj D (.deferred (some [])) :: (H1 ++ Hx)⟩ Q) :
  CW c r P (.rangeFunc (.tmp t) #[p] assign body) st Q := by
 intro a w s
 subst hr
 obtain ⟨I, hw, he, hh, hv⟩ := s.mem
 rw [hH] at hh
 refine wpIn_rangeFunc fun fn hfn => ?_
 obtain ⟨lr, hlr⟩ : ∃ lr : Loop, lr = { state := .ready, pending := none, fn, tmps := a.tmps, params := #[p], assign, body, defers := w.heap.size } := ⟨_, rfl⟩
 have hgv := hv t _ hg
 generalize hu : a.tmps.getD t undef = u at hgv
 cases hgv with
 | fn _ _ _ vf vc hf hc =>
 have hvf : vf = #[] := by cases vf with | mk l => cases hf; rfl
 subst hvf
 have hh1 := hh.newObj hw (.deferred (some []))
 have hw1 := hw.alloc (.deferred (some []))
 have hv1 := hv.keep (keeps_alloc hw (.deferred (some [])))
 have hh2 := hh1.newLoop hw1 lr (envGet st.env) (by rw [hlr]; exact hv1)
 have hw2 := hw1.alloc (.loop lr)
 rw [World.size_alloc] at hh2
 have k2 : Ext c.B I w I ((w.alloc (.deferred (some []))).alloc (.loop lr)) := (ext_alloc hw _).trans (ext_alloc hw1 _)
 let J' : List α → List Ent → Prop := fun pre Hf => ∃ H1, J pre H1 ∧ Hf = .loop (w.heap.size + 1) lr (envGet st.env) :: .obj w.heap.size (.deferred (some [])) :: (H1 ++ Hx)
 let Jx' : List α → List Ent → Prop := fun pre Hf => ∃ code H1, Jx code pre H1 ∧ Hf = .loop (w.heap.size + 1) { lr with state := .done, pending := some code } (envGet st.env) :: .obj w.heap.size (.deferred (some [])) :: (H1 ++ Hx)
 have hsz : a.tmps.size = c.n := s.size
 have hpn : p < c.n := Nat.lt_of_succ_le (by simpa [Nat.blt] using hp)
 have hcb : CbOk c.B P (.fn (.yield (w.heap.size + 1)) [] []) enc L (fun _ => True) J' Jx' := by
  rintro pre x Hf Hy hpx _ ⟨H1, hJ1, rfl⟩ I2 W v vs hwW hhW hvW hvs
  obtain rfl : v = .func (.yield (w.heap.size + 1)) #[] #[] := by
   cases hvW with
   | fn _ _ _ vf vc hf hc =>
    cases vf with
    | mk lf => cases vc with
     | mk lc => cases hf; cases hc; rfl
  cases hvs with
  | cons _ v1 _ vs' hx1 ht =>
  cases ht
  obtain ⟨hBl, hbl, hρ, hnil⟩ := hhW.ok (.loop (w.heap.size + 1) lr (envGet st.env)) (by simp)
  have hy := run_yield (P := P) (args := #[v1]) hbl (by rw [hlr]; rfl)
  refine .inr ⟨_, rfl, fn, a.tmps.setIfInBounds p v1, assign, body, ?_, ?_⟩
  ·rw [hlr] at hy
   simpa using hy
  ·refine roundIn_of_wpIn (F := FW none) (n := 0) trivial ?_
   have hhW' : HeapOk c.B I2 W (.loop (w.heap.size + 1) lr (envGet st.env) :: .obj w.heap.size (.deferred (some [])) :: (H1 ++ (Hx ++ Hy))) := by
    simpa [List.append_assoc] using hhW
   have hst : Sat ⟨c.B, I2, W, c.n, []⟩ ⟨(p, enc x) :: st.env, .loop (w.heap.size + 1) lr (envGet st.env) :: .obj w.heap.size (.deferred (some [])) :: (H1 ++ (Hx ++ Hy))⟩ { tmps := a.tmps.setIfInBounds p v1, defers := [] } W := by
    refine ⟨rfl, by simpa using hsz, I2, hwW, Ext.refl _ _ _, hhW', ?_⟩
    refine envGet_zip (a := a) (fun t y hty => ?_) (by rw [hsz]; exact hpn) hx1 []
    have := hρ t y hty
    rw [hlr] at this
    exact this
   refine wpIn_mono (assignOk (w.heap.size + 1) I2 W x _ _ W hst) fun e a3 W3 hp3 => ?_
   cases e with
   | normal =>
    obtain ⟨st', rfl, s3⟩ := hp3
    obtain ⟨I3, hw3, he3, hh3, hv3⟩ := s3.mem
    obtain ⟨hBl3, hbl3, _, hni3⟩ := hh3.ok _ (.head _)
    refine ⟨_, run_beginRound hbl3 (by rw [hlr]), ?_⟩
    have hh4 := hh3.putLoop (lp' := { lr with state := .busy }) (.head _ _ _) rfl
    have he4 : Ext c.B I3 W3 I3 (W3.putObj (w.heap.size + 1) (.loop { lr with state := .busy })) := Ext.putObj hBl3 hni3
    have s4 : Sat ⟨c.B, I2, W, c.n, []⟩ ⟨env' x, .loop (w.heap.size + 1) { lr with state := .busy } (envGet st.env) :: .obj w.heap.size (.deferred (some [])) :: (H1 ++ (Hx ++ Hy))⟩ a3 (W3.putObj (w.heap.size + 1) (.loop { lr with state := .busy })) :=
     ⟨s3.ds, s3.size, I3, hw3.putObj hni3, he3.trans he4, hh4, hv3.keep he4.keeps⟩
    refine wpIn_mono (round _ _ _ pre x H1 (Hx ++ Hy) I2 W hpx hJ1 a3 _ s4) fun e a5 W5 hp5 => ?_
    obtain ⟨I5, H5, hw5, he5, hh5, hcase⟩ := hp5
    obtain ⟨hBl5, hbl5, _, hni5⟩ := hh5.ok _ (.head _)
    have fin : ∀ jp : Option Code, (Instr.endRound (w.heap.size + 1) jp).run P W5 = .ok (.bool jp.isNone) (W5.putObj (w.heap.size + 1) (.loop { lr with state := if jp.isNone then .ready else .done, pending := jp })) ∧
      ∀ (b : Bool) (Hn : List Ent), b = jp.isNone → Hn = .loop (w.heap.size + 1) { lr with state := if jp.isNone then .ready else .done, pending := jp } (envGet st.env) :: .obj w.heap.size (.deferred (some [])) :: (H5 ++ Hx) → (b = true → J' (pre ++ [x]) Hn) → (b = false → Jx' (pre ++ [x]) Hn) →
       RetP c.B I2 W (fun y H' => ∃ b H1, y = .b b ∧ H' = H1 ++ Hy ∧ (b = true → J' (pre ++ [x]) H1) ∧ (b = false → Jx' (pre ++ [x]) H1)) (fun _ _ => False) (.returned (.bool jp.isNone)) (W5.putObj (w.heap.size + 1) (.loop { lr with state := if jp.isNone then .ready else .done, pending := jp })) := by
     intro jp
     refine ⟨by have h9 := run_endRound (P := P) jp hbl5; exact h9, fun b Hn hb hHn h1 h2 => ?_⟩
     have hh6 := hh5.putLoop (lp' := { lr with state := if jp.isNone then .ready else .done, pending := jp }) (.head _ _ _) rfl
     refine ⟨I5, Hn ++ Hy, hw5.putObj hni5, he5.trans (Ext.putObj hBl5 hni5), ?_, .inl ⟨_, .b b, rfl, by rw [hb]; exact .val _, b, Hn, rfl, rfl, h1, h2⟩⟩
     rw [hHn]
     simpa [List.append_assoc] using hh6
    cases e with
    | normal =>
     obtain ⟨e1, e2⟩ := fin none
     exact ⟨_, _, e1, e2 true _ rfl rfl (fun _ => ⟨H5, hcase, by rw [hlr]; rfl⟩) (fun h => by cases h)⟩
    | ret =>
     obtain ⟨e1, e2⟩ := fin (some .ret)
     exact ⟨_, _, e1, e2 false _ rfl rfl (fun h => by cases h) (fun _ => ⟨.ret, H5, hcase, rfl⟩)⟩
    | exit id =>
     obtain ⟨e1, e2⟩ := fin (some (.exit id))
     exact ⟨_, _, e1, e2 false _ rfl rfl (fun h => by cases h) (fun _ => ⟨.exit id, H5, hcase, rfl⟩)⟩
    | goto t => exact hcase.elim
    | panic ch => exact hcase.elim
    | outgrown => exact hcase.elim
   | exit id => exact hp3.elim
   | goto t => exact hp3.elim
   | ret => exact hp3.elim
   | panic ch => exact hp3.elim
   | outgrown => exact hp3.elim
 have hcall := hseq J' Jx' _ _ _ hcb _ [] ⟨H, hJ, rfl⟩ I _ (.func (.func f) #[] vc) [.func (.yield (w.heap.size + 1)) #[] #[]] hw2 (by simpa using hh2) (.fn _ _ _ _ _ .nil (hc.keep k2.keeps)) (.cons _ _ _ _ (.fn _ _ _ _ _ .nil .nil) .nil)
 rcases hcall with ⟨f', vf', vc', e1, hok, hcalls⟩ | ⟨l, e1, _⟩
 ·simp only [Value.func.injEq, Fn.func.injEq] at e1
  obtain ⟨rfl, rfl, rfl⟩ := e1
  refine ⟨w.heap.size + 1, [{ target := .collected w.heap.size, args := #[] }], (w.alloc (.deferred (some []))).alloc (.loop lr), { target := .fn (.func f) vc, args := #[.func (.yield (w.heap.size + 1)) #[] #[]] }, (w.alloc (.deferred (some []))).alloc (.loop lr), f,
   #[.func (.yield (w.heap.size + 1)) #[] #[]] ++ vc, (w.alloc (.deferred (some []))).alloc (.loop lr), ?_, ?_, fun _ _ => trivial, ?_, by simp [FW], ?_⟩
  ·rw [hlr]; exact run_enterLoop_outer fn a.tmps #[p] assign body
  ·have hev : a.eval (.tmp t) = .func (.func f) #[] vc := hu
   simp only [resolve, rangeCall, hev]
   simp [Deferred.ofValue, Act.eval]
  ·simp [invoke, run_callFunc hok]
  ·have e0 : (#[] ++ [Value.func (Fn.yield (w.heap.size + 1)) #[] #[]].toArray ++ vc) = #[Value.func (Fn.yield (w.heap.size + 1)) #[] #[]] ++ vc := by simp
   rw [e0] at hcalls
   refine callsIn_FW (hcalls.mono fun e W hR => ?_)
   obtain ⟨I6, H6, hw6, he6, hh6, hor⟩ := hR
   rcases hor with hor | hor
   ·obtain ⟨v, y, rfl, _, hor⟩ := hor
    obtain ⟨Hn, hHn, hJn⟩ := hor
    rw [List.append_nil] at hHn
    subst hHn
    rcases hJn with ⟨H1, hJL, rfl⟩ | ⟨pre, hpre, code, H1, hJX, rfl⟩
    ·obtain ⟨hB6, hb6, _, hni6⟩ := hh6.ok _ (.head _)
     have hpn6 : lr.pending = none := by rw [hlr]
     have hrun6 := run_endLoop (P := P) hb6 (by rw [hlr]; simp)
     rw [hpn6] at hrun6
     refine ⟨none, _, hrun6, ?_⟩
     have hh7 := (hh6.putLoop (lp' := { lr with state := .exhausted }) (.head _ _ _) rfl).tail
     have he7 : Ext c.B I6 W I6 (W.putObj (w.heap.size + 1) (.loop { lr with state := .exhausted })) := Ext.putObj hB6 hni6
     rw [hpn6] at he7 hh7
     refine done w.heap.size H1 hJL _ _ ⟨?_, s.size, I6, hw6.putObj hni6, (he.trans (k2.trans he6)).trans he7, hh7, (hv.keep (k2.trans he6).keeps).keep he7.keeps⟩
     show _ :: a.defers = _
     rw [s.ds]
    ·obtain ⟨hB6, hb6, _, hni6⟩ := hh6.ok _ (.head _)
     refine ⟨some code, _, run_endLoop (P := P) hb6 (by simp), ?_⟩
     have hh7 := (hh6.putLoop (lp' := { lr with state := .exhausted, pending := some code }) (.head _ _ _) rfl).tail
     have he7 : Ext c.B I6 W I6 (W.putObj (w.heap.size + 1) (.loop { lr with state := .exhausted, pending := some code })) := Ext.putObj hB6 hni6
     refine jump w.heap.size code pre H1 hpre hJX _ _ ⟨?_, s.size, I6, hw6.putObj hni6, (he.trans (k2.trans he6)).trans he7, hh7, (hv.keep (k2.trans he6).keeps).keep he7.keeps⟩
     show _ :: a.defers = _
     rw [s.ds]
   ·obtain ⟨_, _, _, _, hF⟩ := hor
    exact hF.elim
 ·simp at e1
end
section
variable {c : Ctx} {r : Option Nat} {P : Program} {ops : Array Oper} {l rest : List Oper} {o : Oper} {st : St} {Q : Exit → Act → World → Prop} {x : AV}
abbrev mark (D : Nat) : Deferred := { target := .collected D, args := #[] }
theorem AVleL.tupOf {ys zs : List AV} (h : AVleL ys zs) : AVle (tupOf ys) (tupOf zs) := by
 cases h with
 | nil => exact AVle.refl _
 | cons hx ht =>
  cases ht with
  | nil => exact hx
  | cons hy ht => exact AVle.tup (.cons hx (.cons hy ht))
theorem PredOk.of {α : Type} {fid : FuncId} {fs cs : List AV} {enc : α → AV} {p : α → Bool} (h : ∀ x, PCall P fid (fs ++ [enc x] ++ cs) (.b (p x))) : PredOk P (.fn (.func fid) fs cs) enc p := fun B x H => VCall.fn (h x H)
def PCallIn (P : Program) (Hm : List Ent) (f : FuncId) (xs : List AV) (y : AV) : Prop := ∀ H, (∀ e ∈ Hm, e ∈ H) → ACall P f xs H (fun x H' => x = y ∧ H' = H) (fun _ _ => False)
theorem PCallIn.pure {P : Program} {f : FuncId} {xs : List AV} {y : AV} (h : PCallIn P [] f xs y) : PCall P f xs y := fun H => h H (by simp)
theorem PredOn.of {α : Type} {Hm : List Ent} {fid : FuncId} {fs cs : List AV} {enc : α → AV} {l : List α} {p : α → Bool} (h : ∀ x ∈ l, PCallIn P Hm fid (fs ++ [enc x] ++ cs) (.b (p x))) : PredOn P Hm (.fn (.func fid) fs cs) enc l p := fun x hx B H hH => VCall.fn (h x hx H hH)
end
section
variable {c : Ctx} {r : Option Nat} {P : Program} {ops : Array Oper} {l rest : List Oper} {o : Oper} {env : List (Nat × AV)} {H : List Ent} {Q : Exit → Act → World → Prop} {x : AV} {d n : Nat}
end
def segChk (l : List Oper) (k m : Nat) : Bool :=
 let ms := masks l []
 (l.zipIdx.all fun p => (deps p.1).all fun j => Nat.blt j p.2) &&
 (l.zipIdx.all fun p => Nat.blt p.2 m || (List.range m).all fun j => Nat.blt j k || (ms.getD p.2 0).testBit j) &&
 ((l.take m).zipIdx.all fun p => Nat.blt p.2 k || ((l.take m).zipIdx.all fun q => match q.1.dst with
  | some d => (Nat.beq p.2 q.2 || Nat.blt q.2 k || !(match p.1.dst with | some d' => Nat.beq d d' | none => false)) && (!((looks l p.1).any (Nat.beq d)) || Nat.blt q.2 k || (Nat.blt q.2 p.2 && (ms.getD p.2 0).testBit q.2))
  | none => true))
structure SegOk (l : List Oper) (k m : Nat) : Prop where
 back : ∀ i o, l[i]? = some o → ∀ j ∈ deps o, j < i
 tail : ∀ i, m ≤ i → i < l.length → ∀ j, k ≤ j → j < m → ((masks l []).getD i 0).testBit j = true
 apart : ∀ i oi j oj d, k ≤ i → i < m → l[i]? = some oi → k ≤ j → j < m → l[j]? = some oj → oj.dst = some d → i ≠ j → oi.dst ≠ some d
 looked : ∀ i oi j oj d, k ≤ i → i < m → l[i]? = some oi → k ≤ j → j < m → l[j]? = some oj → oj.dst = some d → d ∈ looks l oi → j < i ∧ ((masks l []).getD i 0).testBit j = true
theorem segOk_of {l : List Oper} {k m : Nat} (h : segChk l k m = true) : SegOk l k m := by
 simp only [segChk, Bool.and_eq_true, List.all_eq_true] at h
 obtain ⟨⟨h1, h2⟩, h3⟩ := h
 have key : ∀ i oi j oj d, k ≤ i → i < m → l[i]? = some oi → k ≤ j → j < m → l[j]? = some oj → oj.dst = some d → (i = j ∨ oi.dst ≠ some d) ∧ (d ∈ looks l oi → j < i ∧ ((masks l []).getD i 0).testBit j = true) := by
  intro i oi j oj d hki hi hoi hkj hj hoj hd
  have hti : (l.take m)[i]? = some oi := by rw [List.getElem?_take, if_pos hi]; exact hoi
  have htj : (l.take m)[j]? = some oj := by rw [List.getElem?_take, if_pos hj]; exact hoj
  have h4 := h3 _ (mem_zipIdx_of hti)
  simp only [Bool.or_eq_true, List.all_eq_true] at h4
  have nk : ∀ x, k ≤ x → ¬ Nat.blt x k = true := fun x hx hb => by
   have := Nat.lt_of_succ_le (by simpa [Nat.blt] using hb); omega
  rcases h4 with h4 | h4
  ·exact absurd h4 (nk i hki)
  have := h4 _ (mem_zipIdx_of htj)
  simp only [hd, Bool.and_eq_true, Bool.or_eq_true, Bool.not_eq_true'] at this
  obtain ⟨ha, hb⟩ := this
  refine ⟨?_, fun hm => ?_⟩
  ·rcases ha with (ha | ha) | ha
   ·exact .inl (Nat.eq_of_beq_eq_true ha)
   ·exact absurd ha (nk j hkj)
   ·refine .inr fun e => ?_
    rw [e] at ha
    simp at ha
  ·rcases hb with (hb | hb) | hb
   ·exfalso
    rw [List.any_eq_false] at hb
    exact hb d hm (by simp)
   ·exact absurd hb (nk j hkj)
   ·exact ⟨Nat.lt_of_succ_le (by simpa [Nat.blt] using hb.1), hb.2⟩
 refine ⟨fun i o ho j hj => ?_, fun i hi hl j hkj hj => ?_, fun i oi j oj d hki hi hoi hkj hj hoj hd hne => ?_, fun i oi j oj d hki hi hoi hkj hj hoj hd hm => (key i oi j oj d hki hi hoi hkj hj hoj hd).2 hm⟩
 ·have := h1 _ (mem_zipIdx_of ho) j hj
  exact Nat.lt_of_succ_le (by simpa [Nat.blt] using this)
 ·have := h2 _ (mem_zipIdx_of (List.getElem?_eq_getElem hl))
  simp only [Bool.or_eq_true] at this
  rcases this with h | h
  ·have : i < m := Nat.lt_of_succ_le (by simpa [Nat.blt] using h)
   omega
  ·rw [List.all_eq_true] at h
   have := h j (by simpa using hj)
   simp only [Bool.or_eq_true] at this
   rcases this with h | h
   ·have : j < k := Nat.lt_of_succ_le (by simpa [Nat.blt] using h)
    omega
   ·exact h
 ·rcases (key i oi j oj d hki hi hoi hkj hj hoj hd).1 with h | h
  ·exact absurd h hne
  ·exact h
theorem masks_len : ∀ (l' : List Oper) (acc : List Nat), (masks l' acc).length = acc.length + l'.length := by
 intro l'; induction l' with
 | nil => intro acc; simp [masks]
 | cons o l' ih => intro acc; rw [masks, ih]; simp; omega
theorem wpIn_mono2 {F : Fence} {n : Nat} {P : Program} {o : Oper} {a : Act} {w : World} {K K' : Act → World → Prop} {Q Q' : Exit → Act → World → Prop} (h : ∀ a w, K a w → K' a w) (hp : ∀ ch a w, Q (.panic ch) a w → Q' (.panic ch) a w) (ho : ∀ a w, Q .outgrown a w → Q' .outgrown a w)
  (hh : o.wpIn F n P a w K Q) : o.wpIn F n P a w K' Q' := by
 have hl : LetsOut Q → LetsOut Q' := fun ⟨a, w, h⟩ => ⟨a, w, ho a w h⟩
 unfold Oper.wpIn at *
 refine ⟨hh.1, ?_⟩
 have hh := hh.2
 generalize (o.semAt F.round a.eval).run P w = r at *
 cases r with
 | ok x w' =>
  cases x <;> simp only [Oper.uponIn] at hh ⊢ <;>
   first
    | exact h _ _ hh
    | exact ⟨hh.1, CallsIn.mono hh.2 (fun e w'' he => by cases e <;> first | exact h _ _ he | exact hp _ _ _ he | exact hl he)⟩
    | exact ⟨hh.1, RowsIn.mono hh.2 (fun _ _ he => h _ _ he)⟩
    | exact ⟨hh.1, RoundIn.mono hh.2 (fun e w'' he => by cases e <;> first | exact h _ _ he | exact hp _ _ _ he | exact hl he)⟩
 | halt x w' => cases x <;> simp only [Oper.uponIn] at hh ⊢ <;> first | exact hp _ _ _ hh | exact hh
section
variable {c : Ctx} {r : Option Nat} {P : Program} {l : List Oper} {st : St} {Q : Exit → Act → World → Prop}
def KD (c : Ctx) (r : Option Nat) (P : Program) (l : List Oper) (Q : Exit → Act → World → Prop) (k : Nat) (a : Act) (w : World) : Prop :=
 ∀ (fuel : Nat) (listed : Array Bool), listed.size = l.length → (∀ i, listed.getD i false = true ↔ i < k) → l.length - k ≤ fuel → wpAnyIn (FW r) 0 P .any l.toArray Q fuel listed a w
def DP (c : Ctx) (r : Option Nat) (P : Program) (l : List Oper) (Q : Exit → Act → World → Prop) (k : Nat) (st : St) : Prop := ∀ a w, Sat c st a w → KD c r P l Q k a w
theorem DP.done {k : Nat} (hk : k = l.length) (h : Done c st .normal Q) : DP c r P l Q k st := by
 intro a w s fuel listed hsz hli hfu
 have hr : Region.ready .any l.toArray listed = [] := by
  cases hr : Region.ready .any l.toArray listed with
  | nil => rfl
  | cons i rs =>
   exfalso
   have hi : i ∈ Region.ready .any l.toArray listed := by rw [hr]; simp
   obtain ⟨h1, o, h2, _⟩ := mem_ready.1 hi
   have hlt : i < l.length := by
    have := (Array.getElem?_eq_some_iff.1 h2).1
    simpa using this
   rw [getD_true_iff (by omega), (hli i).2 (by omega)] at h1; cases h1
 exact wpAnyIn_done hr (h a w s) fuel
theorem DP.one {k : Nat} {o : Oper} (hchk : segChk l k (k + 1) = true) (ho : l[k]? = some o) (h : OL c r P l.toArray [o] st (Exit.then (KD c r P l Q (k + 1)) Q)) : DP c r P l Q k st := by
 have ok := segOk_of hchk
 intro a w s fuel listed hsz hli hfu
 have hkl : k < l.length := (List.getElem?_eq_some_iff.1 ho).1
 obtain ⟨fuel, rfl⟩ : ∃ f, fuel = f + 1 := ⟨fuel - 1, by omega⟩
 have hmem : ∀ i ∈ Region.ready .any l.toArray listed, i = k := by
  intro i hi
  obtain ⟨h1, oi, h2, h3⟩ := mem_ready.1 hi
  have hlt : i < l.length := by
   have := (Array.getElem?_eq_some_iff.1 h2).1
   simpa using this
  rw [getD_true_iff (by omega)] at h1
  have hge : k ≤ i := by
   rcases Nat.lt_or_ge i k with h | h
   ·rw [(hli i).2 h] at h1; cases h1
   ·exact h
  rcases Nat.lt_or_ge k i with hlt' | hge'
  ·exfalso
   have hoi : l[i]? = some oi := by simpa using h2
   have hcl2 : Closed l (fun j => listed.getD j false = true) := fun j oj hj hoj j' hj' => (hli j').2 (by have := ok.back j oj hoj j' hj'; have := (hli j).1 hj; omega)
   have hms : (masks l [])[i]? = some ((masks l []).getD i 0) := by
    have : i < (masks l []).length := by rw [masks_len]; simpa using hlt
    simp [List.getD, this]
   have := masks_spec l _ hcl2 l [] (by simp) (by simp) (by simp) i _ oi hms hoi (fun j hj => by
    simp only [deps, List.mem_filterMap] at hj
    obtain ⟨e, he, hb⟩ := hj
    split at hb
    ·rename_i hbi; simp at hb; subst hb; exact h3 e (by simpa using he) hbi
    ·cases hb) k (ok.tail i (by omega) hlt k (Nat.le_refl _) (Nat.lt_succ_self _))
   exact Nat.lt_irrefl _ ((hli k).1 this)
  ·omega
 refine ⟨fun h0 => ?_, fun i hi => ?_⟩
 ·exfalso
  have : k ∈ Region.ready .any l.toArray listed := by
   rw [mem_ready]
   refine ⟨?_, o, by simpa using ho, fun e he hb => ?_⟩
   ·rw [getD_true_iff (by omega)]
    cases hx : listed.getD k false with
    | false => rfl
    | true => exact absurd ((hli k).1 hx) (Nat.lt_irrefl _)
   ·exact (hli _).2 (ok.back k _ ho e.on (by simp only [deps, List.mem_filterMap]; exact ⟨e, by simpa using he, by simp [hb]⟩))
  rw [h0] at this; cases this
 ·have hik := hmem i hi
  subst hik
  unfold wpOpIn
  have hio : l.toArray[i]? = some o := by simpa using ho
  simp only [hio]
  have hwp := h a w s
  have next : ∀ a w, KD c r P l Q (i + 1) a w → wpAnyIn (FW r) 0 P .any l.toArray Q fuel (listed.setIfInBounds i true) a w := by
   intro a w hk
   refine hk fuel _ (by simp [hsz]) (fun j => ?_) (by omega)
   rw [getD_set _ _ _ (by omega)]
   by_cases e : i = j
   ·subst e; simp
   ·rw [if_neg e, hli]; omega
  unfold wpListIn at hwp
  split at hwp
  ·rename_i hwant; rw [if_pos hwant]
   exact wpIn_mono2 next (fun _ _ _ h => h) (fun _ _ h => h) hwp
  ·rename_i hwant; rw [if_neg hwant]; exact ⟨hwp.1, next _ _ hwp.2⟩
def tailChk (l : List Oper) (k : Nat) : Bool :=
 let ms := masks l []
 (l.zipIdx.all fun p => (deps p.1).all fun j => Nat.blt j p.2) &&
 (l.zipIdx.all fun p => Nat.blt p.2 k || (List.range p.2).all fun j => Nat.blt j k || (ms.getD p.2 0).testBit j)
theorem DP.tail {k : Nat} (hchk : tailChk l k = true) (hkl : k ≤ l.length) (h : OL c r P l.toArray (l.drop k) st Q) : DP c r P l Q k st := by
 simp only [tailChk, Bool.and_eq_true, List.all_eq_true] at hchk
 obtain ⟨h1, h2⟩ := hchk
 have back : ∀ i o, l[i]? = some o → ∀ j ∈ deps o, j < i := fun i o ho j hj => by
  have := h1 _ (mem_zipIdx_of ho) j hj
  exact Nat.lt_of_succ_le (by simpa [Nat.blt] using this)
 have tail : ∀ i, k ≤ i → i < l.length → ∀ j, k ≤ j → j < i → ((masks l []).getD i 0).testBit j = true := fun i hi hl j hkj hj => by
  have := h2 _ (mem_zipIdx_of (List.getElem?_eq_getElem hl))
  simp only [Bool.or_eq_true] at this
  rcases this with h | h
  ·have : i < k := Nat.lt_of_succ_le (by simpa [Nat.blt] using h)
   omega
  ·rw [List.all_eq_true] at h
   have := h j (by simpa using hj)
   simp only [Bool.or_eq_true] at this
   rcases this with h | h
   ·have : j < k := Nat.lt_of_succ_le (by simpa [Nat.blt] using h)
    omega
   ·exact h
 intro a w s fuel listed hsz hli hfu
 have key : ∀ (p fuel : Nat) (listed : Array Bool) (a : Act) (w : World), listed.size = l.length → p ≤ l.length → k ≤ p → (∀ i, listed.getD i false = true ↔ i < p) → l.length - p ≤ fuel →
   wpListIn (FW r) 0 P l.toArray Q (l.drop p) a w → wpAnyIn (FW r) 0 P .any l.toArray Q fuel listed a w := by
  intro p
  induction hp : l.length - p generalizing p with
  | zero =>
   intro fuel listed a w hsz hpl hkp hli hfu hwp
   have hpl' : p = l.length := by omega
   rw [show l.drop p = [] by rw [hpl']; simp] at hwp
   ·have hr : Region.ready .any l.toArray listed = [] := by
     cases hr : Region.ready .any l.toArray listed with
     | nil => rfl
     | cons i rs =>
      exfalso
      have hi : i ∈ Region.ready .any l.toArray listed := by rw [hr]; simp
      obtain ⟨h1, o, h2, _⟩ := mem_ready.1 hi
      have hlt : i < l.length := by
       have := (Array.getElem?_eq_some_iff.1 h2).1
       simpa using this
      rw [getD_true_iff (by omega), (hli i).2 (by omega)] at h1; cases h1
    exact wpAnyIn_done hr hwp fuel
  | succ q ihk =>
   intro fuel listed a w hsz hpl hkp hli hfu hwp
   obtain ⟨fuel, rfl⟩ : ∃ f, fuel = f + 1 := ⟨fuel - 1, by omega⟩
   have hpl' : p < l.length := by omega
   have hok : l[p]? = some l[p] := List.getElem?_eq_getElem hpl'
   have hmem : ∀ i ∈ Region.ready .any l.toArray listed, i = p := by
    intro i hi
    obtain ⟨h1, o, h2, h3⟩ := mem_ready.1 hi
    have hlt : i < l.length := by
     have := (Array.getElem?_eq_some_iff.1 h2).1
     simpa using this
    rw [getD_true_iff (by omega)] at h1
    have hge : p ≤ i := by
     rcases Nat.lt_or_ge i p with h | h
     ·rw [(hli i).2 h] at h1; cases h1
     ·exact h
    rcases Nat.lt_or_ge p i with hlt' | hge'
    ·exfalso
     have ho : l[i]? = some o := by simpa using h2
     have hcl2 : Closed l (fun j => listed.getD j false = true) := fun j oj hj hoj j' hj' => (hli j').2 (by have := back j oj hoj j' hj'; have := (hli j).1 hj; omega)
     have hms : (masks l [])[i]? = some ((masks l []).getD i 0) := by
      have : i < (masks l []).length := by rw [masks_len]; simpa using hlt
      simp [List.getD, this]
     have := masks_spec l _ hcl2 l [] (by simp) (by simp) (by simp) i _ o hms ho (fun j hj => by
      simp only [deps, List.mem_filterMap] at hj
      obtain ⟨e, he, hb⟩ := hj
      split at hb
      ·rename_i hbi; simp at hb; subst hb; exact h3 e (by simpa using he) hbi
      ·cases hb) p (tail i (by omega) hlt p hkp hlt')
     exact Nat.lt_irrefl _ ((hli p).1 this)
    ·omega
   rw [List.drop_eq_getElem_cons hpl'] at hwp
   refine ⟨fun h0 => ?_, fun i hi => ?_⟩
   ·exfalso
    have : p ∈ Region.ready .any l.toArray listed := by
     rw [mem_ready]
     refine ⟨?_, l[p], by simp, fun e he hb => ?_⟩
     ·rw [getD_true_iff (by omega)]
      cases hx : listed.getD p false with
      | false => rfl
      | true => exact absurd ((hli p).1 hx) (Nat.lt_irrefl _)
     ·exact (hli _).2 (back p _ hok e.on (by simp only [deps, List.mem_filterMap]; exact ⟨e, by simpa using he, by simp [hb]⟩))
    rw [h0] at this; cases this
   ·have hik := hmem i hi
    subst hik
    unfold wpOpIn
    have hio : l.toArray[i]? = some l[i] := by simp
    simp only [hio]
    have next : ∀ a w, wpListIn (FW r) 0 P l.toArray Q (l.drop (i + 1)) a w → wpAnyIn (FW r) 0 P .any l.toArray Q fuel (listed.setIfInBounds i true) a w := by
     intro a w hwp
     refine ihk (i + 1) (by omega) fuel _ a w (by simp [hsz]) (by omega) (by omega) (fun j => ?_) (by omega) hwp
     rw [getD_set _ _ _ (by omega)]
     by_cases e : i = j
     ·subst e; simp
     ·rw [if_neg e, hli]; omega
    unfold wpListIn at hwp
    split at hwp
    ·rename_i hwant; rw [if_pos hwant]; exact Oper.wpIn_mono next hwp
    ·rename_i hwant; rw [if_neg hwant]; exact ⟨hwp.1, next _ _ hwp.2⟩
 exact key k fuel listed a w hsz hkl (Nat.le_refl _) hli hfu (h a w s)
theorem DP.any {k m : Nat} (hchk : segChk l k m = true) (hkm : k ≤ m) (hml : m ≤ l.length) (hlk : (l.all fun o => (looks l o).all fun t => Nat.blt t c.n) = true)
  (h : AD P st.H l c.n ((l.drop k).take (m - k)) st.env fun env => DP c r P l Q m ⟨env, st.H⟩) : DP c r P l Q k st := by
 have ok := segOk_of hchk
 obtain ⟨xs, hxl, htail, hspec⟩ := AD_spec _ _ _ h
 have hxm : xs.length = m - k := by rw [hxl, List.length_take, List.length_drop]; omega
 generalize hS : (l.drop k).take (m - k) = S at *
 have takeAt : ∀ (i : Nat) (o : Oper), S[i]? = some o ↔ i < m - k ∧ l[k + i]? = some o := by
  intro i o
  rw [← hS, List.getElem?_take]
  by_cases hi : i < m - k
  ·rw [if_pos hi, List.getElem?_drop]; simp [hi]
  ·rw [if_neg hi]; simp [hi]
 generalize hF : puts st.env S xs = envF at htail
 have hlook : ∀ (i : Nat) (o : Oper), l[i]? = some o → ∀ t ∈ looks l o, t < c.n := by
  intro i o ho t ht
  simp only [List.all_eq_true] at hlk
  have := hlk o (List.mem_of_getElem? ho) t ht
  exact Nat.lt_of_succ_le (by simpa [Nat.blt] using this)
 have fin : ∀ (i : Nat) (o : Oper) (x : AV), i < m - k → l[k + i]? = some o → xs[i]? = some x → AOk P st.H l envF o x ∧ dstOk c.n o.dst = true := by
  intro i o x hi ho hx
  obtain ⟨h1, h2⟩ := hspec i o x ((takeAt i o).2 ⟨hi, ho⟩) hx
  refine ⟨?_, h2⟩
  have same : ∀ t ∈ looks l o, envGet (puts st.env (S.take i) (xs.take i)) t = envGet envF t := by
   intro t ht
   rw [← hF, puts_split i S xs st.env hxl]
   symm
   apply puts_other
   intro j o' ho' e
   rw [List.getElem?_drop] at ho'
   obtain ⟨hj, hoj⟩ := (takeAt _ _).1 ho'
   have := (ok.looked (k + i) o (k + (i + j)) o' t (by omega) (by omega) ho (by omega) (by omega) hoj e ht).1
   omega
  rcases h1 with ⟨hg, hp⟩ | ⟨j, want, d, G, y, hg, hj, hG, hp, rfl⟩
  ·exact .inl ⟨hg, hp.congr fun t ht => same t (mem_looks ht)⟩
  ·have hdl : d ∈ looks l o := List.mem_append_right _ (by simp [hg, hj])
   exact .inr ⟨j, want, d, G, y, hg, hj, by rw [← same d hdl]; exact hG, fun e => (hp e).congr fun t ht => same t (mem_looks ht), rfl⟩
 have finAt : ∀ (i : Nat) (o : Oper) (x : AV) (t : Nat), i < m - k → l[k + i]? = some o → xs[i]? = some x → o.dst = some t → envGet envF t = some x := by
  intro i o x t hi ho hx hd
  rw [← hF]
  refine puts_at S xs st.env i t o x ((takeAt i o).2 ⟨hi, ho⟩) hx hd (fun j o' ho' e => ?_)
  obtain ⟨hj, hoj⟩ := (takeAt _ _).1 ho'
  rcases Nat.decEq j i with hne | he
  ·exact absurd hd (ok.apart (k + i) o (k + j) o' t (by omega) (by omega) ho (by omega) (by omega) hoj e (by omega))
  ·exact he
 have finOther : ∀ t, (∀ (i : Nat) (o : Oper), i < m - k → l[k + i]? = some o → o.dst ≠ some t) → envGet envF t = envGet st.env t := by
  intro t ht
  rw [← hF]
  exact puts_other _ _ _ _ fun i o ho => let ⟨h1, h2⟩ := (takeAt i o).1 ho; ht i o h1 h2
 have main : ∀ (cnt fuel : Nat) (listed : Array Bool) (a : Act) (w : World) (I : Imm), listed.size = l.length → (cnt = (List.range m).countP fun i => !listed.getD i false) → cnt + (l.length - m) ≤ fuel → Closed l (fun i => listed.getD i false = true) →
   (∀ i, i < k → listed.getD i false = true) → (∀ i, listed.getD i false = true → i < m) → a.defers = c.ds → a.tmps.size = c.n → WOk c.B I w → Ext c.B c.I0 c.w0 I w → HeapOk c.B I w st.H →
   (∀ t x, envGet envF t = some x → (∀ (i : Nat) (o : Oper), i < m - k → l[k + i]? = some o → o.dst = some t → listed.getD (k + i) false = true) → Rel I w x (a.tmps.getD t undef)) →
   wpAnyIn (FW r) 0 P .any l.toArray Q fuel listed a w := by
  intro cnt
  induction cnt with
  | zero =>
   intro fuel listed a w I hsz hf hfu hcl hlk' hlm hd hts hw he hh hv
   have hall : ∀ i, i < m → listed.getD i false = true := by
    intro i hi
    have := List.countP_eq_zero.1 hf.symm i (by simpa using hi)
    simpa using this
   have hs : Sat c ⟨envF, st.H⟩ a w := ⟨hd, hts, I, hw, he, hh, fun t x hx => hv t x hx (fun i o hi _ _ => hall (k + i) (by omega))⟩
   exact htail a w hs fuel listed hsz (fun i => ⟨hlm i, hall i⟩) (by omega)
  | succ cnt ih =>
   intro fuel listed a w I hsz hf hfu hcl hlk' hlm hd hts hw he hh hv
   obtain ⟨fuel, rfl⟩ : ∃ f, fuel = f + 1 := ⟨fuel - 1, by omega⟩
   have hex : ∃ i, i < m ∧ listed.getD i false = false ∧ ∀ j, j < i → listed.getD j false = true := by
    have : ∃ i, i < m ∧ listed.getD i false = false := by
     refine Classical.byContradiction fun hn => ?_
     have : (List.range m).countP (fun i => !listed.getD i false) = 0 := by
      rw [List.countP_eq_zero]
      intro i hi
      simp only [List.mem_range] at hi
      cases hx : listed.getD i false with
      | true => simp
      | false => exact absurd ⟨i, hi, hx⟩ hn
     omega
    obtain ⟨i, hi⟩ := this
    induction i using Nat.strongRecOn with
    | _ i ihi =>
     by_cases hx : ∃ j, j < i ∧ listed.getD j false = false
     ·obtain ⟨j, hj, hj2⟩ := hx
      exact ihi j hj ⟨by omega, hj2⟩
     ·exact ⟨i, hi.1, hi.2, fun j hj => by
       cases hy : listed.getD j false with
       | true => rfl
       | false => exact absurd ⟨j, hj, hy⟩ hx⟩
   obtain ⟨i0, hi0m, hi0, hi0b⟩ := hex
   have hi0k : k ≤ i0 := by
    rcases Nat.lt_or_ge i0 k with h | h
    ·rw [hlk' i0 h] at hi0; cases hi0
    ·exact h
   refine ⟨fun h0 => ?_, fun i hi => ?_⟩
   ·exfalso
    have hok : l[i0]? = some l[i0] := List.getElem?_eq_getElem (by omega)
    have : i0 ∈ Region.ready .any l.toArray listed := by
     rw [mem_ready]
     refine ⟨by rw [getD_true_iff (by omega)]; exact hi0, l[i0], by simp, fun e he hb => ?_⟩
     exact hi0b _ (ok.back i0 _ hok e.on (by simp only [deps, List.mem_filterMap]; exact ⟨e, by simpa using he, by simp [hb]⟩))
    rw [h0] at this; cases this
   ·obtain ⟨h1, o, h2, h3⟩ := mem_ready.1 hi
    have ho : l[i]? = some o := by simpa using h2
    have hlt : i < l.length := (List.getElem?_eq_some_iff.1 ho).1
    rw [getD_true_iff (by omega)] at h1
    have hdeps : ∀ k ∈ deps o, listed.getD k false = true := by
     intro k hk
     simp only [deps, List.mem_filterMap] at hk
     obtain ⟨e, he, hb⟩ := hk
     split at hb
     ·rename_i hbi; simp at hb; subst hb; exact h3 e (by simpa using he) hbi
     ·cases hb
    have hms : (masks l [])[i]? = some ((masks l []).getD i 0) := by
     have : i < (masks l []).length := by rw [masks_len]; simpa using hlt
     simp [List.getD, this]
    have hanc := masks_spec l _ hcl l [] (by simp) (by simp) (by simp) i _ o hms ho hdeps
    have hik : k ≤ i := by
     rcases Nat.lt_or_ge i k with h | h
     ·rw [hlk' i h] at h1; cases h1
     ·exact h
    have him : i < m := by
     rcases Nat.lt_or_ge i m with h | h
     ·exact h
     ·have := hanc i0 (ok.tail i h hlt i0 hi0k hi0m)
      rw [hi0] at this; cases this
    obtain ⟨q, rfl⟩ : ∃ q, i = k + q := ⟨i - k, by omega⟩
    have hq : q < m - k := by omega
    have hxi : xs[q]? = some xs[q] := List.getElem?_eq_getElem (by omega)
    obtain ⟨hA, hdst⟩ := fin q o _ hq ho hxi
    have avail : ∀ t ∈ looks l o, ∀ (i' : Nat) (o' : Oper), i' < m - k → l[k + i']? = some o' → o'.dst = some t → listed.getD (k + i') false = true := fun t ht i' o' hi' ho' hd' => hanc _ (ok.looked (k + q) o (k + i') o' t hik him ho (by omega) (by omega) ho' hd' ht).2
    refine hA.run (c := c) ho hw hh (fun t ht z hz => hv t z hz (avail t ht)) (fun t ht => by rw [hts]; exact hlook _ o ho t ht) ?_
    intro v w' I' hw' he' hh' hx
    have hset : ∀ j, (listed.setIfInBounds (k + q) true).getD j false = if k + q = j then true else listed.getD j false := fun j => getD_set _ _ _ (by omega)
    refine ih fuel (listed.setIfInBounds (k + q) true) _ w' I' (by simp [hsz]) ?_ (by omega) ?_ ?_ ?_ (by rw [put_defers]; exact hd) (by rw [tmps_put_size]; exact hts) hw' (he.trans he') hh' ?_
    ·have : (List.range m).countP (fun j => !listed.getD j false) = (List.range m).countP (fun j => !(listed.setIfInBounds (k + q) true).getD j false) + 1 := by
      have key : ∀ (n : Nat), (List.range n).countP (fun j => !listed.getD j false) = (List.range n).countP (fun j => !(listed.setIfInBounds (k + q) true).getD j false) + (if k + q < n then 1 else 0) := by
       intro n
       induction n with
       | zero => simp
       | succ n ihn =>
        rw [List.range_succ, List.countP_append, List.countP_append, ihn]
        simp only [List.countP_cons, List.countP_nil, Nat.zero_add, hset n]
        by_cases e : k + q = n
        ·subst e
         rw [if_neg (Nat.lt_irrefl _), if_pos (Nat.lt_succ_self _), if_pos rfl, h1]
         simp
        ·rw [if_neg e]
         by_cases hlt' : k + q < n
         ·rw [if_pos hlt', if_pos (Nat.lt_succ_of_lt hlt')]; omega
         ·rw [if_neg hlt', if_neg (show ¬ k + q < n + 1 by omega)]; omega
      rw [key, if_pos him]
     omega
    ·intro j oj hj hoj k' hk
     rw [hset]
     by_cases e : k + q = k'
     ·rw [if_pos e]
     ·rw [if_neg e]
      rw [hset] at hj
      by_cases e' : k + q = j
      ·subst e'
       rw [ho] at hoj; cases hoj
       exact hdeps k' hk
      ·rw [if_neg e'] at hj
       exact hcl j oj hj hoj k' hk
    ·intro j hj
     rw [hset, if_neg (by omega)]
     exact hlk' j hj
    ·intro j hj
     rw [hset] at hj
     by_cases e : k + q = j
     ·omega
     ·rw [if_neg e] at hj; exact hlm j hj
    ·intro t x hxt hav
     by_cases hdt : o.dst = some t
     ·rw [hdt]
      have : x = xs[q] := by
       have := finAt q o _ t hq ho hxi hdt
       rw [this] at hxt; exact (Option.some.inj hxt).symm
      subst this
      rw [tmps_put_same (by rw [hts]; rw [hdt] at hdst; exact Nat.lt_of_succ_le (by simpa [dstOk, Nat.blt] using hdst))]
      exact hx
     ·have hold : Rel I w x (a.tmps.getD t undef) := hv t x hxt fun i' o' hi' ho' hd' => by
       have := hav i' o' hi' ho' hd'
       rw [hset] at this
       by_cases e : k + q = k + i'
       ·have e2 : q = i' := by omega
        subst e2
        rw [ho] at ho'; cases ho'
        exact absurd hd' hdt
       ·rw [if_neg e] at this; exact this
      have hget : (a.put o.dst v).tmps.getD t undef = a.tmps.getD t undef := by
       cases hod : o.dst with
       | none => rfl
       | some d => exact tmps_put_other (fun e => hdt (by rw [hod, e]))
      rw [hget]
      exact hold.keep he'.keeps
 intro a w s fuel listed hsz hli hfu
 obtain ⟨I, hw, he, hh, hv⟩ := s.mem
 refine main _ fuel listed a w I hsz rfl ?_ (fun i o hi ho j hj => (hli j).2 (by have := ok.back i o ho j hj; have := (hli i).1 hi; omega)) (fun i hi => (hli i).2 hi) (fun i hi => by have := (hli i).1 hi; omega) s.ds s.size hw he hh ?_
 ·have : (List.range m).countP (fun i => !listed.getD i false) ≤ m - k := by
   have e : List.range m = List.range k ++ (List.range (m - k)).map (k + ·) := by
    rw [← List.range_add]; congr 1; omega
   rw [e, List.countP_append]
   have z : (List.range k).countP (fun i => !listed.getD i false) = 0 := by
    rw [List.countP_eq_zero]; intro i hi; simp only [List.mem_range] at hi; simp [(hli i).2 hi]
   rw [z]
   have := List.countP_le_length (p := fun i => !listed.getD i false) (l := (List.range (m - k)).map (k + ·))
   simpa using this
  omega
 ·intro t x hx hav
  have : envGet st.env t = some x := by
   rw [← finOther t (fun i o hi ho hd => ?_)]
   ·exact hx
   ·have := hav i o hi ho hd
    have := (hli (k + i)).1 this
    omega
  exact hv t x this
end
section
variable {c : Ctx} {r : Option Nat} {P : Program} {ops : Array Oper} {l rest : List Oper} {o : Oper} {env : List (Nat × AV)} {H : List Ent} {Q : Exit → Act → World → Prop} {x : AV} {d n : Nat}
end
class HasMap (P : Program) (t : Nat) (x : outParam (Nat × Nat)) : Prop where
 h : P.underlying t = some (.map x.1 x.2)
 key : Go.Maps.Keyed P x.1
 zero : ((P.info? x.2).bind (·.zero)) = some (.pointer none)
section
variable {c : Ctx} {r : Option Nat} {P : Program} {ops : Array Oper} {l rest : List Oper} {o : Oper} {env : List (Nat × AV)} {H : List Ent} {Q : Exit → Act → World → Prop} {d : Nat}
end
def Borrow (H : List Ent) (xs ys : List AV) : Prop :=
 ∀ (B : Nat) (I : Imm) (w : World) (Hc : List Ent) (vs : List Value), WOk B I w → HeapOk B I w Hc → (∀ e ∈ H, e ∈ Hc) → RelL I w xs vs →
  ∃ J : Imm, (∀ b o, J b o → ∃ c, w.cell? ⟨b, o, none⟩ = some c) ∧ RelL J w ys vs
section
variable {P : Program} {H : List Ent} {ρ : Nat → Option AV} {o : Oper}
theorem RelL.append_inv {I : Imm} {w : World} : ∀ {xs ys : List AV} {vs : List Value}, RelL I w (xs ++ ys) vs → ∃ us zs, vs = us ++ zs ∧ RelL I w xs us ∧ RelL I w ys zs
 | [], _, vs, h => ⟨[], vs, rfl, .nil, h⟩
 | x :: xs, ys, _, .cons _ v _ vs hx ht => by
  obtain ⟨us, zs, rfl, h1, h2⟩ := RelL.append_inv ht
  exact ⟨v :: us, zs, rfl, .cons _ _ _ _ hx h1, h2⟩
theorem els_of_row {I : Imm} {w : World} {k b : Nat} {els : List (List AV)} (hk : ∀ e ∈ els, e.length = k) (h : Cells I w b 0 els.flatten) : Els I w k b 0 els := els_of_cells els 0 hk h
theorem row_rel {B : Nat} {I : Imm} {w : World} {t k : Nat} {v : Value} {els : List (List AV)} (h : Ent.ok B I w (.row t k v els.length els.flatten)) (hk : ∀ e ∈ els, e.length = k) :
  ∃ J : Imm, (∀ b o, I b o → J b o) ∧ (∀ b o, J b o → I b o ∨ v.ownBlock = some b) ∧ (∀ b o, J b o → I b o ∨ ∃ c, w.cell? ⟨b, o, none⟩ = some c) ∧ Rel J w (.sl k els) v := by
 obtain ⟨xs, hrow, hr, hni⟩ := h
 rcases hrow.2 with ⟨rfl, hn⟩ | ⟨g, cap, cur, rfl, hBg, hg, hnc, hcm, hcs, htk⟩
 ·have : els = [] := List.eq_nil_of_length_eq_zero hn
  subst this
  exact ⟨I, fun _ _ h => h, fun _ _ h => .inl h, fun _ _ h => .inl h, .sl0 _ _ _⟩
 ·have hlen : xs.length = els.length * k := hrow.1
  have hsz : els.length * k ≤ cur.size := by rw [hcs]; exact Nat.mul_le_mul_right k hnc
  let J : Imm := fun b o => I b o ∨ (b = g ∧ o < els.length * k)
  have hJ : Keeps I w J w := ⟨fun _ _ x => .inl x, fun _ _ _ => rfl⟩
  refine ⟨J, fun _ _ x => .inl x, fun b o x => x.elim .inl (fun x => .inr (by rw [x.1]; rfl)), fun b o x => ?_, ?_⟩
  ·rcases x with x | ⟨rfl, x⟩
   ·exact .inl x
   ·exact .inr ⟨cur[o]'(by omega), by rw [cell_of_blk hg]; exact Array.getElem?_eq_getElem (by omega)⟩
  ·refine .sl _ _ _ _ _ _ rfl hnc hcm (els_of_row hk (cells_of hg _ xs 0 (hr.keep hJ) (fun j u hu => ?_) (fun j hj => .inr ⟨rfl, ?_⟩)))
   ·rw [← htk, List.getElem?_take] at hu
    split at hu
    ·simpa using hu
    ·cases hu
   ·rw [flatten_len hk] at hj; omega
theorem Borrow.row {t k : Nat} {v : Value} {els : List (List AV)} {pre post : List AV} (hm : Ent.row t k v els.length els.flatten ∈ H) (hk : ∀ e ∈ els, e.length = k) : Borrow H (pre ++ .val v :: post) (pre ++ .sl k els :: post) := by
 intro B I w Hc vs hw hh hs hr
 obtain ⟨J, h1, h2, h3, h4⟩ := row_rel (hh.ok _ (hs _ hm)) hk
 have kk : Keeps I w J w := ⟨h1, fun _ _ _ => rfl⟩
 refine ⟨J, fun b o hb => (h3 b o hb).elim (fun x => hw.there b o x) id, ?_⟩
 obtain ⟨us, zs, rfl, r1, r2⟩ := hr.append_inv
 cases r2 with
 | cons _ u _ zs hx ht =>
  have := rel_val hx
  subst this
  exact (r1.keep kk).append (.cons _ _ _ _ h4 (ht.keep kk))
theorem Borrow.refl (xs : List AV) : Borrow H xs xs := fun B I w Hc vs hw _ _ hr => ⟨I, hw.there, hr⟩
theorem Borrow.le {xs ys zs : List AV} (h : Borrow H xs ys) (hl : AVleL ys zs) : Borrow H xs zs := fun B I w Hc vs hw hh hs hr =>
 let ⟨J, h1, h2⟩ := h B I w Hc vs hw hh hs hr; ⟨J, h1, hl.rel h2⟩
end
section
variable {c : Ctx} {r : Option Nat} {P : Program} {ops : Array Oper} {l rest : List Oper} {o : Oper} {env : List (Nat × AV)} {H : List Ent} {Q : Exit → Act → World → Prop} {d : Nat}
theorem run_newMap {t : TypeId} (h : o.op = .makeMap t none) (a : Act) (w : World) : (execOp a.eval o).run P w = .ok (.value (.map (some w.heap.size))) (w.alloc (.map #[] 0)) := by
 simp [execOp, h, Instr.makeMap]
end
def SOk (P : Program) (H0 H1 : List Ent) (ρ : Nat → Option AV) (o : Oper) : Prop :=
 ∀ (B : Nat) (I : Imm) (w : World) (r : Option Nat) (a : Act), WOk B I w → HeapOk B I w H0 → OpsOk I w ρ a o → Runs P r o a w (fun v w' => ∃ I', WOk B I' w' ∧ Ext B I w I' w' ∧ HeapOk B I' w' H1) (fun _ _ => False)
abbrev Mem := Nat → Act → Imm → World → Prop
def EOk (P : Program) (M0 M1 : Mem) (ops : List Oper) (env : List (Nat × AV)) (o : Oper) (y : AV) : Prop :=
 o.guard = none ∧ ∀ (B : Nat) (I : Imm) (w : World) (r : Option Nat) (a : Act), WOk B I w → M0 B a I w → OpsOk I w (envGet env) a o → (∀ d, o.dst = some d → d < a.tmps.size) →
  Runs P r o a w (fun v w' => ∃ I', WOk B I' w' ∧ Ext B I w I' w' ∧ M1 B (a.put o.dst v) I' w' ∧ Rel I' w' y v) (fun _ _ => False)
theorem SOk.congr {P : Program} {H H1 : List Ent} {ρ ρ' : Nat → Option AV} {o : Oper} (h : SOk P H H1 ρ o) (he : ∀ t, .tmp t ∈ o.op.operands.toList → ρ t = ρ' t) : SOk P H H1 ρ' o := by
 intro B I w r a hw hh ho
 refine h B I w r a hw hh (fun y hy z hz => ho y hy z ?_)
 cases y with
 | tmp t => rw [← hz]; exact (he t (by simpa using hy)).symm
 | const v => exact hz
 | global g => exact hz
 | func f => exact hz
theorem OpsOk.congr {I : Imm} {w : World} {ρ ρ' : Nat → Option AV} {a : Act} {o : Oper} (ho : OpsOk I w ρ' a o) (he : ∀ t, .tmp t ∈ o.op.operands.toList → ρ t = ρ' t) : OpsOk I w ρ a o := fun y hy z hz => ho y hy z (by
 cases y with
 | tmp t => rw [← hz]; exact (he t (by simpa using hy)).symm
 | const v => exact hz
 | global g => exact hz
 | func f => exact hz)
theorem EOk.congr {P : Program} {H0 H1 : Mem} {ops : List Oper} {env env' : List (Nat × AV)} {o : Oper} {y : AV} (h : EOk P H0 H1 ops env o y) (same : ∀ t ∈ looks ops o, envGet env t = envGet env' t) : EOk P H0 H1 ops env' o y :=
 ⟨h.1, fun B I w r a hw hm ho hz => h.2 B I w r a hw hm (ho.congr fun t ht => same t (mem_looks ht)) hz⟩
theorem EOk.run {c : Ctx} {r : Option Nat} {P : Program} {l : List Oper} {H H1 : Mem} {env : List (Nat × AV)} {o : Oper} {y : AV} {Q : Exit → Act → World → Prop} (h : EOk P H H1 l env o y) {i : Nat} (hi : l[i]? = some o)
  {a : Act} {w : World} {I : Imm} (hw : WOk c.B I w) (hh : H c.B a I w) (hv : ∀ t ∈ looks l o, ∀ z, envGet env t = some z → Rel I w z (a.tmps.getD t undef)) (hn : ∀ t ∈ looks l o, t < a.tmps.size) (hz : ∀ d, o.dst = some d → d < a.tmps.size)
  {K : Act → World → Prop} (hK : ∀ v w' I', WOk c.B I' w' → Ext c.B I w I' w' → H1 c.B (a.put o.dst v) I' w' → Rel I' w' y v → K (a.put o.dst v) w') : wpOpIn (FW r) 0 P l.toArray Q i K a w := by
 obtain ⟨hg, hs⟩ := h
 have hops : OpsOk I w (envGet env) a o := fun x hx z hz => by
  cases x with
  | tmp t => exact hv t (mem_looks (by simpa using hx)) z hz
  | const v => simp [aeval] at hz; subst hz; exact rel_const v
  | global g => simp [aeval] at hz; subst hz; exact .val _
  | func f => simp [aeval] at hz; subst hz; exact .fn _ _ _ _ _ .nil .nil
 have hio : l.toArray[i]? = some o := by simpa using hi
 unfold wpOpIn
 simp only [hio]
 have hwant : Region.wanted o (yielded l.toArray a.tmps) = true := by simp [Region.wanted, hg]
 rw [if_pos hwant]
 exact hs c.B I w r a hw hh hops hz K Q (fun v w' ⟨I', h1, h2, h3, h4⟩ => hK v w' I' h1 h2 h3 h4) (fun _ _ h => h.elim)
def loOf (l : List Oper) (ss : List Nat) (i : Nat) : Nat := ss.countP fun s => ((masks l []).getD i 0).testBit s
def hiOf (l : List Oper) (ss : List Nat) (i : Nat) : Nat := ss.countP fun s => !((masks l []).getD s 0).testBit i && !Nat.beq s i
def stp (ss : List Nat) (i : Nat) : Nat := ss.countP fun s => Nat.beq s i
def TOk (P : Program) (Hs : Nat → Mem) (l : List Oper) (ss : List Nat) (i : Nat) (env : List (Nat × AV)) (o : Oper) (x : AV) : Prop :=
 ∀ j, loOf l ss i ≤ j → j ≤ hiOf l ss i → EOk P (Hs j) (Hs (j + stp ss i)) l env o x
def TD (P : Program) (Hs : Nat → Mem) (l : List Oper) (ss : List Nat) (n : Nat) : Nat → List Oper → List (Nat × AV) → (List (Nat × AV) → Prop) → Prop
 | _, [], env, K => K env
 | i, o :: rest, env, K => ∃ x, TOk P Hs l ss i env o x ∧ dstOk n o.dst = true ∧ TD P Hs l ss n (i + 1) rest (putEnv o.dst x env) K
theorem TD.mono {P : Program} {Hs : Nat → Mem} {ops : List Oper} {ss : List Nat} {n : Nat} {K K' : List (Nat × AV) → Prop} (hk : ∀ env, K env → K' env) : ∀ {k : Nat} {l : List Oper} {env : List (Nat × AV)}, TD P Hs ops ss n k l env K → TD P Hs ops ss n k l env K'
 | _, [], _, h => hk _ h
 | _, _ :: _, _, ⟨x, h1, h2, h3⟩ => ⟨x, h1, h2, h3.mono hk⟩
section
variable {c : Ctx} {r : Option Nat} {P : Program} {l : List Oper} {st : St} {Q : Exit → Act → World → Prop}
end
section
variable {P : Program} {L rest : List Oper} {ss : List Nat} {n i d : Nat} {o : Oper} {env : List (Nat × AV)} {K : List (Nat × AV) → Prop} {x : AV} {M : Nat → Mem} {Hs : Nat → List Ent}
theorem TD.nil (h : K env) : TD P M L ss n i [] env K := h
variable {H : List Ent} {Hg : Value → List Ent} {de : Nat}
theorem SOk.store {H H' : List Ent} {ρ : Nat → Option AV} {t tb : TypeId} {p z : Operand} {y : AV} {gp g : Bool} {b off m : Nat} {cs ds : List AV} {agg : Bool} [ht : HasTy P t (agg, m)] (h : o.op = .store t p z)
  (hp : aev ρ p = some (gp, .p b off)) (hgp : gp = true) (hz : aev ρ z = some (g, y)) (hg : g = true) (hb : bOk y = true) (h1 : allOne (bcells y) = true)
  (hm : Nat.beq (bcells y).length m = true) (hu : Upd H (.blk b tb cs) (.blk b tb ds) H') (hfit : Nat.ble (off + (bcells y).length) cs.length = true) (hds : cs.take off ++ bcells y ++ cs.drop (off + (bcells y).length) = ds) : SOk P H H' ρ o := by
 intro B I w r a hw hh ho
 subst hds
 have ht' : tyInfo P t = some (agg, (bcells y).length) := by rw [Nat.eq_of_beq_eq_true hm]; exact ht.h
 have hpv := rel_val (ho.get (by simp [h, Op.operands]) hp hgp)
 have hzv := bcells_rel (ho.get (by simp [h, Op.operands]) hz hg) hb
 obtain ⟨hB, vs, hblk, hrel, hni⟩ := hh.ok _ hu.mem
 have hone := relL_one hzv h1
 have hlen : (a.eval z).cells.toList.length = (bcells y).length := hzv.length
 have hcl : vs.size = cs.length := by have := hrel.length; simpa using this
 have hfit' : off + 0 + (a.eval z).cells.toList.length ≤ vs.size := by
  have := Nat.le_of_ble_eq_true hfit
  rw [hlen, hcl]; omega
 have hrun := run_storeCells_at P b off tb (a.eval z).cells.toList 0 vs w hblk hfit' hone
 obtain ⟨_, hsz⟩ := tyInfo_run ht' w
 generalize hcur : (vs.toList.take (off + 0) ++ (a.eval z).cells.toList ++ vs.toList.drop (off + 0 + (a.eval z).cells.toList.length)).toArray = cur at hrun
 have hsize : (a.eval z).cells.size = (bcells y).length := by simpa using hlen
 have hexec : (execOp a.eval o).run P w = .ok .skip (w.setRow b cur) := by
  simp [execOp, h, Instr.storeAt, hpv, Instr.sureAddr, storeVar, hsz, hsize, hrun]
 have hkeep : Keeps I w I (w.setRow b cur) := ⟨fun _ _ x => x, fun b' o' hI => by
  have hne : b' ≠ b := fun e => by subst e; exact hni o' hI
  exact World.cell?_of_block (a := ⟨b', o', none⟩) (setRow_other w b b' cur hne)⟩
 have hext : Ext B I w I (w.setRow b cur) := ⟨hkeep.imm, hkeep.cell, ⟨rfl, rfl, rfl, by simp, fun k hk => setRow_other w b k cur (by omega)⟩⟩
 have hw' : WOk B I (w.setRow b cur) := ⟨by simpa using hw.base, fun b' o' hI => by rw [hkeep.cell b' o' hI]; exact hw.there b' o' hI⟩
 have hrel' : RelL I w (cs.take off ++ bcells y ++ cs.drop (off + (bcells y).length)) cur.toList := by
  rw [← hcur]
  simp only [Nat.add_zero, hlen]
  exact ((hrel.take off).append hzv).append (hrel.drop _)
 have hh' : HeapOk B I (w.setRow b cur) H' := by
  refine hh.upd hu hkeep (fun k hk hne => setRow_other w b k cur (fun e => hne (by subst e; rfl))) (fun _ _ x => .inl x) ?_ (fun k hk => .inl hk)
  exact ⟨hB, cur, setRow_heap w b vs cur tb (0, 0) hblk, hrel'.keep hkeep, hni⟩
 exact Runs.of_skip (by simp [h]) hexec ⟨I, hw', hext, hh'⟩
end
section
variable {P : Program}
variable {c : Ctx} {r : Option Nat} {ops : Array Oper} {l rest : List Oper} {o : Oper} {env : List (Nat × AV)} {H : List Ent} {Q : Exit → Act → World → Prop} {d : Nat}
def AV.is (y : AV) (v : Value) : Prop := ∀ (I : Imm) (w : World) (u : Value), Rel I w y u → u = v
theorem CW.scope {st : St} {p : Code} (h : CW c none P p st (Exit.noGoto Q)) : CW c none P (.scope p) st Q := fun a w s =>
 (wpIn_wide (n := 0)).2 (wp_scope_straight ((wpIn_wide (n := 0)).1 (h a w s)))
theorem CW.label {st : St} {k : Nat} (h : Done c st .normal Q) : CW c r P (.label k) st Q := fun a w s => wpIn_label (h a w s)
end
section
variable {P : Program} {H : List Ent} {ρ : Nat → Option AV} {o : Oper}
theorem Borrow.blk {t b k cap : Nat} {els : List (List AV)} {more : List AV} {pre post : List AV} (hm : Ent.blk b t (els.flatten ++ more) ∈ H) (hk : ∀ e ∈ els, e.length = k) (hc : els.length ≤ cap) (hcm : cap ≤ maxLen) : Borrow H (pre ++ .val (.slice (some ⟨b, 0, none⟩) els.length cap) :: post) (pre ++ .sl k els :: post) := by
 intro B I w Hc vs hw hh hs hr
 obtain ⟨hB, us, hb, hrel, hni⟩ := hh.ok _ (hs _ hm)
 let J : Imm := fun b' o' => I b' o' ∨ (b' = b ∧ o' < us.size)
 have kk : Keeps I w J w := ⟨fun _ _ h => .inl h, fun _ _ _ => rfl⟩
 refine ⟨J, fun b' o' h => ?_, ?_⟩
 ·rcases h with h | ⟨rfl, h⟩
  ·exact hw.there b' o' h
  ·exact ⟨us[o'], by rw [cell_of_blk hb]; exact Array.getElem?_eq_getElem h⟩
 obtain ⟨as, zs, rfl, r1, r2⟩ := hr.append_inv
 cases r2 with
 | cons _ u _ zs hx ht =>
  have := rel_val hx
  subst this
  have hlen := hrel.length
  rw [List.length_append, flatten_len hk] at hlen
  have hsz : us.size = els.length * k + more.length := by simpa using hlen
  have hcells : Cells J w b 0 (els.flatten ++ more) := cells_of hb _ us.toList 0 (hrel.keep kk) (fun j u hu => by simpa using hu) (fun j hj => .inr ⟨rfl, by rw [List.length_append, flatten_len hk] at hj; omega⟩)
  have hc2 := hcells.take els.flatten.length
  rw [List.take_left] at hc2
  exact (r1.keep kk).append (.cons _ _ _ _ (.sl _ _ _ _ _ _ rfl hc hcm (els_of_cells els 0 hk hc2)) (ht.keep kk))
end
section
variable {c : Ctx} {r : Option Nat} {P : Program} {ops : Array Oper} {l rest : List Oper} {o : Oper} {env : List (Nat × AV)} {H : List Ent} {Q : Exit → Act → World → Prop} {d : Nat}
end
section
variable {c : Ctx} {r : Option Nat} {P : Program} {l : List Oper} {Q : Exit → Act → World → Prop}
end
section
variable {P : Program} {L rest : List Oper} {ss : List Nat} {n i d : Nat} {o : Oper} {env : List (Nat × AV)} {K : List (Nat × AV) → Prop} {x : AV} {H : List Ent} {Hb : Nat → Nat → List Ent} {de : Nat}
end
def eqField (P : Program) (p : Field × Nat) : Bool := p.1.offset == p.2 && p.1.name != "_" && P.plainKey p.1.type && (match P.underlying p.1.type with | some (.int _) => true | _ => false)
def eqInts (P : Program) (t : TypeId) (n : Nat) : Bool := (match P.underlying t with | some (.struct fs) => fs.toList.length == n && fs.toList.zipIdx.all (eqField P) | _ => false) && !P.stoodInHeld t && !P.eqGuardType P.depth t
class HasEq (P : Program) (t : TypeId) (n : outParam Nat) : Prop where
 h : eqInts P t n = true
abbrev intsArr (l : List Int) : Array Value := (l.map fun n => Value.int .i64 n).toArray
theorem eqFields_ints {P : Program} {w : World} (d : Nat) {as bs : List Int} {n : Nat} (ha : as.length = n) (hb : bs.length = n) : ∀ (fs : List Field) (k : Nat), k + fs.length = n → ((fs.zipIdx k).all (eqField P)) = true →
  (Op.eqFields (d + 1) (intsArr as) (intsArr bs) fs).run P w = .ok (as.drop k == bs.drop k) w
 | [], k, hk, _ => by
  rw [List.length_nil] at hk
  rw [List.drop_of_length_le (by omega), List.drop_of_length_le (by omega)]; rfl
 | f :: fs, k, hk, hf => by
  rw [List.length_cons] at hk
  rw [List.zipIdx_cons, List.all_cons, Bool.and_eq_true] at hf
  have h1 := hf.1
  simp only [eqField, Bool.and_eq_true, beq_iff_eq, bne_iff_ne, ne_eq] at h1
  obtain ⟨⟨⟨ho, hn⟩, hp⟩, hu⟩ := h1
  obtain ⟨k', hu⟩ : ∃ k', P.underlying f.type = some (.int k') := by
   split at hu
   ·rename_i k' e; exact ⟨k', e⟩
   ·cases hu
  have hka : k < as.length := by omega
  have hkb : k < bs.length := by omega
  have ga : (intsArr as)[f.offset]? = some (.int .i64 as[k]) := by rw [ho]; simp [intsArr, List.getElem?_eq_getElem hka]
  have gb : (intsArr bs)[f.offset]? = some (.int .i64 bs[k]) := by rw [ho]; simp [intsArr, List.getElem?_eq_getElem hkb]
  have hab : (as.drop k == bs.drop k) = (as[k] == bs[k] && as.drop (k + 1) == bs.drop (k + 1)) := by rw [List.drop_eq_getElem_cons hka, List.drop_eq_getElem_cons hkb]; rfl
  rw [hab]
  simp only [Op.eqFields, Sem.run_ite, Sem.run_bind]
  rw [if_pos hn, Go.run_part_plain (w := w) hp ga]
  simp only [Result.andThen_ok]
  rw [Go.run_part_plain (w := w) hp gb]
  simp only [Result.andThen_ok]
  rw [run_equalIn_int w d f.type .i64 k' as[k] bs[k] hu]
  simp only [Result.andThen_ok]
  have ih := eqFields_ints (P := P) (w := w) d ha hb fs (k + 1) (by omega) hf.2
  by_cases e : as[k] = bs[k]
  ·have e2 : (as[k] == bs[k]) = true := by simpa using e
   rw [e2]
   simp only [Bool.not_true, Bool.false_eq_true, if_false, Bool.true_and]
   exact ih
  ·have e2 : (as[k] == bs[k]) = false := by simpa using e
   rw [e2]
   simp only [Bool.not_false, if_true, Sem.run_pure, Bool.false_and]
section
variable {P : Program} {H : List Ent} {ρ : Nat → Option AV} {o : Oper}
end
theorem post_of_below {H : Type} {enc : TypeId × Value → H} {P : Program} {f : Func} {s : ChangeSpec} {apart fresh handsOn again : Bool} {W W' : World} {args : Array Value} {v : Value} {ds gs : List (DataW H)} {before pa pv : List MemPlace}
  (hW : DataW.Whole enc P f.params.toList s.vars apart W args.toList ds gs before)
  (hres : ∀ (b : Nat) (sp : Nat → Bool) (hd : Bool), DataW.TrodAll enc P W' b sp hd f.resultTypes.toList (v.resultList f.resultTypes.size) (s.fn H (ds ++ gs)).results [])
  (hargs : ∀ sp : Nat → Bool, (∀ p ∈ before, sp p.block = true) → DataW.TrodAll enc P W' 0 sp true f.params.toList args.toList (s.fn H (ds ++ gs)).args pa)
  (hvars : ∀ sp : Nat → Bool, (∀ p ∈ before, sp p.block = true) → DataW.TrodVars enc P W' sp s.vars (s.fn H (ds ++ gs)).vars pv)
  (hps : before = pa ++ pv) (hb : Below W.heap.size W W')
  (hok : ∀ (j : Nat) (t : TypeId) (r : Value), f.resultTypes[j]? = some t → (v.resultList f.resultTypes.size)[j]? = some r → Value.okWide P W' .any 0 t r) :
  s.post enc P f apart fresh handsOn again W args v W' := by
 have hold : ∀ p ∈ before, (fun b => decide (b < W.heap.size)) p.block = true := fun p hp => by simpa using hW.lt p hp
 have hlt : ∀ p ∈ before, p.block < W.heap.size := fun p hp => hW.lt p hp
 refine ⟨ds, gs, before, [], pa, pv, hW, hres _ _ _, hargs _ hold, hvars _ hold, hb.frame _, fun _ => ?_⟩
 obtain ⟨_, _, _, _, _, hz, hn⟩ := hW
 refine ⟨hok, _, _, ([] ++ pa) ++ pv, ⟨[] ++ pa, pv, trodAll_append (hargs _ (fun _ _ => rfl)) (hres _ _ _), hvars _ (fun _ _ => rfl), rfl, ?_, ?_⟩, ?_⟩
 ·intro b off hp
  have hp' : MemPlace.cell b off ∈ before := by rw [hps]; simpa using hp
  rw [hb.frozen (p := ⟨b, off, none⟩) (hlt _ hp')]
  exact hz b off hp'
 ·intro ha
  have := hn ha
  rw [hps] at this
  simpa using this
 ·intro p hp _
  rw [hps]
  simpa using hp
def mkInfo (P : Program) (t : TypeId) : Option (TypeId × Nat × Value) :=
 match P.underlying t with
 | some (.slice e) => match P.info? e with
  | some i => match i.zero with
   | some z => match z.cells.toList with
    | [v] => bif Nat.beq i.size 1 then some (e, i.bytes, v) else none
    | _ => none
   | none => none
  | none => none
 | _ => none
class HasMk (P : Program) (t : Nat) (x : outParam (Nat × Nat × Value)) : Prop where h : mkInfo P t = some x
section
variable {P : Program} {c : Ctx} {r : Option Nat} {ops : Array Oper} {rest : List Oper} {env : List (Nat × AV)} {H : List Ent} {Q : Exit → Act → World → Prop} {o : Oper} {d : Nat}
end
def ShutS (l : List Oper) (S : Nat → Bool) : Prop := ∀ i oi, l[i]? = some oi → S i = true → ∀ j, ((masks l []).getD i 0).testBit j = true → S j = true
def addS (S : Nat → Bool) (i : Nat) : Nat → Bool := fun j => if j = i then true else S j
abbrev PX := Nat → Imm → World → List PanicEntry → World → Prop
abbrev noX : PX := fun _ _ _ _ _ => False
def EOkX (X : PX) (P : Program) (M0 M1 : Mem) (ops : List Oper) (env : List (Nat × AV)) (o : Oper) (y : AV) : Prop :=
 o.guard = none ∧ ∀ (B : Nat) (I : Imm) (w : World) (r : Option Nat) (a : Act), WOk B I w → M0 B a I w → OpsOk I w (envGet env) a o → (∀ d, o.dst = some d → d < a.tmps.size) →
  Runs P r o a w (fun v w' => ∃ I', WOk B I' w' ∧ Ext B I w I' w' ∧ M1 B (a.put o.dst v) I' w' ∧ Rel I' w' y v) (X B I w)
theorem EOkX.congr {X : PX} {P : Program} {H0 H1 : Mem} {ops : List Oper} {env env' : List (Nat × AV)} {o : Oper} {y : AV} (h : EOkX X P H0 H1 ops env o y) (same : ∀ t ∈ looks ops o, envGet env t = envGet env' t) : EOkX X P H0 H1 ops env' o y :=
 ⟨h.1, fun B I w r a hw hm ho hz => h.2 B I w r a hw hm (ho.congr fun t ht => same t (mem_looks ht)) hz⟩
theorem EOkX.run {X : PX} {c : Ctx} {r : Option Nat} {P : Program} {l : List Oper} {H H1 : Mem} {env : List (Nat × AV)} {o : Oper} {y : AV} {Q : Exit → Act → World → Prop} (h : EOkX X P H H1 l env o y) {i : Nat} (hi : l[i]? = some o)
  {a : Act} {w : World} {I : Imm} (hw : WOk c.B I w) (hh : H c.B a I w) (hv : ∀ t ∈ looks l o, ∀ z, envGet env t = some z → Rel I w z (a.tmps.getD t undef)) (hn : ∀ t ∈ looks l o, t < a.tmps.size) (hz : ∀ d, o.dst = some d → d < a.tmps.size)
  {K : Act → World → Prop} (hK : ∀ v w' I', WOk c.B I' w' → Ext c.B I w I' w' → H1 c.B (a.put o.dst v) I' w' → Rel I' w' y v → K (a.put o.dst v) w') (hX : ∀ ch w', X c.B I w ch w' → Q (.panic ch) a w') : wpOpIn (FW r) 0 P l.toArray Q i K a w := by
 obtain ⟨hg, hs⟩ := h
 have hops : OpsOk I w (envGet env) a o := fun x hx z hz => by
  cases x with
  | tmp t => exact hv t (mem_looks (by simpa using hx)) z hz
  | const v => simp [aeval] at hz; subst hz; exact rel_const v
  | global g => simp [aeval] at hz; subst hz; exact .val _
  | func f => simp [aeval] at hz; subst hz; exact .fn _ _ _ _ _ .nil .nil
 have hio : l.toArray[i]? = some o := by simpa using hi
 unfold wpOpIn
 simp only [hio]
 have hwant : Region.wanted o (yielded l.toArray a.tmps) = true := by simp [Region.wanted, hg]
 rw [if_pos hwant]
 exact hs c.B I w r a hw hh hops hz K Q (fun v w' ⟨I', h1, h2, h3, h4⟩ => hK v w' I' h1 h2 h3 h4) hX
def UOkX (X : PX) (P : Program) (M : (Nat → Bool) → Mem) (l : List Oper) (i : Nat) (env : List (Nat × AV)) (o : Oper) (x : AV) : Prop :=
 ∀ S, ShutS l S → (∀ j, ((masks l []).getD i 0).testBit j = true → S j = true) → S i = false → EOkX X P (M S) (M (addS S i)) l env o x
def UDX (X : PX) (P : Program) (M : (Nat → Bool) → Mem) (l : List Oper) (n : Nat) : Nat → List Oper → List (Nat × AV) → (List (Nat × AV) → Prop) → Prop
 | _, [], env, K => K env
 | i, o :: rest, env, K => ∃ x, UOkX X P M l i env o x ∧ dstOk n o.dst = true ∧ UDX X P M l n (i + 1) rest (putEnv o.dst x env) K
abbrev UD := UDX noX
theorem UDX.mono {X : PX} {P : Program} {M : (Nat → Bool) → Mem} {ops : List Oper} {n : Nat} {K K' : List (Nat × AV) → Prop} (hk : ∀ env, K env → K' env) : ∀ {k : Nat} {l : List Oper} {env : List (Nat × AV)}, UDX X P M ops n k l env K → UDX X P M ops n k l env K'
 | _, [], _, h => hk _ h
 | _, _ :: _, _, ⟨x, h1, h2, h3⟩ => ⟨x, h1, h2, h3.mono hk⟩
section
variable {c : Ctx} {r : Option Nat} {P : Program} {l : List Oper} {st : St} {Q : Exit → Act → World → Prop}
end
structure VS where
 e : Nat
 d : Nat
 t : TypeId
 zs : List Value
 s : Nat
 ys : List AV
theorem nodup_at {α : Type} (f : α → Nat) {l pre post : List α} {v u : α} (h : (l.map f).Nodup) (hl : l = pre ++ v :: post) (hu : u ∈ pre ∨ u ∈ post) : f u ≠ f v := by
 subst hl
 rw [List.map_append, List.map_cons] at h
 have h2 := List.nodup_append.1 h
 rcases hu with hu | hu
 ·exact fun e => h2.2.2 (f u) (List.mem_map_of_mem hu) (f v) (by simp) e
 ·exact fun e => (List.nodup_cons.1 h2.2.1).1 (by rw [← e]; exact List.mem_map_of_mem hu)
theorem Upd.under {e e' : Ent} {H : List Ent} : ∀ (X : List Ent), Upd (X ++ e :: H) e e' (X ++ e' :: H)
 | [] => .head _ _ _
 | f :: X => .tail _ _ _ _ _ (Upd.under X)
section
variable {c : Ctx} {r : Option Nat} {P : Program} {l : List Oper} {Q : Exit → Act → World → Prop}
theorem EnvOk.vars {I : Imm} {w : World} {a : Act} {env : List (Nat × AV)} {bs : Nat → Nat} (h : EnvOk I w (envGet env) a) : ∀ (vs : List VS), (∀ v ∈ vs, a.tmps.getD v.d undef = .pointer (some ⟨bs v.d, 0, none⟩)) → EnvOk I w (envGet (vs.map (fun v => (v.d, AV.p (bs v.d) 0)) ++ env)) a
 | [], _ => h
 | v :: r, hv => fun t x hx => by
  rw [List.map_cons, List.cons_append, envGet_cons] at hx
  split at hx
  ·rename_i e
   cases hx
   subst e
   rw [hv v (.head _)]; exact .val _
  ·exact EnvOk.vars h r (fun u hu => hv u (.tail _ hu)) t x hx
end
section
variable {P : Program} {L rest : List Oper} {vs : List VS} {n i d : Nat} {o : Oper} {env : List (Nat × AV)} {K : List (Nat × AV) → Prop} {x : AV} {H : List Ent}
theorem UD.nil {X : PX} {M : (Nat → Bool) → Mem} (h : K env) : UDX X P M L n i [] env K := h
end
end Go.Eng
