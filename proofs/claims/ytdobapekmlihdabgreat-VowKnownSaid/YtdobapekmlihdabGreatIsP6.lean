/- Part 6 of the proof: contracts of functions of the program and what they need. No condition beyond those that each theorem names. -/
import Derived.Test.YtdobapekmlihdabGreatIsP5
set_option linter.unusedVariables false
namespace Go.EvK
open Go.Eng Go.Ev
inductive Pth where
 | here
 | lft (p : Pth)
 | rgt (p : Pth)
noncomputable def pathN (f : Nat) : Nat → Pth := Nat.rec (motive := fun _ => Nat → Pth) (fun _ => .here) (fun _ ih k => Nat.rec (motive := fun _ => Pth) .here (fun j _ => Bool.rec (motive := fun _ => Pth) (.rgt (ih (Nat.div j (nat_lit 2)))) (.lft (ih (Nat.div j (nat_lit 2)))) (Nat.beq (Nat.mod j (nat_lit 2)) (nat_lit 0))) k) f
noncomputable def path (k : Nat) : Pth := pathN k k
theorem get_step {α : Type} (l : Tr α) (v : Option α) (r : Tr α) (j : Nat) : Tr.get (.node l v r) (j + 1) = Bool.rec (motive := fun _ => Option α) (r.get (j / 2)) (l.get (j / 2)) (Nat.beq (j % 2) 0) := by
 rw [Tr.get]
 have h1 : Nat.beq (j + 1) 0 = false := rfl
 rw [h1]
 rcases Nat.mod_two_eq_zero_or_one j with h | h
 ·have h2 : (j + 1) % 2 = 1 := by omega
  have h3 : (j + 1) / 2 = j / 2 := by omega
  rw [h2, h3, h]; rfl
 ·have h2 : (j + 1) % 2 = 0 := by omega
  have h3 : (j + 1) / 2 - 1 = j / 2 := by omega
  rw [h2, h3, h]; rfl
theorem ble_0 : Nat.ble (0 + 2) (2 ^ 0) = false := rfl
theorem ble_z (n : Nat) : Nat.ble (Nat.add 0 2) (Nat.pow 2 (n + 1)) = true := by
 rw [Nat.ble_eq]; show 2 ≤ 2 ^ (n + 1); rw [Nat.pow_succ]; have := Nat.two_pow_pos n; omega
theorem ble_s (n j : Nat) : Nat.ble (Nat.add (j + 1) 2) (Nat.pow 2 (n + 1)) = Nat.ble (Nat.add (j / 2) 2) (Nat.pow 2 n) := by
 rw [Bool.eq_iff_iff, Nat.ble_eq, Nat.ble_eq]
 show j + 1 + 2 ≤ 2 ^ (n + 1) ↔ j / 2 + 2 ≤ 2 ^ n
 rw [Nat.pow_succ]; omega
theorem set_z {α : Type} (n : Nat) (t : Tr α) (x : Option α) : Tr.set (n + 1) t 0 x = match t with | .nil => some (.node .nil x .nil) | .node l _ r => some (.node l x r) := by
 cases t <;> rfl
theorem set_s {α : Type} (n : Nat) (t : Tr α) (j : Nat) (x : Option α) : Tr.set (n + 1) t (j + 1) x = match t with
  | .nil => Bool.rec (motive := fun _ => Option (Tr α)) (match Tr.set n .nil (j / 2) x with | some r' => some (.node .nil none r') | none => none) (match Tr.set n .nil (j / 2) x with | some l' => some (.node l' none .nil) | none => none) (Nat.beq (j % 2) 0)
  | .node l v r => Bool.rec (motive := fun _ => Option (Tr α)) (match Tr.set n r (j / 2) x with | some r' => some (.node l v r') | none => none) (match Tr.set n l (j / 2) x with | some l' => some (.node l' v r) | none => none) (Nat.beq (j % 2) 0) := by
 have h1 : Nat.beq (j + 1) 0 = false := rfl
 rcases Nat.mod_two_eq_zero_or_one j with h | h
 ·have h2 : (j + 1) % 2 = 1 := by omega
  have h3 : (j + 1) / 2 = j / 2 := by omega
  cases t <;> (rw [Tr.set, h1, h2, h3, h]; rfl)
 ·have h2 : (j + 1) % 2 = 0 := by omega
  have h3 : (j + 1) / 2 - 1 = j / 2 := by omega
  cases t <;> (rw [Tr.set, h1, h2, h3, h]; rfl)
noncomputable def pCV (p : Pth) : Tr CV → Option CV :=
 Pth.rec (motive := fun _ => Tr CV → Option CV) (fun t => Tr.rec (motive := fun _ => Option CV) none (fun _ v _ _ _ => v) t)
  (fun _ ih t => Tr.rec (motive := fun _ => (Tr CV → Option CV) → Option CV) (fun _ => none) (fun l _ _ _ _ ih => ih l) t ih)
  (fun _ ih t => Tr.rec (motive := fun _ => (Tr CV → Option CV) → Option CV) (fun _ => none) (fun _ _ r _ _ ih => ih r) t ih) p
noncomputable def getCV (t : Tr CV) (k : Nat) : Option CV := pCV (path k) t
theorem pCV_law : ∀ (f : Nat) (t : Tr CV) (k : Nat), k ≤ f → pCV (pathN f k) t = Tr.get t k
 | 0, .nil, 0, _ => rfl
 | f + 1, .nil, 0, _ => rfl
 | 0, .nil, j + 1, h => by omega
 | f + 1, .nil, j + 1, h => by
  show pCV (Bool.rec (motive := fun _ => Pth) (.rgt (pathN f (j / 2))) (.lft (pathN f (j / 2))) (Nat.beq (j % 2) 0)) .nil = none
  cases Nat.beq (j % 2) 0 <;> rfl
 | 0, .node l v r, 0, _ => rfl
 | f + 1, .node l v r, 0, _ => rfl
 | 0, .node l v r, j + 1, h => by omega
 | f + 1, .node l v r, j + 1, h => by
  rw [get_step, ← pCV_law f r (j / 2) (by omega), ← pCV_law f l (j / 2) (by omega)]
  show pCV (Bool.rec (motive := fun _ => Pth) (.rgt (pathN f (j / 2))) (.lft (pathN f (j / 2))) (Nat.beq (j % 2) 0)) (.node l v r) = _
  cases Nat.beq (j % 2) 0 <;> rfl
theorem getCV_eq : getCV = @Tr.get CV := by funext t k; exact pCV_law k t k (Nat.le_refl k)
noncomputable def qCV (p : Pth) (x : Option CV) : Tr CV → Tr CV := Pth.rec (motive := fun _ => Option CV → Tr CV → Tr CV)
 (fun x t => Tr.rec (motive := fun _ => Option CV → Tr CV) (fun x => .node .nil x .nil) (fun l _ r _ _ x => .node l x r) t x)
 (fun _ ih x t => Tr.rec (motive := fun _ => (Option CV → Tr CV → Tr CV) → Option CV → Tr CV) (fun ih x => .node (ih x .nil) none .nil) (fun l v r _ _ ih x => .node (ih x l) v r) t ih x)
 (fun _ ih x t => Tr.rec (motive := fun _ => (Option CV → Tr CV → Tr CV) → Option CV → Tr CV) (fun ih x => .node .nil none (ih x .nil)) (fun l v r _ _ ih x => .node l v (ih x r)) t ih x) p x
noncomputable def setCV (n : Nat) (t : Tr CV) (k : Nat) (x : Option CV) : Option (Tr CV) := Bool.rec (motive := fun _ => Option (Tr CV)) none (some (qCV (path k) x t)) (Nat.ble (Nat.add k (nat_lit 2)) (Nat.pow (nat_lit 2) n))
theorem qCV_law : ∀ (n f : Nat) (t : Tr CV) (k : Nat) (x : Option CV), k ≤ f → Bool.rec (motive := fun _ => Option (Tr CV)) none (some (qCV (pathN f k) x t)) (Nat.ble (Nat.add k 2) (Nat.pow 2 n)) = Tr.set n t k x
 | 0, f, t, k, x, _ => by
  have h : Nat.ble (Nat.add k 2) (Nat.pow 2 0) = false := by
   rw [Bool.eq_false_iff]; intro h; have := Nat.le_of_ble_eq_true h; have e : Nat.pow 2 0 = 1 := rfl; rw [e] at this; have : k + 2 ≤ 1 := this; omega
  rw [h]; rfl
 | n + 1, 0, t, 0, x, _ => by rw [ble_z, set_z]; cases t <;> rfl
 | n + 1, f + 1, t, 0, x, _ => by rw [ble_z, set_z]; cases t <;> rfl
 | n + 1, 0, t, j + 1, x, h => by omega
 | n + 1, f + 1, t, j + 1, x, h => by
  have hs : ∀ t, Tr.set n t (j / 2) x = Bool.rec (motive := fun _ => Option (Tr CV)) none (some (qCV (pathN f (j / 2)) x t)) (Nat.ble (Nat.add (j / 2) 2) (Nat.pow 2 n)) := fun t => (qCV_law n f t (j / 2) x (by omega)).symm
  have hp : pathN (f + 1) (j + 1) = Bool.rec (motive := fun _ => Pth) (.rgt (pathN f (j / 2))) (.lft (pathN f (j / 2))) (Nat.beq (j % 2) 0) := rfl
  rw [ble_s, set_s, hp]
  cases t with
  | nil =>
   simp only [hs]
   cases Nat.ble (Nat.add (j / 2) 2) (Nat.pow 2 n) <;> cases Nat.beq (j % 2) 0 <;> rfl
  | node l v r =>
   simp only [hs]
   cases Nat.ble (Nat.add (j / 2) 2) (Nat.pow 2 n) <;> cases Nat.beq (j % 2) 0 <;> rfl
theorem setCV_eq : setCV = @Tr.set CV := by funext n t k x; exact qCV_law n k t k x (Nat.le_refl k)
noncomputable def pCO (p : Pth) : Tr CO → Option CO :=
 Pth.rec (motive := fun _ => Tr CO → Option CO) (fun t => Tr.rec (motive := fun _ => Option CO) none (fun _ v _ _ _ => v) t)
  (fun _ ih t => Tr.rec (motive := fun _ => (Tr CO → Option CO) → Option CO) (fun _ => none) (fun l _ _ _ _ ih => ih l) t ih)
  (fun _ ih t => Tr.rec (motive := fun _ => (Tr CO → Option CO) → Option CO) (fun _ => none) (fun _ _ r _ _ ih => ih r) t ih) p
noncomputable def getCO (t : Tr CO) (k : Nat) : Option CO := pCO (path k) t
theorem pCO_law : ∀ (f : Nat) (t : Tr CO) (k : Nat), k ≤ f → pCO (pathN f k) t = Tr.get t k
 | 0, .nil, 0, _ => rfl
 | f + 1, .nil, 0, _ => rfl
 | 0, .nil, j + 1, h => by omega
 | f + 1, .nil, j + 1, h => by
  show pCO (Bool.rec (motive := fun _ => Pth) (.rgt (pathN f (j / 2))) (.lft (pathN f (j / 2))) (Nat.beq (j % 2) 0)) .nil = none
  cases Nat.beq (j % 2) 0 <;> rfl
 | 0, .node l v r, 0, _ => rfl
 | f + 1, .node l v r, 0, _ => rfl
 | 0, .node l v r, j + 1, h => by omega
 | f + 1, .node l v r, j + 1, h => by
  rw [get_step, ← pCO_law f r (j / 2) (by omega), ← pCO_law f l (j / 2) (by omega)]
  show pCO (Bool.rec (motive := fun _ => Pth) (.rgt (pathN f (j / 2))) (.lft (pathN f (j / 2))) (Nat.beq (j % 2) 0)) (.node l v r) = _
  cases Nat.beq (j % 2) 0 <;> rfl
theorem getCO_eq : getCO = @Tr.get CO := by funext t k; exact pCO_law k t k (Nat.le_refl k)
noncomputable def qCO (p : Pth) (x : Option CO) : Tr CO → Tr CO := Pth.rec (motive := fun _ => Option CO → Tr CO → Tr CO)
 (fun x t => Tr.rec (motive := fun _ => Option CO → Tr CO) (fun x => .node .nil x .nil) (fun l _ r _ _ x => .node l x r) t x)
 (fun _ ih x t => Tr.rec (motive := fun _ => (Option CO → Tr CO → Tr CO) → Option CO → Tr CO) (fun ih x => .node (ih x .nil) none .nil) (fun l v r _ _ ih x => .node (ih x l) v r) t ih x)
 (fun _ ih x t => Tr.rec (motive := fun _ => (Option CO → Tr CO → Tr CO) → Option CO → Tr CO) (fun ih x => .node .nil none (ih x .nil)) (fun l v r _ _ ih x => .node l v (ih x r)) t ih x) p x
noncomputable def setCO (n : Nat) (t : Tr CO) (k : Nat) (x : Option CO) : Option (Tr CO) := Bool.rec (motive := fun _ => Option (Tr CO)) none (some (qCO (path k) x t)) (Nat.ble (Nat.add k (nat_lit 2)) (Nat.pow (nat_lit 2) n))
theorem qCO_law : ∀ (n f : Nat) (t : Tr CO) (k : Nat) (x : Option CO), k ≤ f → Bool.rec (motive := fun _ => Option (Tr CO)) none (some (qCO (pathN f k) x t)) (Nat.ble (Nat.add k 2) (Nat.pow 2 n)) = Tr.set n t k x
 | 0, f, t, k, x, _ => by
  have h : Nat.ble (Nat.add k 2) (Nat.pow 2 0) = false := by
   rw [Bool.eq_false_iff]; intro h; have := Nat.le_of_ble_eq_true h; have e : Nat.pow 2 0 = 1 := rfl; rw [e] at this; have : k + 2 ≤ 1 := this; omega
  rw [h]; rfl
 | n + 1, 0, t, 0, x, _ => by rw [ble_z, set_z]; cases t <;> rfl
 | n + 1, f + 1, t, 0, x, _ => by rw [ble_z, set_z]; cases t <;> rfl
 | n + 1, 0, t, j + 1, x, h => by omega
 | n + 1, f + 1, t, j + 1, x, h => by
  have hs : ∀ t, Tr.set n t (j / 2) x = Bool.rec (motive := fun _ => Option (Tr CO)) none (some (qCO (pathN f (j / 2)) x t)) (Nat.ble (Nat.add (j / 2) 2) (Nat.pow 2 n)) := fun t => (qCO_law n f t (j / 2) x (by omega)).symm
  have hp : pathN (f + 1) (j + 1) = Bool.rec (motive := fun _ => Pth) (.rgt (pathN f (j / 2))) (.lft (pathN f (j / 2))) (Nat.beq (j % 2) 0) := rfl
  rw [ble_s, set_s, hp]
  cases t with
  | nil =>
   simp only [hs]
   cases Nat.ble (Nat.add (j / 2) 2) (Nat.pow 2 n) <;> cases Nat.beq (j % 2) 0 <;> rfl
  | node l v r =>
   simp only [hs]
   cases Nat.ble (Nat.add (j / 2) 2) (Nat.pow 2 n) <;> cases Nat.beq (j % 2) 0 <;> rfl
theorem setCO_eq : setCO = @Tr.set CO := by funext n t k x; exact qCO_law n k t k x (Nat.le_refl k)
end Go.EvK
