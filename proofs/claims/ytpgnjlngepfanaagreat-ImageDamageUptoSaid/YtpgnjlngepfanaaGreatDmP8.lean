/- Part 8 of the proof: contracts of functions of the program and what they need. No condition beyond those that each theorem names. -/
import Derived.Test.YtpgnjlngepfanaaGreatDmP7
import Derived.DeepKeys4
import Derived.Test.YtpgnjlngepfanaaGreatProg
import Derived.KernelRfl
import Derived.ProofKit
import Derived.Test.YtpgnjlngepfanaaGreatRows
set_option linter.unusedVariables false
namespace Go.Eng.Im
abbrev U8 := Fin 256
abbrev u8 (x : U8) : AV := .val (.int .u8 (x.val : Int))
abbrev u8s (l : List U8) : AV := .sl 1 (l.map fun x => [u8 x])
def numR : Nat → Bool → List U8 → Option (Nat × List U8)
 | 0, _, _ => none
 | _ + 1, _, [] => none
 | g + 1, first, x :: r =>
  if x.val < 128 then (if first || decide (0 < x.val) then some (x.val, r) else none)
  else match numR g false r with
   | some (n, r') => some (x.val - 128 + 128 * n, r')
   | none => none
def numberR (l : List U8) : Option (Nat × List U8) := numR 5 true l
def manyR (l : List U8) : Option (Nat × List U8) :=
 match numberR l with
 | some (n, r) => if n ≤ r.length then some (n, r) else none
 | none => none
def sumStep (p : Nat × Nat) (x : U8) : Nat × Nat := ((p.1 + x.val) % 65521, (p.2 + (p.1 + x.val) % 65521) % 65521)
def sumP (l : List U8) : Nat × Nat := l.foldl sumStep (1, 0)
def byteOf (n : Nat) : U8 := ⟨n % 256, Nat.mod_lt _ (by decide)⟩
def sumR (kind : U8) (body : List U8) : List U8 :=
 let p := sumP (kind :: body)
 [byteOf (p.2 / 256), byteOf p.2, byteOf (p.1 / 256), byteOf p.1]
structure Sec where
 kind : U8
 body : List U8
 damaged : Bool
def secR : List U8 → Option (Sec × List U8)
 | [] => none
 | k :: r =>
  match manyR r with
  | some (n, r1) =>
   if 4 ≤ (r1.drop n).length then some (⟨k, r1.take n, !((r1.drop n).take 4 == sumR k (r1.take n))⟩, (r1.drop n).drop 4) else none
  | none => none
def secsR : Nat → List U8 → List Sec × Bool
 | 0, l => ([], decide (l = []))
 | _ + 1, [] => ([], true)
 | f + 1, l => match secR l with
  | some (s, r) => (s :: (secsR f r).1, (secsR f r).2)
  | none => ([], false)
def secsOf (l : List U8) : List Sec × Bool := secsR l.length l
def splitR : List U8 → Option (U8 × List Sec)
 | a :: m :: r => if a.val = 67 ∧ (m.val = 79 ∨ m.val = 80) ∧ (secsOf r).2 = true then some (m, (secsOf r).1) else none
 | _ => none
theorem numR_len : ∀ {g : Nat} {first : Bool} {l : List U8} {n : Nat} {r : List U8}, numR g first l = some (n, r) → r.length < l.length
 | 0, _, _, _, _, h => by simp [numR] at h
 | g + 1, _, [], _, _, h => by simp [numR] at h
 | g + 1, first, x :: l, n, r, h => by
  rw [numR] at h
  split at h
  ·split at h
   ·simp at h; obtain ⟨_, rfl⟩ := h; simp
   ·cases h
  ·split at h
   ·rename_i m r' h'
    simp at h; obtain ⟨_, rfl⟩ := h
    have := numR_len h'
    simp; omega
   ·cases h
theorem numR_lt : ∀ {g : Nat} {first : Bool} {l : List U8} {n : Nat} {r : List U8}, numR g first l = some (n, r) → n < 128 ^ g
 | 0, _, _, _, _, h => by simp [numR] at h
 | g + 1, _, [], _, _, h => by simp [numR] at h
 | g + 1, first, x :: l, n, r, h => by
  rw [numR] at h
  have hx := x.isLt
  have hp : 128 ^ (g + 1) = 128 ^ g * 128 := rfl
  have h0 : 0 < 128 ^ g := Nat.pow_pos (by decide)
  split at h
  ·split at h
   ·simp at h; obtain ⟨rfl, _⟩ := h; omega
   ·cases h
  ·split at h
   ·rename_i m r' h'
    simp at h; obtain ⟨rfl, _⟩ := h
    have := numR_lt h'
    omega
   ·cases h
theorem u8_and127 : ∀ x : U8, bitI .and .u8 (x.val : Int) 127 = some ((x.val % 128 : Nat) : Int) := by decide +kernel
theorem p128 (i : Nat) : (128 : Nat) ^ i = 2 ^ (7 * i) := by rw [Nat.pow_mul]
theorem p128_le {i : Nat} (hi : i < 5) : (128 : Nat) ^ i ≤ 268435456 := by
 have : i = 0 ∨ i = 1 ∨ i = 2 ∨ i = 3 ∨ i = 4 := by omega
 rcases this with rfl | rfl | rfl | rfl | rfl <;> decide
theorem sh7 {a i : Nat} (ha : a < 128) (hi : i < 5) : shI .shl .i64 (a : Int) (7 * (i : Int)) = some ((a * 128 ^ i : Nat) : Int) := by
 have e : min (7 * (i : Int)).toNat IntKind.i64.bits = 7 * i := by simp [IntKind.bits]; omega
 have hm : a * 128 ^ i ≤ 127 * 268435456 := Nat.mul_le_mul (by omega) (p128_le hi)
 show some (IntKind.i64.wrap _) = _
 rw [e]
 have e2 : (a : Int) * 2 ^ (7 * i) = ((a * 128 ^ i : Nat) : Int) := by rw [p128]; simp
 rw [e2, wrap64 (by omega)]
theorem bv64i (n : Nat) (h : n < 18446744073709551616) : (BitVec.ofInt IntKind.i64.bits (n : Int)).toNat = n := by
 simp [IntKind.bits]
 omega
theorem or7 {n a i : Nat} (hn : n < 128 ^ i) (ha : a < 128) (hi : i < 5) : bitI .or .i64 (n : Int) ((a * 128 ^ i : Nat) : Int) = some ((n + 128 ^ i * a : Nat) : Int) := by
 have hp := p128_le hi
 have hm : a * 128 ^ i ≤ 127 * 268435456 := Nat.mul_le_mul (by omega) hp
 show some (IntKind.i64.wrap _) = _
 rw [BitVec.toNat_or, bv64i n (by omega), bv64i _ (by omega)]
 have e : n ||| a * 128 ^ i = n + 128 ^ i * a := by
  rw [Nat.or_comm, Nat.mul_comm, Nat.add_comm n]
  rw [p128] at hn ⊢
  exact (Nat.two_pow_add_eq_or_of_lt hn a).symm
 rw [e, wrap64 (by rw [Nat.mul_comm]; omega)]
theorem numR_step {g : Nat} {first : Bool} {x : U8} {l : List U8} (hx : ¬ x.val < 128) : numR (g + 1) first (x :: l) = (numR g false l).map fun p => (x.val - 128 + 128 * p.1, p.2) := by
 rw [numR, if_neg hx]
 cases numR g false l <;> rfl
theorem numR_nil (g : Nat) (first : Bool) : numR g first [] = none := by cases g <;> rfl
theorem numR_last {g : Nat} {first : Bool} {x : U8} {l : List U8} (hx : x.val < 128) : numR (g + 1) first (x :: l) = if (first || decide (0 < x.val)) = true then some (x.val, l) else none := by
 rw [numR, if_pos hx]
structure NumAt (l : List U8) (i n : Nat) (l' : List U8) : Prop where
 le : i ≤ 5
 lt : n < 128 ^ i
 eq : numberR l = (numR (5 - i) (decide (i = 0)) l').map fun p => (n + 128 ^ i * p.1, p.2)
theorem NumAt.begin (l : List U8) : NumAt l 0 0 l := ⟨by omega, by decide, by rw [numberR]; show _ = (numR 5 true l).map _; cases numR 5 true l <;> simp⟩
theorem NumAt.empty {l : List U8} {i n : Nat} (h : NumAt l i n []) : numberR l = none := by rw [h.eq, numR_nil]; rfl
theorem NumAt.long {l : List U8} {i n : Nat} {l' : List U8} (h : NumAt l i n l') (hi : ¬ i < 5) : numberR l = none := by
 have := h.le
 rw [h.eq, show 5 - i = 0 by omega]; rfl
theorem NumAt.step {l : List U8} {i n : Nat} {x : U8} {r : List U8} (h : NumAt l i n (x :: r)) (hi : i < 5) (hx : ¬ x.val < 128) : NumAt l (i + 1) (n + 128 ^ i * (x.val % 128)) r := by
 have h1 := h.lt
 have hm : x.val % 128 < 128 := Nat.mod_lt _ (by decide)
 have hp : 128 ^ (i + 1) = 128 ^ i * 128 := rfl
 have hl : x.val < 256 := x.isLt
 refine ⟨by omega, ?_, ?_⟩
 ·rw [hp]
  have : 128 ^ i * (x.val % 128) ≤ 128 ^ i * 127 := Nat.mul_le_mul_left _ (by omega)
  omega
 ·rw [h.eq, show 5 - i = (5 - (i + 1)) + 1 by omega, numR_step hx, show decide (i + 1 = 0) = false by simp]
  cases numR (5 - (i + 1)) false r with
  | none => rfl
  | some p =>
   simp only [Option.map_some, Option.some.injEq, Prod.mk.injEq, and_true]
   rw [show x.val % 128 = x.val - 128 by omega, hp, Nat.mul_add, Nat.mul_assoc]; omega
theorem NumAt.last {l : List U8} {i n : Nat} {x : U8} {r : List U8} (h : NumAt l i n (x :: r)) (hi : i < 5) (hx : x.val < 128) (hg : i = 0 ∨ 0 < x.val) : numberR l = some (n + 128 ^ i * (x.val % 128), r) := by
 rw [h.eq, show 5 - i = (5 - (i + 1)) + 1 by omega, numR_last hx, if_pos (by simpa using hg), Nat.mod_eq_of_lt hx]; rfl
theorem NumAt.bad {l : List U8} {i n : Nat} {x : U8} {r : List U8} (h : NumAt l i n (x :: r)) (hi : i < 5) (hx : x.val < 128) (hg : ¬ (i = 0 ∨ 0 < x.val)) : numberR l = none := by
 rw [h.eq, show 5 - i = (5 - (i + 1)) + 1 by omega, numR_last hx, if_neg (by simpa using hg)]; rfl
theorem u8_wrap (m : Nat) : IntKind.u8.wrap (m : Int) = ((byteOf m).val : Int) := by
 simp only [IntKind.wrap, IntKind.bits, IntKind.signed, byteOf]
 simp
theorem u8_wrap8 (x : U8) : IntKind.u8.wrap (x.val : Int) = (x.val : Int) := by
 rw [u8_wrap]; simp [byteOf, Nat.mod_eq_of_lt x.isLt]
theorem shr8 (n : Nat) : shI .shr .i64 (n : Int) 8 = some ((n / 256 : Nat) : Int) := by
 show some ((n : Int).fdiv (2 ^ 8)) = _
 congr 1
 exact (Int.ofNat_fdiv n 256).symm
theorem sum_lt : ∀ (l : List U8) (p : Nat × Nat), p.1 < 65521 → p.2 < 65521 → (l.foldl sumStep p).1 < 65521 ∧ (l.foldl sumStep p).2 < 65521
 | [], _, h1, h2 => ⟨h1, h2⟩
 | x :: l, p, _, _ => sum_lt l _ (Nat.mod_lt _ (by decide)) (Nat.mod_lt _ (by decide))
theorem sumP_lt (l : List U8) : (sumP l).1 < 65521 ∧ (sumP l).2 < 65521 := sum_lt l _ (by decide) (by decide)
theorem take_snoc {α : Type} [Inhabited α] {l : List α} {j : Nat} (h : j < l.length) : l.take (j + 1) = l.take j ++ [l.getD j default] := by
 rw [List.take_succ_eq_append_getElem h, List.getD_eq_getElem?_getD, List.getElem?_eq_getElem h]; rfl
theorem sumP_step {l : List U8} {j : Nat} (h : j < l.length) : sumP (l.take (j + 1)) = sumStep (sumP (l.take j)) (l.getD j default) := by
 rw [take_snoc h, sumP, List.foldl_append]; rfl
theorem one_map {α : Type} {enc : α → List AV} (h : ∀ x, allOne (enc x) = true) (l : List α) : (l.map enc).all allOne = true := by
 rw [List.all_eq_true]; intro x hx
 obtain ⟨a, _, rfl⟩ := List.mem_map.1 hx; exact h a
theorem tm_sum (a b : Nat) : (((a + b) % 65521 : Nat) : Int) = ((a : Int) + (b : Int)).tmod 65521 := by
 rw [show (a : Int) + (b : Int) = ((a + b : Nat) : Int) by simp, show (65521 : Int) = ((65521 : Nat) : Int) by rfl, ← Int.ofNat_tmod]
abbrev secC (s : Sec) : List AV := [.i s.kind.val, u8s s.body, .b s.damaged]
abbrev secA (s : Sec) : AV := .agg (secC s)
theorem numberR_len {l : List U8} {n : Nat} {r : List U8} (h : numberR l = some (n, r)) : r.length < l.length := numR_len h
theorem manyR_some {l : List U8} {n : Nat} {r : List U8} (h : manyR l = some (n, r)) : n ≤ r.length ∧ r.length < l.length := by
 unfold manyR at h
 split at h
 ·rename_i m r' h'
  split at h
  ·cases h; exact ⟨by assumption, numberR_len h'⟩
  ·cases h
 ·cases h
theorem secR_len {l : List U8} {s : Sec} {r : List U8} (h : secR l = some (s, r)) : r.length < l.length := by
 unfold secR at h
 split at h
 ·cases h
 ·split at h
  ·rename_i k r0 n r1 hm
   split at h
   ·cases h
    have := manyR_some hm
    simp; omega
   ·cases h
  ·cases h
theorem secsR_fuel : ∀ (f : Nat) (l : List U8), l.length ≤ f → secsR f l = secsR l.length l
 | 0, [], _ => rfl
 | 0, _ :: _, h => by simp at h
 | f + 1, [], _ => rfl
 | f + 1, x :: l, h => by
  rw [secsR, List.length_cons, secsR]
  ·cases hs : secR (x :: l) with
   | none => rfl
   | some p =>
    have h1 := secR_len (s := p.1) (r := p.2) hs
    simp only [List.length_cons] at h1 h
    simp only
    rw [secsR_fuel f p.2 (by omega), secsR_fuel l.length p.2 (by omega)]
  ·intro e; cases e
  ·intro e; cases e
theorem secsOf_step {l : List U8} {s : Sec} {r : List U8} (h : secR l = some (s, r)) : secsOf l = (s :: (secsOf r).1, (secsOf r).2) := by
 have h1 := secR_len h
 unfold secsOf
 cases l with
 | nil => cases h
 | cons x l =>
  rw [List.length_cons, secsR]
  ·rw [h]
   simp only [List.length_cons] at h1
   simp only
   rw [secsR_fuel l.length r (by omega)]
  ·intro e; cases e
theorem secsOf_fail {l : List U8} (hn : l ≠ []) (h : secR l = none) : secsOf l = ([], false) := by
 unfold secsOf
 cases l with
 | nil => exact absurd rfl hn
 | cons x l =>
  rw [List.length_cons, secsR]
  ·rw [h]
  ·intro e; cases e
structure SecAt (l : List U8) (pre : List Sec) (l' : List U8) : Prop where
 all : (secsOf l).1 = pre ++ (secsOf l').1
 ok : (secsOf l).2 = (secsOf l').2
 len : l'.length ≤ l.length
theorem SecAt.begin (l : List U8) : SecAt l [] l := ⟨rfl, rfl, Nat.le_refl _⟩
theorem SecAt.step {l l' r : List U8} {pre : List Sec} {s : Sec} (h : SecAt l pre l') (hs : secR l' = some (s, r)) : SecAt l (pre ++ [s]) r := by
 have e := secsOf_step hs
 exact ⟨by rw [h.all, e]; simp, by rw [h.ok, e], by have := secR_len hs; have := h.len; omega⟩
theorem SecAt.pre {l l' : List U8} {pre : List Sec} (h : SecAt l pre l') : pre <+: (secsOf l).1 := ⟨_, h.all.symm⟩
theorem SecAt.stop {l : List U8} {pre : List Sec} (h : SecAt l pre []) : (secsOf l).1 = pre ∧ (secsOf l).2 = true := ⟨by rw [h.all]; simp [secsOf, secsR], by rw [h.ok]; simp [secsOf, secsR]⟩
theorem SecAt.fail {l l' : List U8} {pre : List Sec} (h : SecAt l pre l') (hn : l' ≠ []) (hs : secR l' = none) : (secsOf l).1 = pre ∧ (secsOf l).2 = false := by
 have e := secsOf_fail hn hs
 exact ⟨by rw [h.all, e]; simp, by rw [h.ok, e]⟩
theorem secR_many {k : U8} {r : List U8} (h : manyR r = none) : secR (k :: r) = none := by simp [secR, h]
theorem secR_short {k : U8} {r r1 : List U8} {n : Nat} (h : manyR r = some (n, r1)) (h4 : ¬ 4 ≤ (r1.drop n).length) : secR (k :: r) = none := by simp only [secR, h]; rw [if_neg h4]
theorem secR_good {k : U8} {r r1 : List U8} {n : Nat} (h : manyR r = some (n, r1)) (h4 : 4 ≤ (r1.drop n).length) : secR (k :: r) = some (⟨k, r1.take n, !((r1.drop n).take 4 == sumR k (r1.take n))⟩, (r1.drop n).drop 4) := by simp only [secR, h]; rw [if_pos h4]
theorem secsR_count : ∀ (f : Nat) (l : List U8), l.length ≤ f → (secsR f l).1.length ≤ l.length
 | 0, _, _ => by simp [secsR]
 | f + 1, [], _ => by simp [secsR]
 | f + 1, x :: l, h => by
  rw [secsR]
  ·cases hs : secR (x :: l) with
   | none => simp
   | some p =>
    have h1 := secR_len (s := p.1) (r := p.2) hs
    have h2 := secsR_count f p.2 (by simp only [List.length_cons] at h1 h; omega)
    simp only [List.length_cons] at h1 ⊢
    omega
  ·intro e; cases e
theorem secs_count (l : List U8) : (secsOf l).1.length ≤ l.length := secsR_count _ l (Nat.le_refl _)
instance : Inhabited Sec := ⟨⟨default, [], false⟩⟩
def kindsP (l : List Sec) : List (List AV) := l.map fun s => [AV.i s.kind.val]
def damP (l : List Sec) (n : Nat) : List Int := ((List.range n).filter fun i => (l.getD i default).damaged).map fun (i : Nat) => (i : Int)
abbrev damA (l : List Sec) (n : Nat) : AV := .sl 1 ((damP l n).map fun n => [AV.i n])
theorem kinds_snoc {l : List Sec} {j : Nat} (h : j < l.length) : kindsP (l.take (j + 1)) = kindsP (l.take j) ++ [[AV.i (l.getD j default).kind.val]] := by
 rw [take_snoc h, kindsP, List.map_append]; rfl
theorem dam_yes {l : List Sec} {j : Nat} (h : (l.getD j default).damaged = true) : (damP l (j + 1)).map (fun n => [AV.i n]) = (damP l j).map (fun n => [AV.i n]) ++ [[AV.i (j : Int)]] := by
 rw [damP, List.range_succ, List.filter_append, List.map_append, List.map_append]
 have h' : (l[j]?.getD default).damaged = true := by simpa [List.getD_eq_getElem?_getD] using h
 simp [h', damP]
theorem dam_no {l : List Sec} {j : Nat} (h : (l.getD j default).damaged = false) : damP l (j + 1) = damP l j := by
 rw [damP, List.range_succ, List.filter_append, List.map_append]
 have h' : (l[j]?.getD default).damaged = false := by simpa [List.getD_eq_getElem?_getD] using h
 simp [h', damP]
theorem dam_len (l : List Sec) (n : Nat) : (damP l n).length ≤ n := by
 rw [damP, List.length_map]
 have := List.length_filter_le (fun i => (l.getD i default).damaged) (List.range n)
 simpa using this
theorem kinds_len (l : List Sec) : (kindsP l).length = l.length := by simp [kindsP]
def numF : Nat → List U8 → Nat
 | 0, _ => 0
 | _ + 1, [] => 0
 | g + 1, x :: r => if x.val < 128 then 1 else 1 + numF g r
structure NumPos (l : List U8) (i : Nat) (l' : List U8) : Prop where
 pos : numF 5 l = i + numF (5 - i) l'
theorem NumPos.begin (l : List U8) : NumPos l 0 l := ⟨by simp⟩
theorem NumPos.empty {l : List U8} {i : Nat} (h : NumPos l i []) : numF 5 l = i := by rw [h.pos]; cases 5 - i <;> simp [numF]
theorem NumPos.long {l : List U8} {i : Nat} {l' : List U8} (h : NumPos l i l') (hi : i = 5) : numF 5 l = 5 := by rw [h.pos, hi]; simp [numF]
theorem NumPos.step {l : List U8} {i : Nat} {x : U8} {r : List U8} (h : NumPos l i (x :: r)) (hi : i < 5) (hx : ¬ x.val < 128) : NumPos l (i + 1) r := ⟨by
 rw [h.pos, show 5 - i = (5 - (i + 1)) + 1 by omega, numF, if_neg hx]; omega⟩
theorem NumPos.last {l : List U8} {i : Nat} {x : U8} {r : List U8} (h : NumPos l i (x :: r)) (hi : i < 5) (hx : x.val < 128) : numF 5 l = i + 1 := by
 rw [h.pos, show 5 - i = (5 - (i + 1)) + 1 by omega, numF, if_pos hx]
end Go.Eng.Im

set_option linter.unusedVariables false
namespace Go.Eng.Bd
open Go.Eng.Fc
structure Gv where
 p : Prog
 objs : List Th
 roots : List (Int × Int)
 others : List Th
 otherRoots : List (Int × Int)
 bytes : List Go.Eng.Im.U8
abbrev Gcells (g : Gv) : List AV := progC g.p ++ [AV.ths g.objs, AV.mvs g.roots, AV.ths g.others, AV.mvs g.otherRoots, Go.Eng.Im.u8s g.bytes]
abbrev AV.given (g : Gv) : AV := .agg (Gcells g)
theorem small_of {p : Prog} {n : Nat} (hn : n ≤ 1048576) (h : p.classes.length ≤ n ∧ ∀ c ∈ p.classes, c.parents.length ≤ n) : p.Small := ⟨by omega, fun c hc => by have := h.2 c hc; omega⟩
end Go.Eng.Bd

set_option linter.unusedVariables false
set_option linter.unusedSimpArgs false
set_option maxRecDepth 10000
namespace Go.Proofs.YtpgnjlngepfanaaGreat
open Go.Eng
open Go.Eng.Fc
open Go.Eng.Bd
open Go.ChangeShapes Go.WideShapes
instance : HasTy Tryz.prog 3 (false, 1) := ⟨by kernel_rfl⟩
instance : HasTy Tryz.prog 4 (false, 1) := ⟨by kernel_rfl⟩
instance : HasTy Tryz.prog 5 (false, 1) := ⟨by kernel_rfl⟩
instance : HasTy Tryz.prog 22 (false, 1) := ⟨by kernel_rfl⟩
instance : HasTy Tryz.prog 23 (false, 1) := ⟨by kernel_rfl⟩
instance : HasTy Tryz.prog 24 (false, 1) := ⟨by kernel_rfl⟩
instance : HasTy Tryz.prog 25 (false, 1) := ⟨by kernel_rfl⟩
instance : HasTy Tryz.prog 27 (true, 6) := ⟨by kernel_rfl⟩
instance : HasTy Tryz.prog 28 (false, 1) := ⟨by kernel_rfl⟩
instance : HasTy Tryz.prog 29 (false, 1) := ⟨by kernel_rfl⟩
instance : HasTy Tryz.prog 30 (false, 1) := ⟨by kernel_rfl⟩
instance : HasTy Tryz.prog 48 (false, 1) := ⟨by kernel_rfl⟩
instance : HasTy Tryz.prog 58 (false, 1) := ⟨by kernel_rfl⟩
instance : HasTy Tryz.prog 60 (true, 2) := ⟨by kernel_rfl⟩
instance : HasTy Tryz.prog 65 (true, 2) := ⟨by kernel_rfl⟩
instance : HasTy Tryz.prog 77 (false, 1) := ⟨by kernel_rfl⟩
instance : HasTy Tryz.prog 79 (true, 3) := ⟨by kernel_rfl⟩
instance : HasTy Tryz.prog 86 (false, 1) := ⟨by kernel_rfl⟩
instance : HasTy Tryz.prog 89 (false, 1) := ⟨by kernel_rfl⟩
instance : HasTy Tryz.prog 104 (false, 1) := ⟨by kernel_rfl⟩
instance : HasTy Tryz.prog 110 (false, 1) := ⟨by kernel_rfl⟩
instance : HasTy Tryz.prog 114 (true, 3) := ⟨by kernel_rfl⟩
instance : HasTy Tryz.prog 119 (true, 3) := ⟨by kernel_rfl⟩
instance : HasTy Tryz.prog 121 (false, 1) := ⟨by kernel_rfl⟩
instance : HasTy Tryz.prog 124 (false, 1) := ⟨by kernel_rfl⟩
instance : HasTy Tryz.prog 143 (true, 2) := ⟨by kernel_rfl⟩
instance : HasTy Tryz.prog 144 (false, 1) := ⟨by kernel_rfl⟩
instance : HasTy Tryz.prog 146 (true, 3) := ⟨by kernel_rfl⟩
instance : HasTy Tryz.prog 149 (false, 1) := ⟨by kernel_rfl⟩
instance : HasTy Tryz.prog 151 (true, 2) := ⟨by kernel_rfl⟩
instance : HasTy Tryz.prog 162 (false, 1) := ⟨by kernel_rfl⟩
instance : HasTy Tryz.prog 163 (false, 1) := ⟨by kernel_rfl⟩
instance : HasTy Tryz.prog 164 (false, 1) := ⟨by kernel_rfl⟩
instance : HasTy Tryz.prog 166 (true, 6) := ⟨by kernel_rfl⟩
instance : HasTy Tryz.prog 168 (true, 9) := ⟨by kernel_rfl⟩
instance : HasTy Tryz.prog 176 (true, 0) := ⟨by kernel_rfl⟩
instance : HasTy Tryz.prog 220 (false, 1) := ⟨by kernel_rfl⟩
instance : HasTy Tryz.prog 228 (true, 2) := ⟨by kernel_rfl⟩
instance : HasTy Tryz.prog 253 (true, 0) := ⟨by kernel_rfl⟩
instance : HasTy Tryz.prog 257 (false, 1) := ⟨by kernel_rfl⟩
instance : HasTy Tryz.prog 260 (false, 1) := ⟨by kernel_rfl⟩
instance : HasTy Tryz.prog 261 (false, 1) := ⟨by kernel_rfl⟩
instance : HasTy Tryz.prog 269 (false, 1) := ⟨by kernel_rfl⟩
instance : HasTy Tryz.prog 275 (false, 1) := ⟨by kernel_rfl⟩
instance : HasTy Tryz.prog 276 (false, 1) := ⟨by kernel_rfl⟩
instance : HasTy Tryz.prog 282 (false, 1) := ⟨by kernel_rfl⟩
instance : HasTy Tryz.prog 303 (true, 1) := ⟨by kernel_rfl⟩
instance : HasTy Tryz.prog 306 (false, 1) := ⟨by kernel_rfl⟩
instance : HasTy Tryz.prog 314 (false, 1) := ⟨by kernel_rfl⟩
instance : HasFld Tryz.prog 27 0 0 := ⟨by kernel_rfl⟩
instance : HasFld Tryz.prog 27 1 1 := ⟨by kernel_rfl⟩
instance : HasFld Tryz.prog 27 2 2 := ⟨by kernel_rfl⟩
instance : HasFld Tryz.prog 27 3 3 := ⟨by kernel_rfl⟩
instance : HasFld Tryz.prog 27 4 4 := ⟨by kernel_rfl⟩
instance : HasFld Tryz.prog 27 5 5 := ⟨by kernel_rfl⟩
instance : HasFld Tryz.prog 32 0 0 := ⟨by kernel_rfl⟩
instance : HasFld Tryz.prog 32 1 6 := ⟨by kernel_rfl⟩
instance : HasFld Tryz.prog 32 2 7 := ⟨by kernel_rfl⟩
instance : HasFld Tryz.prog 32 3 8 := ⟨by kernel_rfl⟩
instance : HasFld Tryz.prog 32 4 9 := ⟨by kernel_rfl⟩
instance : HasFld Tryz.prog 32 5 10 := ⟨by kernel_rfl⟩
instance : HasFld Tryz.prog 60 0 0 := ⟨by kernel_rfl⟩
instance : HasFld Tryz.prog 60 1 1 := ⟨by kernel_rfl⟩
instance : HasFld Tryz.prog 65 0 0 := ⟨by kernel_rfl⟩
instance : HasFld Tryz.prog 65 1 1 := ⟨by kernel_rfl⟩
instance : HasFld Tryz.prog 79 0 0 := ⟨by kernel_rfl⟩
instance : HasFld Tryz.prog 79 1 1 := ⟨by kernel_rfl⟩
instance : HasFld Tryz.prog 79 2 2 := ⟨by kernel_rfl⟩
instance : HasFld Tryz.prog 97 0 0 := ⟨by kernel_rfl⟩
instance : HasFld Tryz.prog 99 0 0 := ⟨by kernel_rfl⟩
instance : HasFld Tryz.prog 114 0 0 := ⟨by kernel_rfl⟩
instance : HasFld Tryz.prog 114 1 1 := ⟨by kernel_rfl⟩
instance : HasFld Tryz.prog 114 2 2 := ⟨by kernel_rfl⟩
instance : HasFld Tryz.prog 119 0 0 := ⟨by kernel_rfl⟩
instance : HasFld Tryz.prog 119 1 1 := ⟨by kernel_rfl⟩
instance : HasFld Tryz.prog 119 2 2 := ⟨by kernel_rfl⟩
instance : HasFld Tryz.prog 123 0 0 := ⟨by kernel_rfl⟩
instance : HasFld Tryz.prog 123 1 1 := ⟨by kernel_rfl⟩
instance : HasFld Tryz.prog 135 0 0 := ⟨by kernel_rfl⟩
instance : HasFld Tryz.prog 135 1 1 := ⟨by kernel_rfl⟩
instance : HasFld Tryz.prog 135 2 2 := ⟨by kernel_rfl⟩
instance : HasFld Tryz.prog 143 0 0 := ⟨by kernel_rfl⟩
instance : HasFld Tryz.prog 143 1 1 := ⟨by kernel_rfl⟩
instance : HasFld Tryz.prog 146 0 0 := ⟨by kernel_rfl⟩
instance : HasFld Tryz.prog 146 1 1 := ⟨by kernel_rfl⟩
instance : HasFld Tryz.prog 146 2 2 := ⟨by kernel_rfl⟩
instance : HasFld Tryz.prog 151 0 0 := ⟨by kernel_rfl⟩
instance : HasFld Tryz.prog 151 1 1 := ⟨by kernel_rfl⟩
instance : HasFld Tryz.prog 166 0 0 := ⟨by kernel_rfl⟩
instance : HasFld Tryz.prog 166 1 1 := ⟨by kernel_rfl⟩
instance : HasFld Tryz.prog 166 2 2 := ⟨by kernel_rfl⟩
instance : HasFld Tryz.prog 166 3 3 := ⟨by kernel_rfl⟩
instance : HasFld Tryz.prog 166 4 4 := ⟨by kernel_rfl⟩
instance : HasFld Tryz.prog 166 5 5 := ⟨by kernel_rfl⟩
instance : HasFld Tryz.prog 168 0 0 := ⟨by kernel_rfl⟩
instance : HasFld Tryz.prog 168 1 1 := ⟨by kernel_rfl⟩
instance : HasFld Tryz.prog 168 2 2 := ⟨by kernel_rfl⟩
instance : HasFld Tryz.prog 168 3 8 := ⟨by kernel_rfl⟩
instance : HasFld Tryz.prog 177 0 0 := ⟨by kernel_rfl⟩
instance : HasFld Tryz.prog 228 0 0 := ⟨by kernel_rfl⟩
instance : HasFld Tryz.prog 228 1 1 := ⟨by kernel_rfl⟩
instance : HasFld Tryz.prog 278 0 0 := ⟨by kernel_rfl⟩
instance : HasFld Tryz.prog 278 1 1 := ⟨by kernel_rfl⟩
instance : HasFld Tryz.prog 278 2 2 := ⟨by kernel_rfl⟩
instance : HasFld Tryz.prog 309 0 0 := ⟨by kernel_rfl⟩
instance : HasFld Tryz.prog 309 1 2 := ⟨by kernel_rfl⟩
instance : HasSl Tryz.prog 22 3 := ⟨by kernel_rfl⟩
instance : HasSl Tryz.prog 23 1 := ⟨by kernel_rfl⟩
instance : HasSl Tryz.prog 24 9 := ⟨by kernel_rfl⟩
instance : HasSl Tryz.prog 25 3 := ⟨by kernel_rfl⟩
instance : HasSl Tryz.prog 28 2 := ⟨by kernel_rfl⟩
instance : HasSl Tryz.prog 29 2 := ⟨by kernel_rfl⟩
instance : HasSl Tryz.prog 30 1 := ⟨by kernel_rfl⟩
instance : HasSl Tryz.prog 44 1 := ⟨by kernel_rfl⟩
instance : HasSl Tryz.prog 77 2 := ⟨by kernel_rfl⟩
instance : HasSl Tryz.prog 102 1 := ⟨by kernel_rfl⟩
instance : HasSl Tryz.prog 110 3 := ⟨by kernel_rfl⟩
instance : HasSl Tryz.prog 115 3 := ⟨by kernel_rfl⟩
instance : HasSl Tryz.prog 149 1 := ⟨by kernel_rfl⟩
instance : HasSl Tryz.prog 164 6 := ⟨by kernel_rfl⟩
instance : HasSl Tryz.prog 222 1 := ⟨by kernel_rfl⟩
instance : HasSl Tryz.prog 275 1 := ⟨by kernel_rfl⟩
instance : HasSl Tryz.prog 300 1 := ⟨by kernel_rfl⟩
instance : HasArr Tryz.prog 303 (1, 1) := ⟨by kernel_rfl⟩
instance : HasArr Tryz.prog 307 (63, 1) := ⟨by kernel_rfl⟩
instance : HasZero Tryz.prog 3 [.int .i64 0] := ⟨by kernel_rfl⟩
instance : HasZero Tryz.prog 4 [.bool false] := ⟨by kernel_rfl⟩
instance : HasZero Tryz.prog 23 [.slice none 0 0] := ⟨by kernel_rfl⟩
instance : HasZero Tryz.prog 27 [.slice none 0 0, .int .i64 0, .slice none 0 0, .slice none 0 0, .slice none 0 0, .int .i64 0] := ⟨by kernel_rfl⟩
instance : HasZero Tryz.prog 28 [.slice none 0 0] := ⟨by kernel_rfl⟩
instance : HasZero Tryz.prog 29 [.slice none 0 0] := ⟨by kernel_rfl⟩
instance : HasZero Tryz.prog 30 [.slice none 0 0] := ⟨by kernel_rfl⟩
instance : HasZero Tryz.prog 60 [.int .i64 0, .int .i64 0] := ⟨by kernel_rfl⟩
instance : HasZero Tryz.prog 65 [.int .i64 0, .slice none 0 0] := ⟨by kernel_rfl⟩
instance : HasZero Tryz.prog 79 [.slice none 0 0, .slice none 0 0, .slice none 0 0] := ⟨by kernel_rfl⟩
instance : HasZero Tryz.prog 86 [.nilFunc] := ⟨by kernel_rfl⟩
instance : HasZero Tryz.prog 104 [.pointer none] := ⟨by kernel_rfl⟩
instance : HasZero Tryz.prog 110 [.slice none 0 0] := ⟨by kernel_rfl⟩
instance : HasZero Tryz.prog 114 [.int .i64 0, .slice none 0 0, .bool false] := ⟨by kernel_rfl⟩
instance : HasZero Tryz.prog 119 [.int .u8 0, .slice none 0 0, .bool false] := ⟨by kernel_rfl⟩
instance : HasZero Tryz.prog 124 [.pointer none] := ⟨by kernel_rfl⟩
instance : HasZero Tryz.prog 143 [.int .i64 0, .int .i64 0] := ⟨by kernel_rfl⟩
instance : HasZero Tryz.prog 146 [.int .i64 0, .int .i64 0, .slice none 0 0] := ⟨by kernel_rfl⟩
instance : HasZero Tryz.prog 151 [.slice none 0 0, .slice none 0 0] := ⟨by kernel_rfl⟩
instance : HasZero Tryz.prog 166 [.int .i64 0, .int .i64 0, .slice none 0 0, .int .i64 0, .int .i64 0, .slice none 0 0] := ⟨by kernel_rfl⟩
instance : HasZero Tryz.prog 168 [.int .i64 0, .int .i64 0, .int .i64 0, .int .i64 0, .slice none 0 0, .int .i64 0, .int .i64 0, .slice none 0 0, .int .i64 0] := ⟨by kernel_rfl⟩
instance : HasZero Tryz.prog 176 [] := ⟨by kernel_rfl⟩
instance : HasZero Tryz.prog 228 [.int .i64 0, .int .i64 0] := ⟨by kernel_rfl⟩
instance : HasZero Tryz.prog 253 [] := ⟨by kernel_rfl⟩
instance : HasZero Tryz.prog 260 [.nilFunc] := ⟨by kernel_rfl⟩
instance : HasZero Tryz.prog 303 [.int .u64 0] := ⟨by kernel_rfl⟩
instance : HasZero Tryz.prog 314 [.int .u64 0] := ⟨by kernel_rfl⟩
instance : IsB Tryz.prog 4 := ⟨by kernel_rfl⟩
instance : HasInt Tryz.prog 3 .i64 := ⟨by kernel_rfl⟩
instance : HasInt Tryz.prog 5 .u8 := ⟨by kernel_rfl⟩
instance : HasInt Tryz.prog 48 .i64 := ⟨by kernel_rfl⟩
instance : HasInt Tryz.prog 68 .u16 := ⟨by kernel_rfl⟩
instance : HasInt Tryz.prog 212 .u64 := ⟨by kernel_rfl⟩
instance : HasInt Tryz.prog 279 .u32 := ⟨by kernel_rfl⟩
instance : HasInt Tryz.prog 282 .u64 := ⟨by kernel_rfl⟩
instance : HasInt Tryz.prog 314 .u64 := ⟨by kernel_rfl⟩
instance : HasBuild Tryz.prog 27 ([.slice none 0 0, .int .i64 0, .slice none 0 0, .slice none 0 0, .slice none 0 0, .int .i64 0], [(0, 1), (1, 1), (2, 1), (3, 1), (4, 1), (5, 1)]) := ⟨by kernel_rfl⟩
instance : HasBuild Tryz.prog 60 ([.int .i64 0, .int .i64 0], [(0, 1), (1, 1)]) := ⟨by kernel_rfl⟩
instance : HasBuild Tryz.prog 65 ([.int .i64 0, .slice none 0 0], [(0, 1), (1, 1)]) := ⟨by kernel_rfl⟩
instance : HasBuild Tryz.prog 79 ([.slice none 0 0, .slice none 0 0, .slice none 0 0], [(0, 1), (1, 1), (2, 1)]) := ⟨by kernel_rfl⟩
instance : HasBuild Tryz.prog 97 ([.slice none 0 0], [(0, 1)]) := ⟨by kernel_rfl⟩
instance : HasBuild Tryz.prog 99 ([.slice none 0 0], [(0, 1)]) := ⟨by kernel_rfl⟩
instance : HasBuild Tryz.prog 114 ([.int .i64 0, .slice none 0 0, .bool false], [(0, 1), (1, 1), (2, 1)]) := ⟨by kernel_rfl⟩
instance : HasBuild Tryz.prog 119 ([.int .u8 0, .slice none 0 0, .bool false], [(0, 1), (1, 1), (2, 1)]) := ⟨by kernel_rfl⟩
instance : HasBuild Tryz.prog 123 ([.slice none 0 0, .map none], [(0, 1), (1, 1)]) := ⟨by kernel_rfl⟩
instance : HasBuild Tryz.prog 135 ([.slice none 0 0, .int .i64 0, .bool false], [(0, 1), (1, 1), (2, 1)]) := ⟨by kernel_rfl⟩
instance : HasBuild Tryz.prog 143 ([.int .i64 0, .int .i64 0], [(0, 1), (1, 1)]) := ⟨by kernel_rfl⟩
instance : HasBuild Tryz.prog 146 ([.int .i64 0, .int .i64 0, .slice none 0 0], [(0, 1), (1, 1), (2, 1)]) := ⟨by kernel_rfl⟩
instance : HasBuild Tryz.prog 151 ([.slice none 0 0, .slice none 0 0], [(0, 1), (1, 1)]) := ⟨by kernel_rfl⟩
instance : HasBuild Tryz.prog 166 ([.int .i64 0, .int .i64 0, .slice none 0 0, .int .i64 0, .int .i64 0, .slice none 0 0], [(0, 1), (1, 1), (2, 1), (3, 1), (4, 1), (5, 1)]) := ⟨by kernel_rfl⟩
instance : HasBuild Tryz.prog 168 ([.int .i64 0, .int .i64 0, .int .i64 0, .int .i64 0, .slice none 0 0, .int .i64 0, .int .i64 0, .slice none 0 0, .int .i64 0], [(0, 1), (1, 1), (2, 6), (8, 1)]) := ⟨by kernel_rfl⟩
instance : HasBuild Tryz.prog 176 ([], []) := ⟨by kernel_rfl⟩
instance : HasBuild Tryz.prog 177 ([.slice none 0 0], [(0, 1)]) := ⟨by kernel_rfl⟩
instance : HasBuild Tryz.prog 228 ([.int .i64 0, .int .i64 0], [(0, 1), (1, 1)]) := ⟨by kernel_rfl⟩
instance : HasBuild Tryz.prog 234 ([], []) := ⟨by kernel_rfl⟩
instance : HasBuild Tryz.prog 253 ([], []) := ⟨by kernel_rfl⟩
instance : HasBuild Tryz.prog 278 ([.slice none 0 0, .slice none 0 0, .map none], [(0, 1), (1, 1), (2, 1)]) := ⟨by kernel_rfl⟩
instance : HasBuild Tryz.prog 303 ([.int .u64 0], [(0, 1)]) := ⟨by kernel_rfl⟩
instance : HasBuild Tryz.prog 309 ([.slice none 0 0, .slice none 0 0, .int .u64 0, .int .u64 0, .int .u64 0, .int .u64 0, .int .u64 0, .int .u64 0, .int .u64 0, .int .u64 0, .int .u64 0, .int .u64 0, .int .u64 0, .int .u64 0, .int .u64 0, .int .u64 0, .int .u64 0, .int .u64 0, .int .u64 0, .int .u64 0, .int .u64 0, .int .u64 0, .int .u64 0, .int .u64 0, .int .u64 0, .int .u64 0, .int .u64 0, .int .u64 0, .int .u64 0, .int .u64 0, .int .u64 0, .int .u64 0, .int .u64 0, .int .u64 0, .int .u64 0, .int .u64 0, .int .u64 0, .int .u64 0, .int .u64 0, .int .u64 0, .int .u64 0, .int .u64 0, .int .u64 0, .int .u64 0, .int .u64 0, .int .u64 0, .int .u64 0, .int .u64 0, .int .u64 0, .int .u64 0, .int .u64 0, .int .u64 0, .int .u64 0, .int .u64 0, .int .u64 0, .int .u64 0, .int .u64 0, .int .u64 0, .int .u64 0, .int .u64 0, .int .u64 0, .int .u64 0, .int .u64 0, .int .u64 0, .int .u64 0], [(0, 2), (2, 63)]) := ⟨by kernel_rfl⟩
instance : HasRow Tryz.prog 22 (3, [.slice none 0 0, .slice none 0 0, .slice none 0 0]) := ⟨by kernel_rfl⟩
instance : HasRow Tryz.prog 23 (1, [.int .i64 0]) := ⟨by kernel_rfl⟩
instance : HasRow Tryz.prog 24 (9, [.int .i64 0, .int .i64 0, .int .i64 0, .int .i64 0, .slice none 0 0, .int .i64 0, .int .i64 0, .slice none 0 0, .int .i64 0]) := ⟨by kernel_rfl⟩
instance : HasRow Tryz.prog 25 (3, [.int .i64 0, .int .i64 0, .slice none 0 0]) := ⟨by kernel_rfl⟩
instance : HasRow Tryz.prog 28 (2, [.int .i64 0, .slice none 0 0]) := ⟨by kernel_rfl⟩
instance : HasRow Tryz.prog 29 (2, [.int .i64 0, .int .i64 0]) := ⟨by kernel_rfl⟩
instance : HasRow Tryz.prog 30 (1, [.int .u8 0]) := ⟨by kernel_rfl⟩
instance : HasRow Tryz.prog 44 (1, [.int .i64 0]) := ⟨by kernel_rfl⟩
instance : HasRow Tryz.prog 77 (2, [.int .i64 0, .int .i64 0]) := ⟨by kernel_rfl⟩
instance : HasRow Tryz.prog 102 (1, [.pointer none]) := ⟨by kernel_rfl⟩
instance : HasRow Tryz.prog 110 (3, [.int .i64 0, .slice none 0 0, .bool false]) := ⟨by kernel_rfl⟩
instance : HasRow Tryz.prog 115 (3, [.int .u8 0, .slice none 0 0, .bool false]) := ⟨by kernel_rfl⟩
instance : HasRow Tryz.prog 149 (1, [.slice none 0 0]) := ⟨by kernel_rfl⟩
instance : HasRow Tryz.prog 164 (6, [.int .i64 0, .int .i64 0, .slice none 0 0, .int .i64 0, .int .i64 0, .slice none 0 0]) := ⟨by kernel_rfl⟩
instance : HasRow Tryz.prog 222 (1, [.int .i64 0]) := ⟨by kernel_rfl⟩
instance : HasRow Tryz.prog 275 (1, [.int .u64 0]) := ⟨by kernel_rfl⟩
instance : HasApp Tryz.prog 22 (79, 3, 72) := ⟨by kernel_rfl⟩
instance : HasApp Tryz.prog 23 (3, 1, 8) := ⟨by kernel_rfl⟩
instance : HasApp Tryz.prog 24 (168, 9, 104) := ⟨by kernel_rfl⟩
instance : HasApp Tryz.prog 25 (146, 3, 40) := ⟨by kernel_rfl⟩
instance : HasApp Tryz.prog 28 (65, 2, 32) := ⟨by kernel_rfl⟩
instance : HasApp Tryz.prog 29 (60, 2, 16) := ⟨by kernel_rfl⟩
instance : HasApp Tryz.prog 30 (5, 1, 1) := ⟨by kernel_rfl⟩
instance : HasApp Tryz.prog 44 (48, 1, 8) := ⟨by kernel_rfl⟩
instance : HasApp Tryz.prog 77 (143, 2, 16) := ⟨by kernel_rfl⟩
instance : HasApp Tryz.prog 102 (104, 1, 8) := ⟨by kernel_rfl⟩
instance : HasApp Tryz.prog 110 (114, 3, 40) := ⟨by kernel_rfl⟩
instance : HasApp Tryz.prog 115 (119, 3, 40) := ⟨by kernel_rfl⟩
instance : HasApp Tryz.prog 149 (23, 1, 24) := ⟨by kernel_rfl⟩
instance : HasApp Tryz.prog 164 (166, 6, 80) := ⟨by kernel_rfl⟩
instance : HasApp Tryz.prog 275 (303, 1, 8) := ⟨by kernel_rfl⟩
theorem mixed : Tryz.prog.follows .mixedOrders = true := by kernel_rfl
section
variable {H : Type} {enc : TypeId × Value → H} {w : World} {base : Nat} {spare : Nat → Bool} {held : Bool} {sz : DataW H → Nat}
theorem rd_int (hB : Bulk sz) (n : Nat) : ReadsB enc Tryz.prog w base spare held sz n 3 (fun q : Int => [AV.i q]) (fun _ _ => True) := (reads_int Tryz.underlying3).b
theorem rd_ints (hB : Bulk sz) (n : Nat) : ReadsB enc Tryz.prog w base spare held sz n 23 (fun l : List Int => [AV.ints l]) (fun (l : List _) (b : Nat) => l.length ≤ b) := fun fuel hf cs x h => by
 obtain ⟨l, hl, hq⟩ := readsB_slice (n := n) hB (k := 1) (Q := fun _ _ => True) (fun y a b => fun _ _ => trivial) Tryz.underlying23 (by kernel_rfl) (by omega) (fun _ => rfl) (rd_int hB n) fuel (by omega) cs x h
 exact ⟨l, hl, hq.1⟩
theorem rd_FormOp (hB : Bulk sz) (n : Nat) : ReadsB enc Tryz.prog w base spare held sz n 144 (fun q : Int => [AV.i q]) (fun _ _ => True) := (reads_int Tryz.underlying144).b
theorem rd_FormKind (hB : Bulk sz) (n : Nat) : ReadsB enc Tryz.prog w base spare held sz n 162 (fun q : Int => [AV.i q]) (fun _ _ => True) := (reads_int Tryz.underlying162).b
theorem rd_MeanKind (hB : Bulk sz) (n : Nat) : ReadsB enc Tryz.prog w base spare held sz n 58 (fun q : Int => [AV.i q]) (fun _ _ => True) := (reads_int Tryz.underlying58).b
theorem rd_init (hB : Bulk sz) (n : Nat) : ReadsB enc Tryz.prog w base spare held sz n 143 (initA) (fun _ _ => True) := fun fuel hf cs x h => by
 obtain ⟨xs, m, rfl, hx, hl, hn, hg⟩ := DataW.trod_struct Tryz.underlying143 h
 have hl : cs.length = 2 := hl.trans (by kernel_rfl)
 have h0 := hg 0 _ rfl
 have h1 := hg 1 _ rfl
 rw [List.getElem?_eq_getElem (by rw [hn]; decide)] at h0 h1
 obtain ⟨y0, r0, q0⟩ := rd_int hB m m (Nat.le_refl _) _ _ h0
 obtain ⟨y1, r1, q1⟩ := rd_int hB m m (Nat.le_refl _) _ _ h1
 refine ⟨⟨y0, y1⟩, ?_, trivial⟩
 have := (relL_join (a := 0) (n := 1) (m := 1) r0 r1)
 rwa [List.drop_zero, List.take_of_length_le (by omega)] at this
theorem rd_inits (hB : Bulk sz) (n : Nat) : ReadsB enc Tryz.prog w base spare held sz n 77 (fun l : List (Int × Int) => [AV.sl 2 (l.map initA)]) (fun _ _ => True) := fun fuel hf cs x h => by
 obtain ⟨l, hl, _⟩ := readsB_slice (n := n) hB (k := 2) (Q := fun _ _ => True) (fun y a b => fun _ _ => trivial) Tryz.underlying77 (by kernel_rfl) (by omega) (fun _ => rfl) (rd_init hB n) fuel (by omega) cs x h
 exact ⟨l, hl, trivial⟩
theorem rd_cls (hB : Bulk sz) (n : Nat) : ReadsB enc Tryz.prog w base spare held sz n 79 (clsA) (fun (c : Cls) (b : Nat) => c.parents.length ≤ b) := fun fuel hf cs x h => by
 obtain ⟨xs, m, rfl, hx, hl, hn, hg⟩ := DataW.trod_struct Tryz.underlying79 h
 have hl : cs.length = 3 := hl.trans (by kernel_rfl)
 have h0 := hg 0 _ rfl
 have h1 := hg 1 _ rfl
 have h2 := hg 2 _ rfl
 rw [List.getElem?_eq_getElem (by rw [hn]; decide)] at h0 h1 h2
 obtain ⟨y0, r0, q0⟩ := rd_ints hB m m (Nat.le_refl _) _ _ h0
 obtain ⟨y1, r1, q1⟩ := rd_ints hB m m (Nat.le_refl _) _ _ h1
 obtain ⟨y2, r2, q2⟩ := rd_inits hB m m (Nat.le_refl _) _ _ h2
 have hz0 : sz (xs[0]'(by rw [hn]; decide)).1 ≤ sz x.1 := by rw [hx]; exact hB.ag _ _ (List.mem_map.2 ⟨_, List.getElem_mem _, rfl⟩)
 replace q0 : (fun (l : List _) (b : Nat) => l.length ≤ b) y0 (sz x.1) := (fun h1 h2 => Nat.le_trans h2 h1) hz0 q0
 have hz1 : sz (xs[1]'(by rw [hn]; decide)).1 ≤ sz x.1 := by rw [hx]; exact hB.ag _ _ (List.mem_map.2 ⟨_, List.getElem_mem _, rfl⟩)
 replace q1 : (fun (l : List _) (b : Nat) => l.length ≤ b) y1 (sz x.1) := (fun h1 h2 => Nat.le_trans h2 h1) hz1 q1
 refine ⟨⟨y0, y1, y2⟩, ?_, q0⟩
 have := (relL_join (a := 0) (n := 2) (m := 1) (relL_join (a := 0) (n := 1) (m := 1) r0 r1) r2)
 rwa [List.drop_zero, List.take_of_length_le (by omega)] at this
theorem rd_clss (hB : Bulk sz) (n : Nat) : ReadsB enc Tryz.prog w base spare held sz n 22 (fun l : List Cls => [AV.sl 3 (l.map clsA)]) (fun (l : List Cls) (b : Nat) => l.length ≤ b ∧ ∀ c ∈ l, c.parents.length ≤ b) := fun fuel hf cs x h => by
 obtain ⟨l, hl, hq⟩ := readsB_slice (n := n) hB (k := 3) (Q := fun (c : Cls) (b : Nat) => c.parents.length ≤ b) (fun y a b => fun h1 h2 => Nat.le_trans h2 h1) Tryz.underlying22 (by kernel_rfl) (by omega) (fun _ => rfl) (rd_cls hB n) fuel (by omega) cs x h
 exact ⟨l, hl, hq⟩
theorem rd_factN : ∀ n : Nat, Reads enc Tryz.prog w base spare held n 166 Fcells
 | 0, fuel, hf, cs, x, h => by
  obtain ⟨xs, m, rfl, _⟩ := DataW.trod_struct Tryz.underlying166 h
  omega
 | n + 1, fuel, hf, cs, x, h => by
  obtain ⟨xs, m, rfl, _, hl, hn, hg⟩ := DataW.trod_struct Tryz.underlying166 h
  have hl : cs.length = 6 := hl.trans (by kernel_rfl)
  have h0 := hg 0 _ rfl
  have h1 := hg 1 _ rfl
  have h2 := hg 2 _ rfl
  have h3 := hg 3 _ rfl
  have h4 := hg 4 _ rfl
  have h5 := hg 5 _ rfl
  rw [List.getElem?_eq_getElem (by rw [hn]; decide)] at h0 h1 h2 h3 h4 h5
  have hi : Reads enc Tryz.prog w base spare held m 3 (fun q : Int => [AV.i q]) := reads_int Tryz.underlying3
  obtain ⟨y0, r0⟩ := reads_int (n := m) Tryz.underlying163 m (Nat.le_refl _) _ _ h0
  obtain ⟨y1, r1⟩ := hi m (Nat.le_refl _) _ _ h1
  obtain ⟨y2, r2⟩ := reads_slice (n := m) (k := 1) Tryz.underlying23 (by kernel_rfl) (by omega) (fun _ => rfl) hi m (by omega) _ _ h2
  obtain ⟨y3, r3⟩ := hi m (Nat.le_refl _) _ _ h3
  obtain ⟨y4, r4⟩ := hi m (Nat.le_refl _) _ _ h4
  obtain ⟨y5, r5⟩ := reads_slice (n := n) (k := 6) Tryz.underlying164 (by kernel_rfl) (by omega) (fun _ => rfl) (rd_factN n) m (by omega) _ _ h5
  refine ⟨.mk y0 y1 y2 y3 y4 y5, ?_⟩
  have r5 : RelL (allI w) w [AV.sl 6 (y5.map Fcells)] _ := r5
  rw [← encFs_map] at r5
  have := relL_join (a := 0) (n := 5) (m := 1) (relL_join (a := 0) (n := 4) (m := 1) (relL_join (a := 0) (n := 3) (m := 1) (relL_join (a := 0) (n := 2) (m := 1) (relL_join (a := 0) (n := 1) (m := 1) r0 r1) r2) r3) r4) r5
  rwa [List.drop_zero, List.take_of_length_le (by omega)] at this
theorem rd_fact (hB : Bulk sz) (n : Nat) : ReadsB enc Tryz.prog w base spare held sz n 166 Fcells (fun _ _ => True) := (rd_factN n).b
theorem rd_mth (hB : Bulk sz) (n : Nat) : ReadsB enc Tryz.prog w base spare held sz n 168 (mthA) (fun _ _ => True) := fun fuel hf cs x h => by
 obtain ⟨xs, m, rfl, hx, hl, hn, hg⟩ := DataW.trod_struct Tryz.underlying168 h
 have hl : cs.length = 9 := hl.trans (by kernel_rfl)
 have h0 := hg 0 _ rfl
 have h1 := hg 1 _ rfl
 have h2 := hg 2 _ rfl
 have h3 := hg 3 _ rfl
 rw [List.getElem?_eq_getElem (by rw [hn]; decide)] at h0 h1 h2 h3
 obtain ⟨y0, r0, q0⟩ := rd_FormKind hB m m (Nat.le_refl _) _ _ h0
 obtain ⟨y1, r1, q1⟩ := rd_int hB m m (Nat.le_refl _) _ _ h1
 obtain ⟨y2, r2, q2⟩ := rd_fact hB m m (Nat.le_refl _) _ _ h2
 obtain ⟨y3, r3, q3⟩ := rd_int hB m m (Nat.le_refl _) _ _ h3
 refine ⟨⟨y0, y1, y2, y3⟩, ?_, trivial⟩
 have := (relL_join (a := 0) (n := 8) (m := 1) (relL_join (a := 0) (n := 2) (m := 6) (relL_join (a := 0) (n := 1) (m := 1) r0 r1) r2) r3)
 rwa [List.drop_zero, List.take_of_length_le (by omega)] at this
theorem rd_mths (hB : Bulk sz) (n : Nat) : ReadsB enc Tryz.prog w base spare held sz n 24 (fun l : List Mth => [AV.sl 9 (l.map mthA)]) (fun _ _ => True) := fun fuel hf cs x h => by
 obtain ⟨l, hl, _⟩ := readsB_slice (n := n) hB (k := 9) (Q := fun _ _ => True) (fun y a b => fun _ _ => trivial) Tryz.underlying24 (by kernel_rfl) (by omega) (fun _ => rfl) (rd_mth hB n) fuel (by omega) cs x h
 exact ⟨l, hl, trivial⟩
theorem rd_nd (hB : Bulk sz) (n : Nat) : ReadsB enc Tryz.prog w base spare held sz n 146 (ndA) (fun _ _ => True) := fun fuel hf cs x h => by
 obtain ⟨xs, m, rfl, hx, hl, hn, hg⟩ := DataW.trod_struct Tryz.underlying146 h
 have hl : cs.length = 3 := hl.trans (by kernel_rfl)
 have h0 := hg 0 _ rfl
 have h1 := hg 1 _ rfl
 have h2 := hg 2 _ rfl
 rw [List.getElem?_eq_getElem (by rw [hn]; decide)] at h0 h1 h2
 obtain ⟨y0, r0, q0⟩ := rd_FormOp hB m m (Nat.le_refl _) _ _ h0
 obtain ⟨y1, r1, q1⟩ := rd_int hB m m (Nat.le_refl _) _ _ h1
 obtain ⟨y2, r2, q2⟩ := rd_ints hB m m (Nat.le_refl _) _ _ h2
 have hz2 : sz (xs[2]'(by rw [hn]; decide)).1 ≤ sz x.1 := by rw [hx]; exact hB.ag _ _ (List.mem_map.2 ⟨_, List.getElem_mem _, rfl⟩)
 replace q2 : (fun (l : List _) (b : Nat) => l.length ≤ b) y2 (sz x.1) := (fun h1 h2 => Nat.le_trans h2 h1) hz2 q2
 refine ⟨⟨y0, y1, y2⟩, ?_, trivial⟩
 have := (relL_join (a := 0) (n := 2) (m := 1) (relL_join (a := 0) (n := 1) (m := 1) r0 r1) r2)
 rwa [List.drop_zero, List.take_of_length_le (by omega)] at this
theorem rd_nds (hB : Bulk sz) (n : Nat) : ReadsB enc Tryz.prog w base spare held sz n 25 (fun l : List Nd => [AV.sl 3 (l.map ndA)]) (fun _ _ => True) := fun fuel hf cs x h => by
 obtain ⟨l, hl, _⟩ := readsB_slice (n := n) hB (k := 3) (Q := fun _ _ => True) (fun y a b => fun _ _ => trivial) Tryz.underlying25 (by kernel_rfl) (by omega) (fun _ => rfl) (rd_nd hB n) fuel (by omega) cs x h
 exact ⟨l, hl, trivial⟩
theorem rd_prog (hB : Bulk sz) (n : Nat) : ReadsB enc Tryz.prog w base spare held sz n 27 (progC) (fun (p : Prog) (b : Nat) => p.classes.length ≤ b ∧ ∀ c ∈ p.classes, c.parents.length ≤ b) := fun fuel hf cs x h => by
 obtain ⟨xs, m, rfl, hx, hl, hn, hg⟩ := DataW.trod_struct Tryz.underlying27 h
 have hl : cs.length = 6 := hl.trans (by kernel_rfl)
 have h0 := hg 0 _ rfl
 have h1 := hg 1 _ rfl
 have h2 := hg 2 _ rfl
 have h3 := hg 3 _ rfl
 have h4 := hg 4 _ rfl
 have h5 := hg 5 _ rfl
 rw [List.getElem?_eq_getElem (by rw [hn]; decide)] at h0 h1 h2 h3 h4 h5
 obtain ⟨y0, r0, q0⟩ := rd_clss hB m m (Nat.le_refl _) _ _ h0
 obtain ⟨y1, r1, q1⟩ := rd_int hB m m (Nat.le_refl _) _ _ h1
 obtain ⟨y2, r2, q2⟩ := rd_ints hB m m (Nat.le_refl _) _ _ h2
 obtain ⟨y3, r3, q3⟩ := rd_mths hB m m (Nat.le_refl _) _ _ h3
 obtain ⟨y4, r4, q4⟩ := rd_nds hB m m (Nat.le_refl _) _ _ h4
 obtain ⟨y5, r5, q5⟩ := rd_int hB m m (Nat.le_refl _) _ _ h5
 have hz0 : sz (xs[0]'(by rw [hn]; decide)).1 ≤ sz x.1 := by rw [hx]; exact hB.ag _ _ (List.mem_map.2 ⟨_, List.getElem_mem _, rfl⟩)
 replace q0 : (fun (l : List Cls) (b : Nat) => l.length ≤ b ∧ ∀ c ∈ l, c.parents.length ≤ b) y0 (sz x.1) := (fun h1 h2 => ⟨Nat.le_trans h2.1 h1, fun c hc => Nat.le_trans (h2.2 c hc) h1⟩) hz0 q0
 have hz2 : sz (xs[2]'(by rw [hn]; decide)).1 ≤ sz x.1 := by rw [hx]; exact hB.ag _ _ (List.mem_map.2 ⟨_, List.getElem_mem _, rfl⟩)
 replace q2 : (fun (l : List _) (b : Nat) => l.length ≤ b) y2 (sz x.1) := (fun h1 h2 => Nat.le_trans h2 h1) hz2 q2
 refine ⟨⟨y0, y1, y2, y3, y4, y5⟩, ?_, q0⟩
 have := (relL_join (a := 0) (n := 5) (m := 1) (relL_join (a := 0) (n := 4) (m := 1) (relL_join (a := 0) (n := 3) (m := 1) (relL_join (a := 0) (n := 2) (m := 1) (relL_join (a := 0) (n := 1) (m := 1) r0 r1) r2) r3) r4) r5)
 rwa [List.drop_zero, List.take_of_length_le (by omega)] at this
theorem rd_val (hB : Bulk sz) (n : Nat) : ReadsB enc Tryz.prog w base spare held sz n 60 (initA) (fun _ _ => True) := fun fuel hf cs x h => by
 obtain ⟨xs, m, rfl, hx, hl, hn, hg⟩ := DataW.trod_struct Tryz.underlying60 h
 have hl : cs.length = 2 := hl.trans (by kernel_rfl)
 have h0 := hg 0 _ rfl
 have h1 := hg 1 _ rfl
 rw [List.getElem?_eq_getElem (by rw [hn]; decide)] at h0 h1
 obtain ⟨y0, r0, q0⟩ := rd_MeanKind hB m m (Nat.le_refl _) _ _ h0
 obtain ⟨y1, r1, q1⟩ := rd_int hB m m (Nat.le_refl _) _ _ h1
 refine ⟨⟨y0, y1⟩, ?_, trivial⟩
 have := (relL_join (a := 0) (n := 1) (m := 1) r0 r1)
 rwa [List.drop_zero, List.take_of_length_le (by omega)] at this
theorem rd_vals (hB : Bulk sz) (n : Nat) : ReadsB enc Tryz.prog w base spare held sz n 29 (fun l : List (Int × Int) => [AV.mvs l]) (fun _ _ => True) := fun fuel hf cs x h => by
 obtain ⟨l, hl, _⟩ := readsB_slice (n := n) hB (k := 2) (Q := fun _ _ => True) (fun y a b => fun _ _ => trivial) Tryz.underlying29 (by kernel_rfl) (by omega) (fun _ => rfl) (rd_val hB n) fuel (by omega) cs x h
 exact ⟨l, hl, trivial⟩
theorem rd_th (hB : Bulk sz) (n : Nat) : ReadsB enc Tryz.prog w base spare held sz n 65 (thA) (fun _ _ => True) := fun fuel hf cs x h => by
 obtain ⟨xs, m, rfl, hx, hl, hn, hg⟩ := DataW.trod_struct Tryz.underlying65 h
 have hl : cs.length = 2 := hl.trans (by kernel_rfl)
 have h0 := hg 0 _ rfl
 have h1 := hg 1 _ rfl
 rw [List.getElem?_eq_getElem (by rw [hn]; decide)] at h0 h1
 obtain ⟨y0, r0, q0⟩ := rd_int hB m m (Nat.le_refl _) _ _ h0
 obtain ⟨y1, r1, q1⟩ := rd_vals hB m m (Nat.le_refl _) _ _ h1
 refine ⟨⟨y0, y1⟩, ?_, trivial⟩
 have := (relL_join (a := 0) (n := 1) (m := 1) r0 r1)
 rwa [List.drop_zero, List.take_of_length_le (by omega)] at this
theorem rd_ths (hB : Bulk sz) (n : Nat) : ReadsB enc Tryz.prog w base spare held sz n 28 (fun l : List Th => [AV.ths l]) (fun _ _ => True) := fun fuel hf cs x h => by
 obtain ⟨l, hl, _⟩ := readsB_slice (n := n) hB (k := 2) (Q := fun _ _ => True) (fun y a b => fun _ _ => trivial) Tryz.underlying28 (by kernel_rfl) (by omega) (fun _ => rfl) (rd_th hB n) fuel (by omega) cs x h
 exact ⟨l, hl, trivial⟩
theorem rd_byte (hB : Bulk sz) (n : Nat) : ReadsB enc Tryz.prog w base spare held sz n 5 (fun q : Go.Eng.Im.U8 => [Go.Eng.Im.u8 q]) (fun _ _ => True) := fun fuel _ cs x h => by
 obtain ⟨q, rfl, _, hw⟩ := DataW.trod_int Tryz.underlying5 h
 simp [Lit.wf, IntKind.min, IntKind.max, IntKind.signed, IntKind.bits] at hw
 exact ⟨⟨q.toNat, by omega⟩, .cons _ _ _ _ (by rw [Go.Eng.Im.u8, Int.toNat_of_nonneg (by omega)]; exact .val _) .nil, trivial⟩
theorem rd_bytes (hB : Bulk sz) (n : Nat) : ReadsB enc Tryz.prog w base spare held sz n 30 (fun l : List Go.Eng.Im.U8 => [Go.Eng.Im.u8s l]) (fun (l : List _) (b : Nat) => l.length ≤ b) := fun fuel hf cs x h => by
 obtain ⟨l, hl, hq⟩ := readsB_slice (n := n) hB (k := 1) (Q := fun _ _ => True) (fun y a b => fun _ _ => trivial) Tryz.underlying30 (by kernel_rfl) (by omega) (fun _ => rfl) (rd_byte hB n) fuel (by omega) cs x h
 exact ⟨l, hl, hq.1⟩
theorem rd_given (hB : Bulk sz) (n : Nat) : ReadsB enc Tryz.prog w base spare held sz n 32 (Gcells) (fun (g : Gv) (b : Nat) => (g.p.classes.length ≤ b ∧ ∀ c ∈ g.p.classes, c.parents.length ≤ b) ∧ g.bytes.length ≤ b) := fun fuel hf cs x h => by
 obtain ⟨xs, m, rfl, hx, hl, hn, hg⟩ := DataW.trod_struct Tryz.underlying32 h
 have hl : cs.length = 11 := hl.trans (by kernel_rfl)
 have h0 := hg 0 _ rfl
 have h1 := hg 1 _ rfl
 have h2 := hg 2 _ rfl
 have h3 := hg 3 _ rfl
 have h4 := hg 4 _ rfl
 have h5 := hg 5 _ rfl
 rw [List.getElem?_eq_getElem (by rw [hn]; decide)] at h0 h1 h2 h3 h4 h5
 obtain ⟨y0, r0, q0⟩ := rd_prog hB m m (Nat.le_refl _) _ _ h0
 obtain ⟨y1, r1, q1⟩ := rd_ths hB m m (Nat.le_refl _) _ _ h1
 obtain ⟨y2, r2, q2⟩ := rd_vals hB m m (Nat.le_refl _) _ _ h2
 obtain ⟨y3, r3, q3⟩ := rd_ths hB m m (Nat.le_refl _) _ _ h3
 obtain ⟨y4, r4, q4⟩ := rd_vals hB m m (Nat.le_refl _) _ _ h4
 obtain ⟨y5, r5, q5⟩ := rd_bytes hB m m (Nat.le_refl _) _ _ h5
 have hz0 : sz (xs[0]'(by rw [hn]; decide)).1 ≤ sz x.1 := by rw [hx]; exact hB.ag _ _ (List.mem_map.2 ⟨_, List.getElem_mem _, rfl⟩)
 replace q0 : (fun (p : Prog) (b : Nat) => p.classes.length ≤ b ∧ ∀ c ∈ p.classes, c.parents.length ≤ b) y0 (sz x.1) := (fun h1 h2 => ⟨Nat.le_trans h2.1 h1, fun c hc => Nat.le_trans (h2.2 c hc) h1⟩) hz0 q0
 have hz5 : sz (xs[5]'(by rw [hn]; decide)).1 ≤ sz x.1 := by rw [hx]; exact hB.ag _ _ (List.mem_map.2 ⟨_, List.getElem_mem _, rfl⟩)
 replace q5 : (fun (l : List _) (b : Nat) => l.length ≤ b) y5 (sz x.1) := (fun h1 h2 => Nat.le_trans h2 h1) hz5 q5
 refine ⟨⟨y0, y1, y2, y3, y4, y5⟩, ?_, ⟨q0, q5⟩⟩
 have := (relL_join (a := 0) (n := 10) (m := 1) (relL_join (a := 0) (n := 9) (m := 1) (relL_join (a := 0) (n := 8) (m := 1) (relL_join (a := 0) (n := 7) (m := 1) (relL_join (a := 0) (n := 6) (m := 1) r0 r1) r2) r3) r4) r5)
 rwa [List.drop_zero, List.take_of_length_le (by omega)] at this
end
section
variable {H : Type} {enc : TypeId × Value → H} {w : World} {v : Value} {d : DataW H} {ps : List MemPlace} {base base' : Nat} {r : Reach} {sz : DataW H → Nat}
theorem given_of (hB : Bulk sz) (h : DataW.Trod enc Tryz.prog w base (fun _ => true) true 32 v d ps) : ∃ g : Gv, Rel (allI w) w (AV.given g) v ∧ ((g.p.classes.length ≤ sz d ∧ ∀ c ∈ g.p.classes, c.parents.length ≤ sz d) ∧ g.bytes.length ≤ sz d) := by
 obtain ⟨fuel, h⟩ := h
 obtain ⟨g, hg, hq⟩ := rd_given hB fuel fuel (Nat.le_refl _) _ _ h
 exact ⟨g, rel_agg hg (by simp), hq⟩
end
theorem bulk_pos {H : Type} (d : DataW H) : 1 ≤ Rows.uptoBulk d := by
 cases d with
 | lit l => cases l <;> simp [Rows.uptoBulk]
 | _ => simp [Rows.uptoBulk]
theorem bulk_len {H : Type} : ∀ l : List (DataW H), l.length ≤ Rows.uptoBulkAll l
 | [] => by simp
 | d :: r => by
  have h1 := bulk_pos d
  have h2 := bulk_len r
  simp only [Rows.uptoBulkAll, List.length_cons]; omega
theorem bulk_el {H : Type} : ∀ l : List (DataW H), ∀ e ∈ l, Rows.uptoBulk e ≤ Rows.uptoBulkAll l
 | d :: r, e, he => by
  simp only [Rows.uptoBulkAll]
  rcases List.mem_cons.1 he with rfl | he
  ·omega
  ·have := bulk_el r e he; omega
theorem bulk {H : Type} : Bulk (Rows.uptoBulk (H := H)) :=
 ⟨fun es sp => by have := bulk_len es; simp only [Rows.uptoBulk]; omega, fun es sp e he => by have := bulk_el es e he; simp only [Rows.uptoBulk]; omega, fun ps e he => by have := bulk_el ps e he; simp only [Rows.uptoBulk]; omega⟩
abbrev unfV : Value := .iface 253 (.agg #[])
abbrev unfA : AV := .iface 253 (.agg [])
theorem unf_c : unfA.Const unfV where
 is I w u h := by
  cases h with
  | iface _ _ v h => cases h with
   | agg _ vs h =>
    have : vs = #[] := by cases vs with | mk l => cases h; rfl
    rw [this]
 rel I w := .iface _ _ _ (.agg _ _ .nil)
def kindA : Option (Option Nat) → AV
 | none => .val .nilIface
 | some none => .iface 234 (.agg [])
 | some (some k) => .iface 233 (.i k)
theorem needT {b : Bool} (hb : b = true) (H : List Ent) : RCall Tryz.prog 195 [.b b] H (some (.tup [], H)) H unfA := by
 refine ACall.mk' (n := 6) Tryz.func195 rfl (by kernel_rfl) rfl rfl (fun B I w0 => ?_)
 refine S2 ?_; refine Omv ?_; refine Ont ?_; refine S2 ?_
 refine CW.cond rfl (fun h0 => ?_) (fun h0 => ?_)
 ·
  simp [hb] at h0
 ·
  replace h0 := nm h0
  refine S1 ?_
  refine Done.norR (rs := []) (H' := H) rfl (.nil) (AVleL.refl _) (by repeat (first | exact List.Sublist.refl _ | refine List.Sublist.cons _ ?_)) ?_
  exact rfl
theorem needF {b : Bool} (hb : b = false) (H : List Ent) : RCall Tryz.prog 195 [.b b] H none H unfA := by
 refine ACall.mk' (n := 6) Tryz.func195 rfl (by kernel_rfl) rfl rfl (fun B I w0 => ?_)
 refine S2 ?_; refine Omv ?_; refine Ont ?_; refine S2 ?_
 refine CW.cond rfl (fun h0 => ?_) (fun h0 => ?_)
 ·
  replace h0 := nm h0
  refine S1 ?_; refine Obd ?_
  refine OL.popC rfl rfl rfl (POp.makeIface rfl rfl rfl (by kernel_rfl)) ?_
  refine OL.panicC rfl rfl rfl rfl unf_c ?_
  exact outP unf_c (.refl _) ⟨rfl, rfl, rfl⟩
 ·
  simp [hb] at h0
theorem between (n : Int) : PCall Tryz.prog 225 [.i n] (.b (inP n)) := by
 intro H
 refine ACall.mk' (n := 9) Tryz.func225 rfl (by kernel_rfl) rfl rfl (fun B I w0 => ?_)
 refine S2 ?_; refine Oas ?_; refine S4 ?_; refine Omv ?_; refine Ocm ?_; refine Omv ?_; refine Pmv ?_; refine Pcm ?_; refine Opk ?_; refine Oas ?_; refine S3 ?_
 refine r1 2 (H) ?_
 exact ⟨retB (by unfold inP; by_cases h : -1000000000 ≤ n <;> simp [h]), rfl⟩
theorem sIndex (l : List Int) (v : Int) : PCall Tryz.prog 103 [AV.ints l, .i v] (.i (idxB l v)) := by
 intro H
 refine ACall.mk' (n := 19) Tryz.func103 rfl (by kernel_rfl) rfl rfl (fun B I w0 => ?_)
 refine CW.boundM (t := 0) rfl (fun hb0 => ?_)
 refine S2 ?_; refine Oas ?_; refine S5 ?_; refine Omv ?_; refine Oln ?_; refine Omv ?_; refine S3 ?_
 refine lj (fun m st => ∃ k : Nat, st = ⟨[(8, .i k), (7, .i l.length), (0, AV.ints l), (1, .i v)], H⟩ ∧ m = l.length - k ∧ k ≤ l.length ∧ ∀ x ∈ l.take k, x ≠ v) (⟨0, rfl, rfl, by simp, by simp⟩) ?_
 rintro m _ ⟨k, rfl, rfl, hk, hp⟩
 refine S2 ?_; refine Ocm ?_; refine S3 ?_
 refine CW.cond rfl (fun h0 => ?_) (fun h0 => ?_)
 ·
  replace h0 := nm h0
  refine S6 ?_; refine Omv ?_; refine Oas ?_; refine S4 ?_; refine Omv ?_; refine Omv ?_; refine Omv ?_; refine Oix ?_; refine Old ?_; refine Ocm ?_; refine S2 ?_
  refine CW.cond rfl (fun h1 => ?_) (fun h1 => ?_)
  ·
   replace h1 := nm h1
   refine S2 ?_; refine Omv ?_; refine Oas ?_; refine S8 ?_
   refine r1 4 (H) ?_
   exact ⟨retI (idxB_at (by omega) hp h1), rfl⟩
  ·
   replace h1 := nm h1
   refine S4 ?_; refine Oar ?_; refine Omv ?_; refine S1 ?_
   exact ag (⟨k + 1, rfl, rfl, by omega, ne_step (by omega) hp h1⟩)
 ·
  replace h0 := nm h0
  refine S7 ?_; refine Oas ?_; refine S3 ?_
  refine r1 4 (H) ?_
  exact ⟨retI (idxB_none (by have e : k = l.length := (by omega); rw [e, List.take_length] at hp; exact hp)), rfl⟩
theorem sContains (l : List Int) (v : Int) : PCall Tryz.prog 38 [AV.ints l, .i v] (.b (l.contains v)) := by
 intro H
 refine ACall.mk' (n := 9) Tryz.func38 rfl (by kernel_rfl) rfl rfl (fun B I w0 => ?_)
 refine S2 ?_; refine Oas ?_; refine S4 ?_; refine Omv ?_; refine Omv ?_
 refine OL.popC rfl rfl rfl (POp.call (.mk' rfl rfl rfl rfl rfl) ((sIndex _ _))) ?_
 refine Ocm ?_; refine Oas ?_; refine S3 ?_
 refine r1 4 (H) ?_
 exact ⟨retB (idxB_contains _ _), rfl⟩
theorem fine (g : List (List Int)) : PCall Tryz.prog 246 [AV.intss g] (.b (fineP g)) := by
 intro H
 refine ACall.mk' (n := 44) Tryz.func246 rfl (by kernel_rfl) rfl rfl (fun B I w0 => ?_)
 refine CW.boundM (t := 0) rfl (fun hb0 => ?_)
 refine S2 ?_; refine Oas ?_; refine S5 ?_; refine Omv ?_; refine Oln ?_; refine Ocm ?_; refine S2 ?_
 refine CW.cond rfl (fun h0 => ?_) (fun h0 => ?_)
 ·
  replace h0 := nm h0
  refine S2 ?_; refine Oas ?_; refine S4 ?_
  refine r1 2 (H) ?_
  exact ⟨retB (fine_no1 (by omega)).symm, rfl⟩
 ·
  replace h0 := nm h0
  refine S5 ?_; refine Omv ?_; refine Oln ?_; refine Omv ?_; refine S3 ?_
  refine lj (fun m st => ∃ i : Nat, st = ⟨[(12, .i i), (11, .i g.length), (10, AV.intss g)], H⟩ ∧ m = g.length - i ∧ i ≤ g.length ∧ fineG 0 (g.take i) = true) (⟨0, rfl, rfl, by omega, rfl⟩) ?_
  rintro m _ ⟨i, rfl, rfl, hi, hg⟩
  refine S2 ?_; refine Ocm ?_; refine S3 ?_
  refine CW.cond rfl (fun h1 => ?_) (fun h1 => ?_)
  ·
   replace h1 := nm h1
   have hil : i < g.length := by simpa using h1
   obtain ⟨L, hL⟩ : ∃ L, L = g.getD i default := ⟨_, rfl⟩
   refine S6 ?_; refine Omv ?_
   refine OL.popC rfl rfl rfl ((by first | exact POp.ixM rfl rfl rfl rfl rfl hil | exact POp.ixI rfl rfl rfl rfl rfl hil)) ?_
   refine Old ?_; refine Oas ?_; refine Oas ?_; refine S4 ?_
   rw [← hL]
   refine CW.boundM (t := 4) rfl (fun hb4 => ?_)
   refine S1 ?_; refine Omv ?_; refine Oln ?_; refine Ocm ?_; refine S2 ?_
   refine CW.cond rfl (fun h2 => ?_) (fun h2 => ?_)
   ·
    replace h2 := nm h2
    refine S2 ?_; refine Oas ?_; refine S9 ?_
    refine r1 2 (H) ?_
    exact ⟨retB (fine_no2 hil (by rw [← hL]; have : ¬ L.length ≤ 3 := (by omega); simp [this])).symm, rfl⟩
   ·
    replace h2 := nm h2
    refine S4 ?_; refine Omv ?_; refine Oln ?_; refine Omv ?_; refine S3 ?_
    refine lj (fun m st => ∃ k : Nat, st = ⟨[(22, .i k), (21, .i L.length), (20, AV.ints L), (3, .i i), (4, AV.ints L), (12, .i i), (11, .i g.length), (10, AV.intss g)], H⟩ ∧ m = L.length - k ∧ k ≤ L.length ∧ fineL i [] (L.take k) = true) (⟨0, rfl, rfl, by omega, rfl⟩) ?_
    rintro m _ ⟨k, rfl, rfl, hk, hl⟩
    refine S2 ?_; refine Ocm ?_; refine S3 ?_
    refine CW.cond rfl (fun h3 => ?_) (fun h3 => ?_)
    ·
     replace h3 := nm h3
     have hkl : k < L.length := by simpa using h3
     refine S6 ?_; refine Omv ?_
     refine OL.popC rfl rfl rfl ((by first | exact POp.ixM rfl rfl rfl rfl rfl hkl | exact POp.ixI rfl rfl rfl rfl rfl hkl)) ?_
     refine Old ?_; refine Oas ?_; refine Oas ?_; refine S4 ?_; refine Omv ?_; refine Ocm ?_; refine Omv ?_; refine Pmv ?_; refine Pmv ?_; refine Par ?_; refine Pcm ?_; refine Opk ?_
     refine Omv ?_; refine Pmv ?_; refine Pmv ?_
     refine OL.guardC rfl rfl rfl rfl rfl rfl (fun hg => POp.slTo rfl rfl (by first | rfl | exact hg | simp_all) rfl (by first | rfl | exact hg | simp_all) (by omega)) ?_
     refine Pmv ?_
     refine OL.guardC rfl rfl rfl rfl rfl rfl (fun hg => POp.call (.mk' rfl rfl rfl rfl (by first | rfl | ((repeat (first | exact hg | rfl | refine Bool.and_eq_true_iff.2 ⟨?_, ?_⟩)); done) | simp_all [strip, constAV])) ((sContains _ _))) ?_
     refine Opk ?_; refine S2 ?_
     refine CW.cond rfl (fun h4 => ?_) (fun h4 => ?_)
     ·
      replace h4 := nm h4
      refine S2 ?_; refine Oas ?_; refine S12 ?_
      refine r1 2 (H) ?_
      exact ⟨retB (fine_no2 hil (by rw [← hL, fine_no3 hkl (by simp_all), Bool.and_false])).symm, rfl⟩
     ·
      replace h4 := nm h4
      refine S4 ?_; refine Oar ?_; refine Omv ?_; refine S1 ?_
      exact ag (⟨k + 1, rfl, rfl, hkl, by rw [fineL_take i L [] k hkl, hl]; simp_all⟩)
    ·
     replace h3 := nm h3
     have e3 : k = L.length := by omega
     rw [e3, List.take_length] at hl
     refine S7 ?_; refine Oar ?_; refine Omv ?_; refine S1 ?_
     exact ag (⟨i + 1, rfl, rfl, hil, by rw [fineG_take g 0 i hil, hg, ← hL, Nat.zero_add, hl]; simp; omega⟩)
  ·
   replace h1 := nm h1
   have e1 : i = g.length := by omega
   rw [e1, List.take_length] at hg
   refine S7 ?_; refine Oas ?_; refine S3 ?_
   refine r1 2 (H) ?_
   exact ⟨retB (by unfold fineP; rw [hg]; simp; omega), rfl⟩
theorem lineCheck (g : List (List Int)) : PCall Tryz.prog 223 [AV.intss g] (.i (if fineP g then 0 else 2)) := by
 intro H
 refine ACall.mk' (n := 6) Tryz.func223 rfl (by kernel_rfl) rfl rfl (fun B I w0 => ?_)
 refine S2 ?_; refine Oas ?_; refine S5 ?_; refine Omv ?_
 refine OL.popC rfl rfl rfl (POp.call (.mk' rfl rfl rfl rfl rfl) ((fine _))) ?_
 refine Ont ?_; refine S2 ?_
 refine CW.cond rfl (fun h0 => ?_) (fun h0 => ?_)
 ·
  replace h0 := nm h0
  refine S2 ?_; refine Oas ?_; refine S4 ?_
  refine r1 2 (H) ?_
  exact ⟨retI (by simp_all), rfl⟩
 ·
  replace h0 := nm h0
  refine S4 ?_; refine Oas ?_; refine S3 ?_
  refine r1 2 (H) ?_
  exact ⟨retI (by simp_all), rfl⟩
theorem kidsOf (op : Int) : PCall Tryz.prog 200 [.i op] (kindA (kindOf op)) := by
 intro H
 refine ACall.mk' (n := 33) Tryz.func200 rfl (by kernel_rfl) rfl rfl (fun B I w0 => ?_)
 refine S2 ?_; refine Oas ?_; refine S5 ?_; refine Omv ?_; refine S5 ?_; refine Ocm ?_; refine Oas ?_; refine S2 ?_
 refine CW.cond rfl (fun h0 => ?_) (fun h0 => ?_)
 ·
  replace h0 := nm h0
  refine S2 ?_; refine Obd ?_
  refine OL.popC rfl rfl rfl (POp.makeIface rfl rfl rfl (by kernel_rfl)) ?_
  refine Oas ?_; refine S5 ?_
  refine r1 2 (H) ?_
  exact ⟨retX (by simp_all [kindOf, kindA] <;> rfl), rfl⟩
 ·
  replace h0 := nm h0
  refine CW.cutJ (fun st => ∃ u : Bool, st = ⟨[(8, .b u), (3, .i op)], H⟩ ∧ u = decide (op = 1 ∨ op = 2 ∨ op = 3 ∨ op = 6 ∨ op = 18)) ?_ ?_
  ·
   refine S2 ?_; refine Ocm ?_; refine Oas ?_; refine S2 ?_
   refine CW.cond rfl (fun h1 => ?_) (fun h1 => ?_)
   ·
    replace h1 := nm h1
    refine S1 ?_
    exact Done.cutJ ⟨op == 1, rfl, by by_cases hz : op = 1 <;> simp_all⟩ (by repeat (first | exact trivial | refine ⟨rfl, ?_⟩)) (by repeat (first | exact List.Sublist.refl _ | refine List.Sublist.cons _ ?_))
   ·
    replace h1 := nm h1
    refine S2 ?_; refine Ocm ?_; refine Oas ?_; refine S2 ?_
    refine CW.cond rfl (fun h2 => ?_) (fun h2 => ?_)
    ·
     replace h2 := nm h2
     refine S1 ?_
     exact Done.cutJ ⟨op == 2, rfl, by by_cases hz : op = 2 <;> simp_all⟩ (by repeat (first | exact trivial | refine ⟨rfl, ?_⟩)) (by repeat (first | exact List.Sublist.refl _ | refine List.Sublist.cons _ ?_))
    ·
     replace h2 := nm h2
     refine S2 ?_; refine Ocm ?_; refine Oas ?_; refine S2 ?_
     refine CW.cond rfl (fun h3 => ?_) (fun h3 => ?_)
     ·
      replace h3 := nm h3
      refine S1 ?_
      exact Done.cutJ ⟨op == 3, rfl, by by_cases hz : op = 3 <;> simp_all⟩ (by repeat (first | exact trivial | refine ⟨rfl, ?_⟩)) (by repeat (first | exact List.Sublist.refl _ | refine List.Sublist.cons _ ?_))
     ·
      replace h3 := nm h3
      refine S2 ?_; refine Ocm ?_; refine Oas ?_; refine S2 ?_
      refine CW.cond rfl (fun h4 => ?_) (fun h4 => ?_)
      ·
       replace h4 := nm h4
       refine S1 ?_
       exact Done.cutJ ⟨op == 6, rfl, by by_cases hz : op = 6 <;> simp_all⟩ (by repeat (first | exact trivial | refine ⟨rfl, ?_⟩)) (by repeat (first | exact List.Sublist.refl _ | refine List.Sublist.cons _ ?_))
      ·
       replace h4 := nm h4
       refine S1 ?_; refine Ocm ?_; refine Oas ?_; refine S1 ?_
       exact Done.cutJ ⟨op == 18, rfl, by by_cases hz : op = 18 <;> simp_all⟩ (by repeat (first | exact trivial | refine ⟨rfl, ?_⟩)) (by repeat (first | exact List.Sublist.refl _ | refine List.Sublist.cons _ ?_))
  ·
   rintro _ ⟨u, rfl, hu4⟩
   refine CW.cond rfl (fun h5 => ?_) (fun h5 => ?_)
   ·
    replace h5 := nm h5
    refine S2 ?_
    refine OL.popC rfl rfl rfl (POp.makeIface rfl rfl rfl (by kernel_rfl)) ?_
    refine Oas ?_; refine S5 ?_
    refine r1 2 (H) ?_
    exact ⟨retX (by simp_all [kindOf, kindA] <;> rfl), rfl⟩
   ·
    replace h5 := nm h5
    refine CW.cutJ (fun st => ∃ u : Bool, st = ⟨[(15, .b u), (3, .i op)], H⟩ ∧ u = decide (op = 4 ∨ op = 8 ∨ op = 17)) ?_ ?_
    ·
     refine S2 ?_; refine Ocm ?_; refine Oas ?_; refine S2 ?_
     refine CW.cond rfl (fun h6 => ?_) (fun h6 => ?_)
     ·
      replace h6 := nm h6
      refine S1 ?_
      exact Done.cutJ ⟨op == 4, rfl, by by_cases hz : op = 4 <;> simp_all⟩ (by repeat (first | exact trivial | refine ⟨rfl, ?_⟩)) (by repeat (first | exact List.Sublist.refl _ | refine List.Sublist.cons _ ?_))
     ·
      replace h6 := nm h6
      refine S2 ?_; refine Ocm ?_; refine Oas ?_; refine S2 ?_
      refine CW.cond rfl (fun h7 => ?_) (fun h7 => ?_)
      ·
       replace h7 := nm h7
       refine S1 ?_
       exact Done.cutJ ⟨op == 8, rfl, by by_cases hz : op = 8 <;> simp_all⟩ (by repeat (first | exact trivial | refine ⟨rfl, ?_⟩)) (by repeat (first | exact List.Sublist.refl _ | refine List.Sublist.cons _ ?_))
      ·
       replace h7 := nm h7
       refine S1 ?_; refine Ocm ?_; refine Oas ?_; refine S1 ?_
       exact Done.cutJ ⟨op == 17, rfl, by by_cases hz : op = 17 <;> simp_all⟩ (by repeat (first | exact trivial | refine ⟨rfl, ?_⟩)) (by repeat (first | exact List.Sublist.refl _ | refine List.Sublist.cons _ ?_))
    ·
     rintro _ ⟨u, rfl, hu10⟩
     refine CW.cond rfl (fun h8 => ?_) (fun h8 => ?_)
     ·
      replace h8 := nm h8
      refine S2 ?_
      refine OL.popC rfl rfl rfl (POp.makeIface rfl rfl rfl (by kernel_rfl)) ?_
      refine Oas ?_; refine S5 ?_
      refine r1 2 (H) ?_
      exact ⟨retX (by simp_all [kindOf, kindA] <;> rfl), rfl⟩
     ·
      replace h8 := nm h8
      refine CW.cutJ (fun st => ∃ u : Bool, st = ⟨[(20, .b u), (3, .i op)], H⟩ ∧ u = decide (op = 7 ∨ op = 9 ∨ op = 11 ∨ op = 12 ∨ op = 13 ∨ op = 14 ∨ op = 15 ∨ op = 16)) ?_ ?_
      ·
       refine S2 ?_; refine Ocm ?_; refine Oas ?_; refine S2 ?_
       refine CW.cond rfl (fun h9 => ?_) (fun h9 => ?_)
       ·
        replace h9 := nm h9
        refine S1 ?_
        exact Done.cutJ ⟨op == 7, rfl, by by_cases hz : op = 7 <;> simp_all⟩ (by repeat (first | exact trivial | refine ⟨rfl, ?_⟩)) (by repeat (first | exact List.Sublist.refl _ | refine List.Sublist.cons _ ?_))
       ·
        replace h9 := nm h9
        refine S2 ?_; refine Ocm ?_; refine Oas ?_; refine S2 ?_
        refine CW.cond rfl (fun h10 => ?_) (fun h10 => ?_)
        ·
         replace h10 := nm h10
         refine S1 ?_
         exact Done.cutJ ⟨op == 9, rfl, by by_cases hz : op = 9 <;> simp_all⟩ (by repeat (first | exact trivial | refine ⟨rfl, ?_⟩)) (by repeat (first | exact List.Sublist.refl _ | refine List.Sublist.cons _ ?_))
        ·
         replace h10 := nm h10
         refine S2 ?_; refine Ocm ?_; refine Oas ?_; refine S2 ?_
         refine CW.cond rfl (fun h11 => ?_) (fun h11 => ?_)
         ·
          replace h11 := nm h11
          refine S1 ?_
          exact Done.cutJ ⟨op == 11, rfl, by by_cases hz : op = 11 <;> simp_all⟩ (by repeat (first | exact trivial | refine ⟨rfl, ?_⟩)) (by repeat (first | exact List.Sublist.refl _ | refine List.Sublist.cons _ ?_))
         ·
          replace h11 := nm h11
          refine S2 ?_; refine Ocm ?_; refine Oas ?_; refine S2 ?_
          refine CW.cond rfl (fun h12 => ?_) (fun h12 => ?_)
          ·
           replace h12 := nm h12
           refine S1 ?_
           exact Done.cutJ ⟨op == 12, rfl, by by_cases hz : op = 12 <;> simp_all⟩ (by repeat (first | exact trivial | refine ⟨rfl, ?_⟩)) (by repeat (first | exact List.Sublist.refl _ | refine List.Sublist.cons _ ?_))
          ·
           replace h12 := nm h12
           refine S2 ?_; refine Ocm ?_; refine Oas ?_; refine S2 ?_
           refine CW.cond rfl (fun h13 => ?_) (fun h13 => ?_)
           ·
            replace h13 := nm h13
            refine S1 ?_
            exact Done.cutJ ⟨op == 13, rfl, by by_cases hz : op = 13 <;> simp_all⟩ (by repeat (first | exact trivial | refine ⟨rfl, ?_⟩)) (by repeat (first | exact List.Sublist.refl _ | refine List.Sublist.cons _ ?_))
           ·
            replace h13 := nm h13
            refine S2 ?_; refine Ocm ?_; refine Oas ?_; refine S2 ?_
            refine CW.cond rfl (fun h14 => ?_) (fun h14 => ?_)
            ·
             replace h14 := nm h14
             refine S1 ?_
             exact Done.cutJ ⟨op == 14, rfl, by by_cases hz : op = 14 <;> simp_all⟩ (by repeat (first | exact trivial | refine ⟨rfl, ?_⟩)) (by repeat (first | exact List.Sublist.refl _ | refine List.Sublist.cons _ ?_))
            ·
             replace h14 := nm h14
             refine S2 ?_; refine Ocm ?_; refine Oas ?_; refine S2 ?_
             refine CW.cond rfl (fun h15 => ?_) (fun h15 => ?_)
             ·
              replace h15 := nm h15
              refine S1 ?_
              exact Done.cutJ ⟨op == 15, rfl, by by_cases hz : op = 15 <;> simp_all⟩ (by repeat (first | exact trivial | refine ⟨rfl, ?_⟩)) (by repeat (first | exact List.Sublist.refl _ | refine List.Sublist.cons _ ?_))
             ·
              replace h15 := nm h15
              refine S1 ?_; refine Ocm ?_; refine Oas ?_; refine S1 ?_
              exact Done.cutJ ⟨op == 16, rfl, by by_cases hz : op = 16 <;> simp_all⟩ (by repeat (first | exact trivial | refine ⟨rfl, ?_⟩)) (by repeat (first | exact List.Sublist.refl _ | refine List.Sublist.cons _ ?_))
      ·
       rintro _ ⟨u, rfl, hu14⟩
       refine CW.cond rfl (fun h16 => ?_) (fun h16 => ?_)
       ·
        replace h16 := nm h16
        refine S2 ?_
        refine OL.popC rfl rfl rfl (POp.makeIface rfl rfl rfl (by kernel_rfl)) ?_
        refine Oas ?_; refine S5 ?_
        refine r1 2 (H) ?_
        exact ⟨retX (by simp_all [kindOf, kindA] <;> rfl), rfl⟩
       ·
        replace h16 := nm h16
        refine S2 ?_; refine Ocm ?_; refine Oas ?_; refine S2 ?_
        refine CW.cond rfl (fun h17 => ?_) (fun h17 => ?_)
        ·
         replace h17 := nm h17
         refine S2 ?_
         refine OL.popC rfl rfl rfl (POp.makeIface rfl rfl rfl (by kernel_rfl)) ?_
         refine Oas ?_; refine S5 ?_
         refine r1 2 (H) ?_
         exact ⟨retX (by simp_all [kindOf, kindA] <;> rfl), rfl⟩
        ·
         replace h17 := nm h17
         refine S5 ?_; refine Oas ?_; refine S3 ?_
         refine r1 2 (H) ?_
         exact ⟨retX (by simp_all [kindOf, kindA] <;> rfl), rfl⟩
theorem number (p : Prog) (hC : p.classes.length ≤ 100) (x : Nd) (size : Int) : PCall Tryz.prog 199 [AV.prog p, AV.nd x, .i size] (.b (numP p x size)) := by
 intro H
 refine ACall.mk' (n := 52) Tryz.func199 rfl (by kernel_rfl) rfl rfl (fun B I w0 => ?_)
 refine S2 ?_; refine Obx ?_; refine Obx ?_; refine Oas ?_; refine S4 ?_; refine Oas ?_; refine S5 ?_; refine Ofa ?_; refine Old ?_; refine S5 ?_; refine Ocm ?_; refine Oas ?_
 refine S2 ?_
 refine CW.cond rfl (fun h0 => ?_) (fun h0 => ?_)
 ·
  replace h0 := nm h0
  refine S2 ?_; refine Ofa ?_; refine Old ?_
  refine OL.popC rfl rfl rfl (POp.call (.mk' rfl rfl rfl rfl rfl) (between x.n)) ?_
  refine Oas ?_; refine S5 ?_
  refine r1 6 (H) ?_
  exact ⟨retB (by simp [numP, h0]), rfl⟩
 ·
  replace h0 := nm h0
  refine S2 ?_; refine Ocm ?_; refine Oas ?_; refine S2 ?_
  refine CW.cond rfl (fun h1 => ?_) (fun h1 => ?_)
  ·
   replace h1 := nm h1
   refine S1 ?_; refine Omv ?_; refine Oas ?_; refine S5 ?_; refine Ofa ?_; refine Old ?_; refine Ocm ?_; refine Omv ?_; refine Pfa ?_; refine Pld ?_; refine Pmv ?_; refine Pcm ?_
   refine Opk ?_; refine Oas ?_; refine S3 ?_
   refine r1 6 (H) ?_
   exact ⟨retB (by unfold numP mostP; (repeat' split) <;> first | rfl | omega | (simp_all; done)), rfl⟩
  ·
   replace h1 := nm h1
   refine S3 ?_; refine Ocm ?_; refine Oas ?_; refine S2 ?_
   refine CW.cond rfl (fun h2 => ?_) (fun h2 => ?_)
   ·
    replace h2 := nm h2
    refine S2 ?_
    refine CW.cond rfl (fun h3 => ?_) (fun h3 => ?_)
    ·
     replace h3 := nm h3
     refine S1 ?_; refine Ofa ?_; refine Old ?_; refine Oas ?_; refine S5 ?_; refine Ofa ?_; refine Old ?_; refine Ocm ?_; refine Omv ?_; refine Pfa ?_; refine Pld ?_; refine Pmv ?_
     refine Pcm ?_; refine Opk ?_; refine Oas ?_; refine S3 ?_
     refine r1 6 (H) ?_
     exact ⟨retB (by unfold numP mostP; (repeat' split) <;> first | rfl | omega | (simp_all; done)), rfl⟩
    ·
     replace h3 := nm h3
     refine S3 ?_; refine Ocm ?_; refine Oas ?_; refine S2 ?_
     refine CW.cond rfl (fun h4 => ?_) (fun h4 => ?_)
     ·
      replace h4 := nm h4
      refine S2 ?_
      refine CW.cond rfl (fun h5 => ?_) (fun h5 => ?_)
      ·
       replace h5 := nm h5
       refine S2 ?_; refine Ofa ?_; refine Old ?_; refine Ocm ?_; refine Omv ?_; refine Pfa ?_; refine Pld ?_; refine Pfa ?_; refine Pld ?_; refine Pln ?_; refine Par ?_; refine Pcm ?_
       refine Opk ?_; refine Oas ?_; refine S5 ?_
       refine r1 6 (H) ?_
       exact ⟨retB (by unfold numP mostP; (repeat' split) <;> first | rfl | omega | (simp_all; done)), rfl⟩
      ·
       replace h5 := nm h5
       refine S2 ?_; refine Ocm ?_; refine Oas ?_; refine S2 ?_
       refine CW.cond rfl (fun h6 => ?_) (fun h6 => ?_)
       ·
        replace h6 := nm h6
        refine S1 ?_; refine Ofa ?_; refine Old ?_; refine Oln ?_; refine Oas ?_; refine S5 ?_; refine Ofa ?_; refine Old ?_; refine Ocm ?_; refine Omv ?_; refine Pfa ?_; refine Pld ?_
        refine Pmv ?_; refine Pcm ?_; refine Opk ?_; refine Oas ?_; refine S3 ?_
        refine r1 6 (H) ?_
        exact ⟨retB (by unfold numP mostP; (repeat' split) <;> first | rfl | omega | (simp_all; done)), rfl⟩
       ·
        replace h6 := nm h6
        refine S5 ?_; refine Ofa ?_; refine Old ?_; refine Ocm ?_; refine Omv ?_; refine Pfa ?_; refine Pld ?_; refine Pmv ?_; refine Pcm ?_; refine Opk ?_; refine Oas ?_; refine S3 ?_
        refine r1 6 (H) ?_
        exact ⟨retB (by unfold numP mostP; (repeat' split) <;> first | rfl | omega | (simp_all; done)), rfl⟩
     ·
      replace h4 := nm h4
      refine S1 ?_; refine Ocm ?_; refine Oas ?_; refine S2 ?_
      refine CW.cond rfl (fun h7 => ?_) (fun h7 => ?_)
      ·
       replace h7 := nm h7
       refine S2 ?_; refine Ofa ?_; refine Old ?_; refine Ocm ?_; refine Omv ?_; refine Pfa ?_; refine Pld ?_; refine Pfa ?_; refine Pld ?_; refine Pln ?_; refine Par ?_; refine Pcm ?_
       refine Opk ?_; refine Oas ?_; refine S5 ?_
       refine r1 6 (H) ?_
       exact ⟨retB (by unfold numP mostP; (repeat' split) <;> first | rfl | omega | (simp_all; done)), rfl⟩
      ·
       replace h7 := nm h7
       refine S2 ?_; refine Ocm ?_; refine Oas ?_; refine S2 ?_
       refine CW.cond rfl (fun h8 => ?_) (fun h8 => ?_)
       ·
        replace h8 := nm h8
        refine S1 ?_; refine Ofa ?_; refine Old ?_; refine Oln ?_; refine Oas ?_; refine S5 ?_; refine Ofa ?_; refine Old ?_; refine Ocm ?_; refine Omv ?_; refine Pfa ?_; refine Pld ?_
        refine Pmv ?_; refine Pcm ?_; refine Opk ?_; refine Oas ?_; refine S3 ?_
        refine r1 6 (H) ?_
        exact ⟨retB (by unfold numP mostP; (repeat' split) <;> first | rfl | omega | (simp_all; done)), rfl⟩
       ·
        replace h8 := nm h8
        refine S5 ?_; refine Ofa ?_; refine Old ?_; refine Ocm ?_; refine Omv ?_; refine Pfa ?_; refine Pld ?_; refine Pmv ?_; refine Pcm ?_; refine Opk ?_; refine Oas ?_; refine S3 ?_
        refine r1 6 (H) ?_
        exact ⟨retB (by unfold numP mostP; (repeat' split) <;> first | rfl | omega | (simp_all; done)), rfl⟩
   ·
    replace h2 := nm h2
    refine S1 ?_; refine Ocm ?_; refine Oas ?_; refine S2 ?_
    refine CW.cond rfl (fun h9 => ?_) (fun h9 => ?_)
    ·
     replace h9 := nm h9
     refine S1 ?_; refine Ofa ?_; refine Old ?_; refine Oas ?_; refine S5 ?_; refine Ofa ?_; refine Old ?_; refine Ocm ?_; refine Omv ?_; refine Pfa ?_; refine Pld ?_; refine Pmv ?_
     refine Pcm ?_; refine Opk ?_; refine Oas ?_; refine S3 ?_
     refine r1 6 (H) ?_
     exact ⟨retB (by unfold numP mostP; (repeat' split) <;> first | rfl | omega | (simp_all; done)), rfl⟩
    ·
     replace h9 := nm h9
     refine S3 ?_; refine Ocm ?_; refine Oas ?_; refine S2 ?_
     refine CW.cond rfl (fun h10 => ?_) (fun h10 => ?_)
     ·
      replace h10 := nm h10
      refine S2 ?_
      refine CW.cond rfl (fun h11 => ?_) (fun h11 => ?_)
      ·
       replace h11 := nm h11
       refine S2 ?_; refine Ofa ?_; refine Old ?_; refine Ocm ?_; refine Omv ?_; refine Pfa ?_; refine Pld ?_; refine Pfa ?_; refine Pld ?_; refine Pln ?_; refine Par ?_; refine Pcm ?_
       refine Opk ?_; refine Oas ?_; refine S5 ?_
       refine r1 6 (H) ?_
       exact ⟨retB (by unfold numP mostP; (repeat' split) <;> first | rfl | omega | (simp_all; done)), rfl⟩
      ·
       replace h11 := nm h11
       refine S2 ?_; refine Ocm ?_; refine Oas ?_; refine S2 ?_
       refine CW.cond rfl (fun h12 => ?_) (fun h12 => ?_)
       ·
        replace h12 := nm h12
        refine S1 ?_; refine Ofa ?_; refine Old ?_; refine Oln ?_; refine Oas ?_; refine S5 ?_; refine Ofa ?_; refine Old ?_; refine Ocm ?_; refine Omv ?_; refine Pfa ?_; refine Pld ?_
        refine Pmv ?_; refine Pcm ?_; refine Opk ?_; refine Oas ?_; refine S3 ?_
        refine r1 6 (H) ?_
        exact ⟨retB (by unfold numP mostP; (repeat' split) <;> first | rfl | omega | (simp_all; done)), rfl⟩
       ·
        replace h12 := nm h12
        refine S5 ?_; refine Ofa ?_; refine Old ?_; refine Ocm ?_; refine Omv ?_; refine Pfa ?_; refine Pld ?_; refine Pmv ?_; refine Pcm ?_; refine Opk ?_; refine Oas ?_; refine S3 ?_
        refine r1 6 (H) ?_
        exact ⟨retB (by unfold numP mostP; (repeat' split) <;> first | rfl | omega | (simp_all; done)), rfl⟩
     ·
      replace h10 := nm h10
      refine S1 ?_; refine Ocm ?_; refine Oas ?_; refine S2 ?_
      refine CW.cond rfl (fun h13 => ?_) (fun h13 => ?_)
      ·
       replace h13 := nm h13
       refine S2 ?_; refine Ofa ?_; refine Old ?_; refine Ocm ?_; refine Omv ?_; refine Pfa ?_; refine Pld ?_; refine Pfa ?_; refine Pld ?_; refine Pln ?_; refine Par ?_; refine Pcm ?_
       refine Opk ?_; refine Oas ?_; refine S5 ?_
       refine r1 6 (H) ?_
       exact ⟨retB (by unfold numP mostP; (repeat' split) <;> first | rfl | omega | (simp_all; done)), rfl⟩
      ·
       replace h13 := nm h13
       refine S2 ?_; refine Ocm ?_; refine Oas ?_; refine S2 ?_
       refine CW.cond rfl (fun h14 => ?_) (fun h14 => ?_)
       ·
        replace h14 := nm h14
        refine S1 ?_; refine Ofa ?_; refine Old ?_; refine Oln ?_; refine Oas ?_; refine S5 ?_; refine Ofa ?_; refine Old ?_; refine Ocm ?_; refine Omv ?_; refine Pfa ?_; refine Pld ?_
        refine Pmv ?_; refine Pcm ?_; refine Opk ?_; refine Oas ?_; refine S3 ?_
        refine r1 6 (H) ?_
        exact ⟨retB (by unfold numP mostP; (repeat' split) <;> first | rfl | omega | (simp_all; done)), rfl⟩
       ·
        replace h14 := nm h14
        refine S5 ?_; refine Ofa ?_; refine Old ?_; refine Ocm ?_; refine Omv ?_; refine Pfa ?_; refine Pld ?_; refine Pmv ?_; refine Pcm ?_; refine Opk ?_; refine Oas ?_; refine S3 ?_
        refine r1 6 (H) ?_
        exact ⟨retB (by unfold numP mostP; (repeat' split) <;> first | rfl | omega | (simp_all; done)), rfl⟩
theorem soMany (n : Int) (p : Prog) (x : Nd) : PCall Tryz.prog 324 [.i n, AV.prog p, AV.nd x] (.i n) := by
 intro H
 refine ACall.mk' (n := 8) Tryz.func324 rfl (by kernel_rfl) rfl rfl (fun B I w0 => ?_)
 refine S2 ?_; refine Obx ?_; refine Obx ?_; refine Oas ?_; refine S4 ?_; refine Omv ?_; refine Oas ?_; refine S3 ?_
 refine r1 6 (H) ?_
 exact ⟨by first | rfl | exact retI (by simp_all) | exact retB (by simp_all) | simp_all, rfl⟩
theorem argMany (p : Prog) (x : Nd) (h0 : 0 ≤ x.n) (h1 : x.n < p.gens.length) : PCall Tryz.prog 325 [.agg [], AV.prog p, AV.nd x] (.i (p.gens.getD x.n.toNat default)) := by
 intro H
 refine ACall.mk' (n := 13) Tryz.func325 rfl (by kernel_rfl) rfl rfl (fun B I w0 => ?_)
 refine S2 ?_; refine Obx ?_; refine Obx ?_; refine Obx ?_; refine Oas ?_; refine S4 ?_; refine Ofa ?_; refine Old ?_; refine Ofa ?_; refine Old ?_; refine Oix ?_; refine Old ?_
 refine Oas ?_; refine S3 ?_
 refine r1 6 (H) ?_
 exact ⟨by first | rfl | exact retI (by simp_all) | exact retB (by simp_all) | simp_all, rfl⟩
theorem cloneI (l : List Int) (hl : l.length ≤ 4000000) : PCall Tryz.prog 245 [AV.ints l] (AV.ints l) := by
 intro H
 refine ACall.mk' (n := 8) Tryz.func245 rfl (by kernel_rfl) rfl rfl (fun B I w0 => ?_)
 refine S2 ?_; refine Oas ?_; refine S5 ?_; refine Omv ?_
 refine OL.isNilC rfl rfl rfl rfl rfl rfl rfl (AVle.refl _) rfl rfl (fun n4 hn4 => ?_)
 refine S2 ?_
 refine CW.cond rfl (fun h0 => ?_) (fun h0 => ?_)
 ·
  replace h0 := nm h0
  refine S2 ?_; refine Oas ?_; refine S4 ?_
  refine Done.retR (rs := [.tmp 2]) (H' := H) rfl (.tmp rfl (.nil)) (.cons (AVle.nil 1) .nil) (by repeat (first | exact List.Sublist.refl _ | refine List.Sublist.cons _ ?_)) ?_
  exact ⟨by show AV.sl 1 [] = AV.sl 1 _; rw [hn4 h0], rfl⟩
 ·
  replace h0 := nm h0
  refine S4 ?_; refine Or0 ?_; refine Omv ?_
  refine OL.popC rfl rfl rfl (POp.appendI rfl rfl rfl (AVle.refl _) rfl rfl (AVle.refl _) (one_ints l) (by simp; omega) (by simp; omega)) ?_
  refine Oas ?_; refine S3 ?_
  refine r1 2 (H) ?_
  exact ⟨by first | rfl | exact retI (by simp_all) | exact retB (by simp_all) | simp_all, rfl⟩
theorem clipS (els : List (List AV)) : PCall Tryz.prog 269 [.sl 1 els] (.sl 1 els) := by
 intro H
 refine ACall.mk' (n := 9) Tryz.func269 rfl (by kernel_rfl) rfl rfl (fun B I w0 => ?_)
 refine S2 ?_; refine Oas ?_; refine S4 ?_; refine Omv ?_; refine Omv ?_; refine Oln ?_; refine Omv ?_; refine Oln ?_
 refine OL.popC rfl rfl rfl (POp.slClip rfl rfl rfl rfl rfl rfl rfl) ?_
 refine Oas ?_; refine S3 ?_
 refine r1 2 (H) ?_
 exact ⟨by first | rfl | exact retI (by simp_all) | exact retB (by simp_all) | simp_all, rfl⟩
theorem clipI (els : List (List AV)) : PCall Tryz.prog 212 [.sl 1 els] (.sl 1 els) := by
 intro H
 refine ACall.mk' (n := 9) Tryz.func212 rfl (by kernel_rfl) rfl rfl (fun B I w0 => ?_)
 refine S2 ?_; refine Oas ?_; refine S4 ?_; refine Omv ?_; refine Omv ?_; refine Oln ?_; refine Omv ?_; refine Oln ?_
 refine OL.popC rfl rfl rfl (POp.slClip rfl rfl rfl rfl rfl rfl rfl) ?_
 refine Oas ?_; refine S3 ?_
 refine r1 2 (H) ?_
 exact ⟨by first | rfl | exact retI (by simp_all) | exact retB (by simp_all) | simp_all, rfl⟩
theorem graph1 (c : Cls) (hc : c.parents.length ≤ 4000000) : PCall Tryz.prog 244 [AV.cls c] (AV.ints c.parents) := by
 intro H
 refine ACall.mk' (n := 6) Tryz.func244 rfl (by kernel_rfl) rfl rfl (fun B I w0 => ?_)
 refine S2 ?_; refine Obx ?_; refine Oas ?_; refine S4 ?_; refine Ofa ?_; refine Old ?_
 refine OL.popC rfl rfl rfl (POp.call (.mk' rfl rfl rfl rfl rfl) ((cloneI _ (by omega)))) ?_
 refine Oas ?_; refine S3 ?_
 refine r1 2 (H) ?_
 exact ⟨by first | rfl | exact retI (by simp_all) | exact retB (by simp_all) | simp_all, rfl⟩
theorem eachP (cs : List Cls) (hs : cs.length ≤ 4000000) (hc : ∀ c ∈ cs, c.parents.length ≤ 4000000) : PCall Tryz.prog 243 [.sl 3 (cs.map clsA), .fn (.func 244) [] []] (AV.intss (cs.map (·.parents))) := by
 intro H
 refine ACall.mk' (n := 23) Tryz.func243 rfl (by kernel_rfl) rfl rfl (fun B I w0 => ?_)
 refine S2 ?_; refine Oas ?_; refine S4 ?_; refine Oas ?_; refine S4 ?_
 refine CW.ownNil 5 23 1 rfl ?_
 refine S1 ?_; refine Omv ?_; refine Oln ?_; refine Omv ?_; refine S3 ?_
 refine lj (fun m st => ∃ (i : Nat) (v : Value), st = ⟨[(10, .i i), (9, .i cs.length), (8, .sl 3 (cs.map clsA)), (1, .fn (.func 244) [] []), (5, .as (AV.intss ((cs.take i).map (·.parents))) v)], .own 23 1 v :: H⟩ ∧ m = cs.length - i ∧ i ≤ cs.length) (⟨0, _, rfl, rfl, by omega⟩) ?_
 rintro m _ ⟨i, v, rfl, rfl, hi⟩
 refine S2 ?_; refine Ocm ?_; refine S3 ?_
 refine CW.cond rfl (fun h0 => ?_) (fun h0 => ?_)
 ·
  replace h0 := nm h0
  have hil : i < cs.length := by omega
  have hcc := hc _ (getD_memB hil)
  refine S6 ?_
  refine OL.popC rfl rfl rfl ((by first | exact POp.ixM rfl rfl rfl rfl rfl hil | exact POp.ixI rfl rfl rfl rfl rfl hil)) ?_
  refine Ola ?_
  refine OL.alC rfl rfl rfl rfl (fun b0 => ?_)
  refine Sto ?_; refine S3 ?_; refine Omv ?_; refine Omv ?_; refine Ola ?_
  refine OL.popC rfl rfl rfl (POp.call (.mk' rfl rfl rfl rfl rfl) (graph1 (cs.getD i default) hcc)) ?_
  refine OL.popC (x := .sl 1 [[AV.ints (cs.getD i default).parents]]) rfl rfl rfl (POp.row rfl rfl (by first | rfl | simp_all [strip]) rfl rfl rfl rfl rfl rfl) ?_
  refine OL.appendC rfl rfl rfl rfl rfl rfl rfl rfl (AVle.refl _) (rfl) (fun v => by repeat (first | exact Upd.head _ _ _ | apply Upd.tail)) (by simp only [List.length_map, List.length_take, List.length_singleton, List.length_cons, List.length_nil] at *; omega) (by simp only [List.length_map, List.length_take, List.length_singleton, List.length_cons, List.length_nil] at *; omega) (fun v19 => ?_)
  refine Oas ?_; refine S4 ?_; refine Oar ?_; refine Omv ?_; refine S1 ?_
  exact ag (⟨i + 1, v19, by rw [intss_snoc hil], rfl, hil⟩)
 ·
  replace h0 := nm h0
  obtain rfl : i = cs.length := by omega
  rw [List.take_length]
  refine S7 ?_; refine Omv ?_
  refine OL.popC rfl rfl rfl (POp.callLe (.mk' rfl rfl rfl rfl rfl) (.cons (AVle.asL _ _) .nil) (clipS _)) ?_
  refine Oas ?_; refine S3 ?_
  refine r1 4 (H) ?_
  exact ⟨by first | rfl | exact retI (by simp_all) | exact retB (by simp_all) | simp_all, rfl⟩
theorem graph (p : Prog) (hs : p.classes.length ≤ 4000000) (hc : ∀ c ∈ p.classes, c.parents.length ≤ 4000000) : PCall Tryz.prog 222 [AV.prog p] (AV.intss (graphP p)) := by
 intro H
 refine ACall.mk' (n := 6) Tryz.func222 rfl (by kernel_rfl) rfl rfl (fun B I w0 => ?_)
 refine S2 ?_; refine Obx ?_; refine Oas ?_; refine S4 ?_; refine Ofa ?_; refine Old ?_
 refine OL.popC rfl rfl rfl (POp.call (.mk' rfl rfl rfl rfl rfl) (eachP p.classes hs hc)) ?_
 refine Oas ?_; refine S3 ?_
 refine r1 2 (H) ?_
 exact ⟨by first | rfl | exact retI (by simp_all) | exact retB (by simp_all) | simp_all, rfl⟩
theorem speaks_step (f : Fact) (hf : smallA f = true) (ih : ∀ k ∈ f.kids, PCall Tryz.prog 203 [AV.fact k] (.i (speaksP k))) : PCall Tryz.prog 203 [AV.fact f] (.i (speaksP f)) := by
 intro H
 refine ACall.mk' (n := 35) Tryz.func203 rfl (by kernel_rfl) rfl rfl (fun B I w0 => ?_)
 rw [speaksP_eq]
 obtain ⟨ha1, ha2, hk⟩ := smallA_iff hf
 refine S2 ?_; refine Obx ?_; refine Oas ?_; refine S4 ?_; refine Oas ?_; refine S2 ?_
 refine CW.cutJ (fun st => st = ⟨[(3, .i (argB f)), (1, .ptr (Fcells f))], H⟩) ?_ ?_
 ·
  refine S2 ?_; refine Ofa ?_; refine Old ?_; refine Ocm ?_; refine Omv ?_; refine Pfa ?_; refine Pld ?_; refine Pcm ?_; refine Opk ?_; refine Omv ?_; refine Pfa ?_; refine Pld ?_
  refine Pcm ?_; refine Opk ?_; refine S2 ?_
  refine CW.cond rfl (fun h0 => ?_) (fun h0 => ?_)
  ·
   have ha : argB f = f.arg + 1 := by unfold argB; rw [if_pos (by simpa [or_assoc, and_assoc] using h0)]
   rw [ha] at ha1 ha2
   refine S1 ?_; refine Ofa ?_; refine Old ?_; refine Oar ?_; refine Oas ?_; refine S1 ?_
   refine Done.le 3 (y := .i (argB f)) rfl (AVle.eqI (by rw [ha])) ?_
   exact Done.cutJ rfl (by repeat (first | exact trivial | refine ⟨rfl, ?_⟩)) (by repeat (first | exact List.Sublist.refl _ | refine List.Sublist.cons _ ?_))
  ·
   have ha : argB f = 0 := by unfold argB; rw [if_neg (by simpa [or_assoc, and_assoc] using h0)]
   refine S1 ?_
   refine Done.le 3 (y := .i (argB f)) rfl (AVle.eqI (by rw [ha])) ?_
   exact Done.cutJ rfl (by repeat (first | exact trivial | refine ⟨rfl, ?_⟩)) (by repeat (first | exact List.Sublist.refl _ | refine List.Sublist.cons _ ?_))
 ·
  rintro _ rfl
  refine S3 ?_; refine Ofa ?_; refine Old ?_; refine Oln ?_; refine Omv ?_; refine S3 ?_
  refine CW.boundM (t := 23) rfl (fun hb23 => ?_)
  refine lj (fun m st => ∃ j : Nat, st = ⟨[(25, .i j), (24, .i f.kids.length), (23, AV.facts f.kids), (3, .i (speaksL (f.kids.take j) (argB f)))], H⟩ ∧ m = f.kids.length - j ∧ j ≤ f.kids.length) (⟨0, rfl, rfl, by omega⟩) ?_
  rintro m _ ⟨j, rfl, rfl, hj⟩
  refine S2 ?_; refine Ocm ?_; refine S3 ?_
  refine CW.cond rfl (fun h1 => ?_) (fun h1 => ?_)
  ·
   replace h1 := nm h1
   have hjl : j < f.kids.length := by omega
   have hkm := getD_memB hjl
   have hsn := speaksL_snoc (f.kids.getD j default) (f.kids.take j) (argB f)
   rw [take_getD hjl] at hsn
   refine S6 ?_; refine Oix ?_; refine Ola ?_
   refine OL.alC rfl rfl rfl rfl (fun b0 => ?_)
   refine Sto ?_; refine S3 ?_; refine Omv ?_; refine Ola ?_
   refine OL.popC rfl rfl rfl (POp.call (.mk' rfl rfl rfl rfl rfl) (ih _ hkm)) ?_
   refine OL.popC rfl rfl rfl (POp.max2 rfl rfl rfl rfl rfl rfl) ?_
   refine Oas ?_; refine S3 ?_
   refine CW.le 3 (y := .i (speaksL (f.kids.take (j + 1)) (argB f))) rfl (AVle.eqI (by rw [hsn, Int.max_def]; split <;> split <;> omega)) ?_
   refine S1 ?_; refine Oar ?_; refine Omv ?_; refine S1 ?_
   exact ag (⟨j + 1, rfl, rfl, by omega⟩)
  ·
   replace h1 := nm h1
   obtain rfl : j = f.kids.length := by omega
   rw [List.take_length]
   refine S7 ?_; refine Omv ?_; refine Oas ?_; refine S3 ?_
   refine r1 2 (H) ?_
   exact ⟨by rfl, rfl⟩
theorem worldB (p : Prog) (hs : p.classes.length ≤ 1000) (hc : ∀ c ∈ p.classes, c.parents.length ≤ 4000000 ∧ c.slots.length ≤ 1000) : PCall Tryz.prog 201 [AV.prog p] (.agg (Wcells (worldOf p))) := by
 intro H
 refine ACall.mk' (n := 32) Tryz.func201 rfl (by kernel_rfl) rfl rfl (fun B I w0 => ?_)
 refine S2 ?_; refine Obx ?_
 refine OL.alC rfl rfl rfl rfl (fun rb => ?_)
 refine S4 ?_; refine Ola ?_
 refine OL.popC rfl rfl rfl (POp.call (.mk' rfl rfl rfl rfl rfl) (graph p (by omega) (fun c h => (hc c h).1))) ?_
 refine Obd ?_
 refine OL.alC rfl rfl rfl rfl (fun wb => ?_)
 refine Sto ?_; refine S4 ?_
 refine CW.ownNilB (b := wb) (t := 151) 3 1 1 (by repeat (first | exact Upd.head _ _ _ | apply Upd.tail)) rfl rfl ?_
 refine S1 ?_; refine Ofa ?_; refine Old ?_; refine Oln ?_; refine Omv ?_; refine S3 ?_
 refine lj (fun m st => ∃ (i : Nat) (v : Value), st = ⟨[(12, .i i), (11, .i p.classes.length), (10, .sl 3 (p.classes.map clsA)), (3, .p wb 0), (2, .p rb 0)], .own 3 1 v :: .blk wb 151 [AV.intss (graphP p), .as (AV.ints (ownT p.classes i 0)) v] :: .blk rb 151 [.val (.slice none 0 0), .val (.slice none 0 0)] :: H⟩ ∧ m = p.classes.length - i ∧ i ≤ p.classes.length) (⟨0, _, rfl, rfl, by omega⟩) ?_
 rintro m _ ⟨i, v, rfl, rfl, hi⟩
 refine S2 ?_; refine Ocm ?_; refine S3 ?_
 refine CW.cond rfl (fun h0 => ?_) (fun h0 => ?_)
 ·
  replace h0 := nm h0
  have hil : i < p.classes.length := by omega
  have hcc := hc _ (getD_memB hil)
  obtain ⟨L, hL⟩ : ∃ L, L = p.classes.getD i default := ⟨_, rfl⟩
  rw [← hL] at hcc
  refine S6 ?_; refine Omv ?_
  refine OL.popC rfl rfl rfl ((by first | exact POp.ixM rfl rfl rfl rfl rfl hil | exact POp.ixI rfl rfl rfl rfl rfl hil)) ?_
  refine Ola ?_
  refine OL.alC rfl rfl rfl rfl (fun b2 => ?_)
  refine Oas ?_; refine Sto ?_; refine S3 ?_
  rw [← hL]
  refine S1 ?_; refine Ofa ?_; refine Old ?_; refine Oln ?_; refine Omv ?_; refine S3 ?_
  refine lj (fun m st => ∃ (k : Nat) (v : Value), st = ⟨[(20, .i k), (19, .i L.slots.length), (4, .i i), (12, .i i), (11, .i p.classes.length), (10, .sl 3 (p.classes.map clsA)), (3, .p wb 0), (2, .p rb 0)], .own 3 1 v :: .blk wb 151 [AV.intss (graphP p), .as (AV.ints (ownT p.classes i k)) v] :: .blk rb 151 [.val (.slice none 0 0), .val (.slice none 0 0)] :: H⟩ ∧ m = L.slots.length - k ∧ k ≤ L.slots.length) (⟨0, _, rfl, rfl, by omega⟩) ?_
  rintro m _ ⟨k, v, rfl, rfl, hk⟩
  refine S2 ?_; refine Ocm ?_; refine S3 ?_
  refine CW.cond rfl (fun h1 => ?_) (fun h1 => ?_)
  ·
   replace h1 := nm h1
   have hkl : k < L.slots.length := by omega
   refine S5 ?_; refine Ofa ?_; refine Old ?_; refine Omv ?_; refine Oar ?_
   refine OL.popC (x := .sl 1 [[.i ((i : Int) + 3)]]) rfl rfl rfl (POp.row rfl rfl (by first | rfl | simp_all [strip]) rfl rfl rfl rfl rfl rfl) ?_
   refine OL.appendC rfl rfl rfl rfl rfl rfl rfl rfl (AVle.refl _) (rfl) (fun v => by repeat (first | exact Upd.head _ _ _ | apply Upd.tail)) (by have := ownT_len (cs := p.classes) (i := i) k (fun c h => (hc c h).2); have h1000 := Nat.mul_le_mul_left 1000 hs; simp only [List.length_map, List.length_singleton, List.length_cons, List.length_nil]; omega) (by have := ownT_len (cs := p.classes) (i := i) k (fun c h => (hc c h).2); have h1000 := Nat.mul_le_mul_left 1000 hs; simp only [List.length_map, List.length_singleton, List.length_cons, List.length_nil]; omega) (fun v27 => ?_)
   refine Ofa ?_; refine Sto ?_; refine S4 ?_; refine Oar ?_; refine Omv ?_; refine S1 ?_
   exact ag (⟨k + 1, v27, by rw [ownT_snoc], rfl, hkl⟩)
  ·
   replace h1 := nm h1
   obtain rfl : k = L.slots.length := by omega
   refine S7 ?_; refine Oar ?_; refine Omv ?_; refine S1 ?_
   exact ag (⟨i + 1, v, by rw [ownT_next hil, ← hL], rfl, hil⟩)
 ·
  replace h0 := nm h0
  obtain rfl : i = p.classes.length := by omega
  rw [ownT_all]
  refine S7 ?_; refine Ola ?_; refine Sto ?_; refine S3 ?_
  refine Done.retR (rs := [.cell 2 151]) (H' := H) rfl ((by first | exact .cellA inferInstance rfl (by repeat (first | exact .head _ | refine .tail _ ?_)) rfl rfl (.nil) | exact .ptrA inferInstance rfl rfl (.nil))) (.cons (AVle.agg (.cons (.refl _) (.cons (AVle.asL _ _) .nil))) .nil) (by repeat (first | exact List.Sublist.refl _ | refine List.Sublist.cons _ ?_)) ?_
  exact ⟨by first | rfl | exact retI (by simp_all) | exact retB (by simp_all) | simp_all, rfl⟩
theorem take_getD {α : Type} [Inhabited α] {l : List α} {k : Nat} (h : k < l.length) : l.take k ++ [l.getD k default] = l.take (k + 1) := by
 rw [List.take_succ_eq_append_getElem h, List.getD_eq_getElem?_getD, List.getElem?_eq_getElem h]; rfl
theorem split_getD {α : Type} [Inhabited α] {l : List α} {k : Nat} (h : k < l.length) : l = l.take k ++ l.getD k default :: l.drop (k + 1) := by
 rw [List.getD_eq_getElem?_getD, List.getElem?_eq_getElem h]; simp
theorem b150 {B : Nat} {f : Fn} {fs cs : List AV} {F : List Ent → Prop} {J Jx : List Int → List Ent → Prop} (l : List Int) (hg : FindOk B Tryz.prog (.fn f fs cs) AV.i l F J Jx) (H Hx : List Ent) (hF : F Hx) (hJ : J [] H) :
  BCall B Tryz.prog 305 [.sl 1 (l.map fun n => [AV.i n]), .fn f fs cs] (H ++ Hx) (FoundAt J Jx l Hx) (fun _ _ => False) := by
 refine BCall.of (n := 19) Tryz.func305 rfl (by kernel_rfl) rfl rfl (fun I w0 => ?_)
 refine CW.boundM (t := 0) rfl (fun hb0 => ?_)
 refine S2 ?_; refine Oas ?_; refine S5 ?_; refine Omv ?_; refine Oln ?_; refine Omv ?_; refine S3 ?_
 refine lj (fun m st => ∃ (k : Nat) (H1 : List Ent), st = ⟨[(8, .i k), (7, .i l.length), (0, .sl 1 (l.map fun n => [AV.i n])), (1, .fn f fs cs)], H1 ++ Hx⟩ ∧ m = l.length - k ∧ k ≤ l.length ∧ J (l.take k) H1) (⟨0, H, rfl, rfl, by simp, hJ⟩) ?_
 rintro m _ ⟨k, H1, rfl, rfl, hk, hJ1⟩
 refine S2 ?_; refine Ocm ?_; refine S3 ?_
 refine CW.cond rfl (fun h0 => ?_) (fun h0 => ?_)
 ·
  replace h0 := nm h0
  refine S6 ?_; refine Omv ?_; refine Oas ?_; refine S4 ?_; refine Omv ?_; refine Omv ?_; refine Omv ?_; refine Oix ?_; refine Old ?_
  refine OL.vcallC rfl rfl rfl rfl rfl rfl rfl rfl (AVleL.refl _) (hg (l.take k) (l.getD k default) H1 Hx (by rw [take_getD (by omega)]; exact List.take_prefix _ _) hF hJ1) ?_
  rintro _ _ ⟨b, H2, rfl, rfl, hb1, hb2⟩
  rw [take_getD (by omega)] at hb1 hb2
  refine S2 ?_
  refine CW.cond rfl (fun h1 => ?_) (fun h1 => ?_)
  ·
   replace h1 := nm h1
   refine S2 ?_; refine Omv ?_; refine Oas ?_; refine S8 ?_
   refine Done.retR (rs := [.tmp 4]) rfl (.tmp rfl (.nil)) (AVleL.refl _) (by repeat (first | exact List.Sublist.refl _ | refine List.Sublist.cons _ ?_)) ?_
   exact ⟨H2, rfl, .inr ⟨l.take k, l.getD k default, l.drop (k + 1), split_getD (by omega), retI (by rw [List.length_take, Nat.min_eq_left (by omega)]), by rw [take_getD (by omega)]; exact hb2 h1⟩⟩
  ·
   replace h1 := nm h1
   refine S4 ?_; refine Oar ?_; refine Omv ?_; refine S1 ?_
   exact ag (⟨k + 1, H2, rfl, rfl, by omega, hb1 h1⟩)
 ·
  replace h0 := nm h0
  refine S7 ?_; refine Oas ?_; refine S3 ?_
  refine Done.retR (rs := [.tmp 4]) rfl (.tmp rfl (.nil)) (AVleL.refl _) (by repeat (first | exact List.Sublist.refl _ | refine List.Sublist.cons _ ?_)) ?_
  exact ⟨H1, rfl, .inl ⟨rfl, by have e : k = l.length := (by omega); rw [e, List.take_length] at hJ1; exact hJ1⟩⟩
theorem q150 {Hm : List Ent} {f : Fn} {fs cs : List AV} {p : Int → Bool} {l : List Int} (hg : PredOn Tryz.prog Hm (.fn f fs cs) AV.i l p) : QCallIn Tryz.prog Hm 305 [.sl 1 (l.map fun n => [AV.i n]), .fn f fs cs] (fun y => ∃ n : Int, y = .i n ∧ decide (n ≥ 0) = l.any p) :=
 find_pure (by kernel_rfl) (fun B F J Jx h H Hx hF hJ => b150 l h H Hx hF hJ) hg
theorem pi193 {Hm : List Ent} {f : Fn} {fs cs : List AV} {p : Int → Bool} {l : List Int} (hg : PredOn Tryz.prog Hm (.fn f fs cs) AV.i l p) : PCallIn Tryz.prog Hm 289 [.sl 1 (l.map fun n => [AV.i n]), .fn f fs cs] (.b (l.any p)) := by
 intro H hm
 refine ACall.mk' (n := 9) Tryz.func289 rfl (by kernel_rfl) rfl rfl (fun B I w0 => ?_)
 refine S2 ?_; refine Oas ?_; refine S4 ?_; refine Omv ?_; refine Omv ?_
 refine OL.qcallIn rfl rfl rfl (.mk' rfl rfl rfl rfl rfl) (q150 hg) hm (fun y hy => ?_)
 obtain ⟨n, rfl, hn⟩ := hy
 refine Ocm ?_; refine Oas ?_; refine S3 ?_
 refine r1 4 (H) ?_
 exact ⟨retB hn, rfl⟩
theorem pi194 {Hm : List Ent} {f : Fn} {fs cs : List AV} {p : Int → Bool} {l : List Int} (hg : PredOn Tryz.prog Hm (.fn f fs cs) AV.i l p) (x : Int) (hx : x ∈ l) : PCallIn Tryz.prog Hm 290 [AV.i x, .ptr [.fn f fs cs]] (.b (!p x)) := by
 intro H hm
 refine ACall.mk' (n := 8) Tryz.func290 rfl (by kernel_rfl) rfl rfl (fun B I w0 => ?_)
 refine S2 ?_; refine Oas ?_; refine S4 ?_; refine Old ?_; refine Omv ?_
 refine OL.vcallC rfl rfl rfl rfl rfl rfl rfl rfl (AVleL.refl _) (hg x hx B H hm) ?_
 rintro _ Hn ⟨rfl, hH⟩
 have hH := hH.symm
 subst hH
 refine Ont ?_; refine Oas ?_; refine S3 ?_
 refine r1 3 (H) ?_
 exact ⟨by first | rfl | exact retI (by simp_all) | exact retB (by simp_all) | simp_all, rfl⟩
theorem pi152 {Hm : List Ent} {f : Fn} {fs cs : List AV} {p : Int → Bool} {l : List Int} (hg : PredOn Tryz.prog Hm (.fn f fs cs) AV.i l p) : PCallIn Tryz.prog Hm 274 [.sl 1 (l.map fun n => [AV.i n]), .fn f fs cs] (.b (l.all p)) := by
 intro H hm
 refine ACall.mk' (n := 9) Tryz.func274 rfl (by kernel_rfl) rfl rfl (fun B I w0 => ?_)
 refine S2 ?_; refine Obx ?_; refine Oas ?_; refine S4 ?_; refine Omv ?_; refine Omf ?_
 refine OL.popC rfl rfl rfl (POp.callIn (.mk' rfl rfl rfl rfl rfl) (AVleL.refl _) (pi193 (.of (fun x hx => pi194 hg x hx))) (fun e he => by repeat (first | exact hm e he | apply List.mem_cons_of_mem))) ?_
 refine Ont ?_; refine Oas ?_; refine S3 ?_
 refine r1 4 (H) ?_
 exact ⟨retB (by simp [List.not_any_eq_all_not]), rfl⟩
theorem p152 {f : Fn} {fs cs : List AV} {p : Int → Bool} (hg : PredOk Tryz.prog (.fn f fs cs) AV.i p) (l : List Int) : PCall Tryz.prog 274 [.sl 1 (l.map fun n => [AV.i n]), .fn f fs cs] (.b (l.all p)) := (pi152 (hg.on l)).pure
theorem b130 {B : Nat} {f : Fn} {fs cs : List AV} {F : List Ent → Prop} {J Jx : List Fact → List Ent → Prop} (l : List Fact) (hg : FindOk B Tryz.prog (.fn f fs cs) AV.fact l F J Jx) (H Hx : List Ent) (hF : F Hx) (hJ : J [] H) :
  BCall B Tryz.prog 306 [.sl 6 (encFs l), .fn f fs cs] (H ++ Hx) (FoundAt J Jx l Hx) (fun _ _ => False) := by
 refine BCall.of (n := 19) Tryz.func306 rfl (by kernel_rfl) rfl rfl (fun I w0 => ?_)
 refine CW.boundM (t := 0) rfl (fun hb0 => ?_)
 refine S2 ?_; refine Oas ?_; refine S5 ?_; refine Omv ?_; refine Oln ?_; refine Omv ?_; refine S3 ?_
 refine lj (fun m st => ∃ (k : Nat) (H1 : List Ent), st = ⟨[(8, .i k), (7, .i l.length), (0, .sl 6 (encFs l)), (1, .fn f fs cs)], H1 ++ Hx⟩ ∧ m = l.length - k ∧ k ≤ l.length ∧ J (l.take k) H1) (⟨0, H, rfl, rfl, by simp, hJ⟩) ?_
 rintro m _ ⟨k, H1, rfl, rfl, hk, hJ1⟩
 refine S2 ?_; refine Ocm ?_; refine S3 ?_
 refine CW.cond rfl (fun h0 => ?_) (fun h0 => ?_)
 ·
  replace h0 := nm h0
  refine S6 ?_; refine Omv ?_; refine Oas ?_; refine S4 ?_; refine Omv ?_; refine Omv ?_; refine Omv ?_; refine Oix ?_; refine Ola ?_
  refine OL.vcallC rfl rfl rfl rfl rfl rfl rfl rfl (AVleL.refl _) (hg (l.take k) (l.getD k default) H1 Hx (by rw [take_getD (by omega)]; exact List.take_prefix _ _) hF hJ1) ?_
  rintro _ _ ⟨b, H2, rfl, rfl, hb1, hb2⟩
  rw [take_getD (by omega)] at hb1 hb2
  refine S2 ?_
  refine CW.cond rfl (fun h1 => ?_) (fun h1 => ?_)
  ·
   replace h1 := nm h1
   refine S2 ?_; refine Omv ?_; refine Oas ?_; refine S8 ?_
   refine Done.retR (rs := [.tmp 4]) rfl (.tmp rfl (.nil)) (AVleL.refl _) (by repeat (first | exact List.Sublist.refl _ | refine List.Sublist.cons _ ?_)) ?_
   exact ⟨H2, rfl, .inr ⟨l.take k, l.getD k default, l.drop (k + 1), split_getD (by omega), retI (by rw [List.length_take, Nat.min_eq_left (by omega)]), by rw [take_getD (by omega)]; exact hb2 h1⟩⟩
  ·
   replace h1 := nm h1
   refine S4 ?_; refine Oar ?_; refine Omv ?_; refine S1 ?_
   exact ag (⟨k + 1, H2, rfl, rfl, by omega, hb1 h1⟩)
 ·
  replace h0 := nm h0
  refine S7 ?_; refine Oas ?_; refine S3 ?_
  refine Done.retR (rs := [.tmp 4]) rfl (.tmp rfl (.nil)) (AVleL.refl _) (by repeat (first | exact List.Sublist.refl _ | refine List.Sublist.cons _ ?_)) ?_
  exact ⟨H1, rfl, .inl ⟨rfl, by have e : k = l.length := (by omega); rw [e, List.take_length] at hJ1; exact hJ1⟩⟩
theorem p151 (s : Nat) (c : Int) (hc : 0 ≤ c ∧ c < 64) (hs : s < 18446744073709551616) : PCall Tryz.prog 273 [AV.set s, .i c] (AV.set (s ||| 2 ^ c.toNat)) := by
 intro H
 refine ACall.mk' (n := 9) Tryz.func273 rfl (by kernel_rfl) rfl rfl (fun B I w0 => ?_)
 refine S2 ?_; refine Oas ?_; refine S4 ?_; refine Omv ?_; refine Omv ?_
 refine OL.popC rfl rfl rfl (POp.shift rfl rfl rfl rfl rfl hc.1 (sh_left _ hc)) ?_
 refine OL.popC rfl rfl rfl (POp.bits rfl rfl rfl rfl rfl (bit_or _ _ hs (Nat.pow_lt_pow_right (a := 2) (n := 64) (by omega) (by omega)))) ?_
 refine Oas ?_; refine S3 ?_
 refine r1 4 (H) ?_
 exact ⟨by first | rfl | exact retI (by simp_all) | exact retB (by simp_all) | simp_all, rfl⟩
theorem p109 (b : Bool) : PCall Tryz.prog 230 [.b b] (.i (if b then 0 else 2)) := by
 intro H
 refine ACall.mk' (n := 5) Tryz.func230 rfl (by kernel_rfl) rfl rfl (fun B I w0 => ?_)
 refine S2 ?_; refine Oas ?_; refine S5 ?_; refine Omv ?_; refine Ont ?_; refine S2 ?_
 refine CW.cond rfl (fun h0 => ?_) (fun h0 => ?_)
 ·
  replace h0 := nm h0
  refine S2 ?_; refine Oas ?_; refine S4 ?_
  refine r1 2 (H) ?_
  exact ⟨retI (by simp_all), rfl⟩
 ·
  replace h0 := nm h0
  refine S4 ?_; refine Oas ?_; refine S3 ?_
  refine r1 2 (H) ?_
  exact ⟨retI (by simp_all), rfl⟩
theorem p134 (f : Fact) : PCall Tryz.prog 294 [AV.fact f] (.b (decide (2 ≤ f.op) && decide (f.op ≤ 4))) := by
 intro H
 refine ACall.mk' (n := 11) Tryz.func294 rfl (by kernel_rfl) rfl rfl (fun B I w0 => ?_)
 refine S2 ?_; refine Obx ?_; refine Oas ?_; refine S4 ?_; refine Ofa ?_; refine Old ?_; refine Ocm ?_; refine Omv ?_; refine Pfa ?_; refine Pld ?_; refine Pcm ?_; refine Opk ?_
 refine Oas ?_; refine S3 ?_
 refine r1 2 (H) ?_
 exact ⟨retB (by by_cases h : 2 ≤ f.op <;> simp [h]), rfl⟩
theorem p210 (op : Int) : PCall Tryz.prog 293 [.i op] (.i (if op = 5 then 1 else if op = 6 ∨ op = 7 then 2 else 0)) := by
 intro H
 refine ACall.mk' (n := 9) Tryz.func293 rfl (by kernel_rfl) rfl rfl (fun B I w0 => ?_)
 refine S2 ?_; refine Oas ?_; refine S5 ?_; refine Omv ?_; refine S5 ?_; refine Ocm ?_; refine Oas ?_; refine S2 ?_
 refine CW.cond rfl (fun h0 => ?_) (fun h0 => ?_)
 ·
  replace h0 := nm h0
  refine S2 ?_; refine Oas ?_; refine S5 ?_
  refine r1 2 (H) ?_
  exact ⟨by first | rfl | exact retI (by simp_all) | exact retB (by simp_all) | simp_all, rfl⟩
 ·
  replace h0 := nm h0
  refine S3 ?_; refine Ocm ?_; refine Oas ?_; refine S2 ?_
  refine CW.cond rfl (fun h1 => ?_) (fun h1 => ?_)
  ·
   replace h1 := nm h1
   refine S2 ?_
   refine CW.cond rfl (fun h2 => ?_) (fun h2 => ?_)
   ·
    replace h2 := nm h2
    refine S2 ?_; refine Oas ?_; refine S5 ?_
    refine r1 2 (H) ?_
    exact ⟨by first | rfl | exact retI (by simp_all) | exact retB (by simp_all) | simp_all, rfl⟩
   ·
    replace h2 := nm h2
    refine S5 ?_; refine Oas ?_; refine S3 ?_
    refine r1 2 (H) ?_
    exact ⟨by first | rfl | exact retI (by simp_all) | exact retB (by simp_all) | simp_all, rfl⟩
  ·
   replace h1 := nm h1
   refine S1 ?_; refine Ocm ?_; refine Oas ?_; refine S2 ?_
   refine CW.cond rfl (fun h3 => ?_) (fun h3 => ?_)
   ·
    replace h3 := nm h3
    refine S2 ?_; refine Oas ?_; refine S5 ?_
    refine r1 2 (H) ?_
    exact ⟨by first | rfl | exact retI (by simp_all) | exact retB (by simp_all) | simp_all, rfl⟩
   ·
    replace h3 := nm h3
    refine S5 ?_; refine Oas ?_; refine S3 ?_
    refine r1 2 (H) ?_
    exact ⟨by first | rfl | exact retI (by simp_all) | exact retB (by simp_all) | simp_all, rfl⟩
theorem p153 (W : FW) (c : Int) (hW : W.parents.length ≤ 60) : PCall Tryz.prog 275 [Wptr W, .i c] (.b (ownP W c)) := by
 intro H
 refine ACall.mk' (n := 18) Tryz.func275 rfl (by kernel_rfl) rfl rfl (fun B I w0 => ?_)
 unfold Wptr
 refine CW.boundP (t := 0) (i := 0) rfl rfl (fun hb => ?_)
 refine S2 ?_; refine Oas ?_; refine S4 ?_; refine Omv ?_; refine Ocm ?_; refine Omv ?_; refine Pmv ?_; refine Pmv ?_; refine Pnc ?_; refine Pfa ?_; refine Pfa ?_; refine Pld ?_
 refine Pln ?_; refine Par ?_; refine Pcm ?_; refine Opk ?_; refine Oas ?_; refine S3 ?_
 refine r1 4 (H) ?_
 exact ⟨retB (by unfold ownP; by_cases h : 3 ≤ c <;> simp [h]), rfl⟩
theorem p106 (W : FW) (c : Int) (hW : W.parents.length ≤ 60) : PCall Tryz.prog 296 [Wptr W, .i c] (.b (classP W c)) := by
 intro H
 refine ACall.mk' (n := 18) Tryz.func296 rfl (by kernel_rfl) rfl rfl (fun B I w0 => ?_)
 unfold Wptr
 refine CW.boundP (t := 0) (i := 0) rfl rfl (fun hb => ?_)
 refine S2 ?_; refine Oas ?_; refine S4 ?_; refine Omv ?_; refine Ocm ?_; refine Omv ?_; refine Pmv ?_; refine Pmv ?_; refine Pnc ?_; refine Pfa ?_; refine Pfa ?_; refine Pld ?_
 refine Pln ?_; refine Par ?_; refine Pcm ?_; refine Opk ?_; refine Oas ?_; refine S3 ?_
 refine r1 4 (H) ?_
 exact ⟨retB (by unfold classP; by_cases h : 0 ≤ c <;> simp [h]), rfl⟩
theorem p177 (W : FW) (c : Int) : PCall Tryz.prog 307 [Wptr W, .i c] (.b (slotP W c)) := by
 intro H
 refine ACall.mk' (n := 17) Tryz.func307 rfl (by kernel_rfl) rfl rfl (fun B I w0 => ?_)
 unfold Wptr
 refine S2 ?_; refine Oas ?_; refine S4 ?_; refine Omv ?_; refine Ocm ?_; refine Omv ?_; refine Pmv ?_; refine Pmv ?_; refine Pnc ?_; refine Pfa ?_; refine Pfa ?_; refine Pld ?_
 refine Pln ?_; refine Pcm ?_; refine Opk ?_; refine Oas ?_; refine S3 ?_
 refine r1 4 (H) ?_
 exact ⟨retB (by unfold slotP; by_cases h : 0 ≤ c <;> simp [h]), rfl⟩
end Go.Proofs.YtpgnjlngepfanaaGreat
