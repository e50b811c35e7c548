/- Part 5 of the proof: contracts of functions of the program and what they need. No condition beyond those that each theorem names. -/
import Derived.Test.YtiljpbljebfhnaaGreatFP4
import Derived.DeepKeys4
import Derived.Test.YtiljpbljebfhnaaGreatProg
import Derived.KernelRfl
namespace Go.Proofs.YtiljpbljebfhnaaGreat
open Go.Eng
theorem laidOut : laidOutB Tryz.prog = true := by kernel_rfl
instance : HasTy Tryz.prog 3 (false, 1) := ⟨by kernel_rfl⟩
instance : HasTy Tryz.prog 4 (false, 1) := ⟨by kernel_rfl⟩
instance : HasTy Tryz.prog 5 (false, 1) := ⟨by kernel_rfl⟩
instance : HasTy Tryz.prog 22 (false, 1) := ⟨by kernel_rfl⟩
instance : HasTy Tryz.prog 23 (false, 1) := ⟨by kernel_rfl⟩
instance : HasTy Tryz.prog 25 (true, 2) := ⟨by kernel_rfl⟩
instance : HasTy Tryz.prog 26 (false, 1) := ⟨by kernel_rfl⟩
instance : HasTy Tryz.prog 27 (false, 1) := ⟨by kernel_rfl⟩
instance : HasTy Tryz.prog 29 (true, 6) := ⟨by kernel_rfl⟩
instance : HasTy Tryz.prog 30 (false, 1) := ⟨by kernel_rfl⟩
instance : HasTy Tryz.prog 31 (false, 1) := ⟨by kernel_rfl⟩
instance : HasTy Tryz.prog 33 (true, 18) := ⟨by kernel_rfl⟩
instance : HasTy Tryz.prog 34 (false, 1) := ⟨by kernel_rfl⟩
instance : HasTy Tryz.prog 35 (false, 1) := ⟨by kernel_rfl⟩
instance : HasTy Tryz.prog 54 (false, 1) := ⟨by kernel_rfl⟩
instance : HasTy Tryz.prog 71 (true, 12) := ⟨by kernel_rfl⟩
instance : HasTy Tryz.prog 95 (false, 1) := ⟨by kernel_rfl⟩
instance : HasTy Tryz.prog 97 (true, 2) := ⟨by kernel_rfl⟩
instance : HasTy Tryz.prog 105 (false, 1) := ⟨by kernel_rfl⟩
instance : HasTy Tryz.prog 109 (false, 1) := ⟨by kernel_rfl⟩
instance : HasTy Tryz.prog 115 (false, 1) := ⟨by kernel_rfl⟩
instance : HasTy Tryz.prog 116 (false, 1) := ⟨by kernel_rfl⟩
instance : HasTy Tryz.prog 118 (true, 7) := ⟨by kernel_rfl⟩
instance : HasTy Tryz.prog 127 (false, 1) := ⟨by kernel_rfl⟩
instance : HasTy Tryz.prog 131 (false, 1) := ⟨by kernel_rfl⟩
instance : HasTy Tryz.prog 135 (false, 1) := ⟨by kernel_rfl⟩
instance : HasTy Tryz.prog 150 (false, 1) := ⟨by kernel_rfl⟩
instance : HasTy Tryz.prog 152 (false, 1) := ⟨by kernel_rfl⟩
instance : HasTy Tryz.prog 158 (true, 4) := ⟨by kernel_rfl⟩
instance : HasTy Tryz.prog 160 (true, 2) := ⟨by kernel_rfl⟩
instance : HasTy Tryz.prog 170 (false, 1) := ⟨by kernel_rfl⟩
instance : HasTy Tryz.prog 173 (true, 0) := ⟨by kernel_rfl⟩
instance : HasTy Tryz.prog 177 (true, 6) := ⟨by kernel_rfl⟩
instance : HasTy Tryz.prog 197 (false, 1) := ⟨by kernel_rfl⟩
instance : HasTy Tryz.prog 216 (false, 1) := ⟨by kernel_rfl⟩
instance : HasTy Tryz.prog 219 (false, 1) := ⟨by kernel_rfl⟩
instance : HasTy Tryz.prog 227 (false, 1) := ⟨by kernel_rfl⟩
instance : HasTy Tryz.prog 236 (false, 1) := ⟨by kernel_rfl⟩
instance : HasFld Tryz.prog 25 0 0 := ⟨by kernel_rfl⟩
instance : HasFld Tryz.prog 25 1 1 := ⟨by kernel_rfl⟩
instance : HasFld Tryz.prog 29 0 0 := ⟨by kernel_rfl⟩
instance : HasFld Tryz.prog 29 1 1 := ⟨by kernel_rfl⟩
instance : HasFld Tryz.prog 29 2 2 := ⟨by kernel_rfl⟩
instance : HasFld Tryz.prog 29 3 3 := ⟨by kernel_rfl⟩
instance : HasFld Tryz.prog 29 4 4 := ⟨by kernel_rfl⟩
instance : HasFld Tryz.prog 29 5 5 := ⟨by kernel_rfl⟩
instance : HasFld Tryz.prog 33 0 0 := ⟨by kernel_rfl⟩
instance : HasFld Tryz.prog 33 1 2 := ⟨by kernel_rfl⟩
instance : HasFld Tryz.prog 33 2 8 := ⟨by kernel_rfl⟩
instance : HasFld Tryz.prog 33 3 14 := ⟨by kernel_rfl⟩
instance : HasFld Tryz.prog 33 4 15 := ⟨by kernel_rfl⟩
instance : HasFld Tryz.prog 33 5 16 := ⟨by kernel_rfl⟩
instance : HasFld Tryz.prog 33 6 17 := ⟨by kernel_rfl⟩
instance : HasFld Tryz.prog 97 0 0 := ⟨by kernel_rfl⟩
instance : HasFld Tryz.prog 97 1 1 := ⟨by kernel_rfl⟩
instance : HasFld Tryz.prog 118 0 0 := ⟨by kernel_rfl⟩
instance : HasFld Tryz.prog 118 1 6 := ⟨by kernel_rfl⟩
instance : HasFld Tryz.prog 138 0 0 := ⟨by kernel_rfl⟩
instance : HasFld Tryz.prog 138 1 2 := ⟨by kernel_rfl⟩
instance : HasFld Tryz.prog 154 0 0 := ⟨by kernel_rfl⟩
instance : HasFld Tryz.prog 154 1 1 := ⟨by kernel_rfl⟩
instance : HasFld Tryz.prog 154 2 2 := ⟨by kernel_rfl⟩
instance : HasFld Tryz.prog 158 1 1 := ⟨by kernel_rfl⟩
instance : HasFld Tryz.prog 158 2 2 := ⟨by kernel_rfl⟩
instance : HasFld Tryz.prog 160 0 0 := ⟨by kernel_rfl⟩
instance : HasFld Tryz.prog 160 1 1 := ⟨by kernel_rfl⟩
instance : HasFld Tryz.prog 177 0 0 := ⟨by kernel_rfl⟩
instance : HasFld Tryz.prog 177 1 2 := ⟨by kernel_rfl⟩
instance : HasFld Tryz.prog 177 2 3 := ⟨by kernel_rfl⟩
instance : HasFld Tryz.prog 177 3 4 := ⟨by kernel_rfl⟩
instance : HasFld Tryz.prog 177 4 5 := ⟨by kernel_rfl⟩
instance : HasFld Tryz.prog 199 0 0 := ⟨by kernel_rfl⟩
instance : HasFld Tryz.prog 199 1 1 := ⟨by kernel_rfl⟩
instance : HasFld Tryz.prog 207 0 0 := ⟨by kernel_rfl⟩
instance : HasFld Tryz.prog 207 1 1 := ⟨by kernel_rfl⟩
instance : HasFld Tryz.prog 207 2 2 := ⟨by kernel_rfl⟩
instance : HasFld Tryz.prog 209 0 0 := ⟨by kernel_rfl⟩
instance : HasFld Tryz.prog 209 1 3 := ⟨by kernel_rfl⟩
instance : HasFld Tryz.prog 209 2 4 := ⟨by kernel_rfl⟩
instance : HasFld Tryz.prog 209 3 5 := ⟨by kernel_rfl⟩
instance : HasFld Tryz.prog 209 4 6 := ⟨by kernel_rfl⟩
instance : HasFld Tryz.prog 209 5 7 := ⟨by kernel_rfl⟩
instance : HasSl Tryz.prog 22 1 := ⟨by kernel_rfl⟩
instance : HasSl Tryz.prog 23 1 := ⟨by kernel_rfl⟩
instance : HasSl Tryz.prog 27 6 := ⟨by kernel_rfl⟩
instance : HasSl Tryz.prog 30 2 := ⟨by kernel_rfl⟩
instance : HasSl Tryz.prog 31 2 := ⟨by kernel_rfl⟩
instance : HasSl Tryz.prog 34 1 := ⟨by kernel_rfl⟩
instance : HasSl Tryz.prog 53 1 := ⟨by kernel_rfl⟩
instance : HasSl Tryz.prog 54 1 := ⟨by kernel_rfl⟩
instance : HasSl Tryz.prog 115 7 := ⟨by kernel_rfl⟩
instance : HasSl Tryz.prog 127 1 := ⟨by kernel_rfl⟩
instance : HasSl Tryz.prog 141 12 := ⟨by kernel_rfl⟩
instance : HasSl Tryz.prog 142 1 := ⟨by kernel_rfl⟩
instance : HasSl Tryz.prog 152 1 := ⟨by kernel_rfl⟩
instance : HasArr Tryz.prog 71 (2, 6) := ⟨by kernel_rfl⟩
instance : HasArr Tryz.prog 136 (63, 1) := ⟨by kernel_rfl⟩
instance : HasArr Tryz.prog 156 (2, 1) := ⟨by kernel_rfl⟩
instance : HasZero Tryz.prog 3 [.int .i64 0] := ⟨by kernel_rfl⟩
instance : HasZero Tryz.prog 4 [.bool false] := ⟨by kernel_rfl⟩
instance : HasZero Tryz.prog 25 [.slice none 0 0, .slice none 0 0] := ⟨by kernel_rfl⟩
instance : HasZero Tryz.prog 29 [.int .i64 0, .int .i64 0, .slice none 0 0, .int .i64 0, .int .i64 0, .slice none 0 0] := ⟨by kernel_rfl⟩
instance : HasZero Tryz.prog 30 [.slice none 0 0] := ⟨by kernel_rfl⟩
instance : HasZero Tryz.prog 31 [.slice none 0 0] := ⟨by kernel_rfl⟩
instance : HasZero Tryz.prog 34 [.slice none 0 0] := ⟨by kernel_rfl⟩
instance : HasZero Tryz.prog 35 [.int .i64 0] := ⟨by kernel_rfl⟩
instance : HasZero Tryz.prog 71 [.int .i64 0, .int .i64 0, .slice none 0 0, .int .i64 0, .int .i64 0, .slice none 0 0, .int .i64 0, .int .i64 0, .slice none 0 0, .int .i64 0, .int .i64 0, .slice none 0 0] := ⟨by kernel_rfl⟩
instance : HasZero Tryz.prog 97 [.int .i64 0, .int .i64 0] := ⟨by kernel_rfl⟩
instance : HasZero Tryz.prog 109 [.pointer none] := ⟨by kernel_rfl⟩
instance : HasZero Tryz.prog 118 [.int .i64 0, .int .i64 0, .slice none 0 0, .int .i64 0, .int .i64 0, .slice none 0 0, .bool false] := ⟨by kernel_rfl⟩
instance : HasZero Tryz.prog 127 [.slice none 0 0] := ⟨by kernel_rfl⟩
instance : HasZero Tryz.prog 158 [.int .i64 0, .int .i64 0, .int .i64 0, .int .i64 0] := ⟨by kernel_rfl⟩
instance : HasZero Tryz.prog 160 [.int .i64 0, .slice none 0 0] := ⟨by kernel_rfl⟩
instance : HasZero Tryz.prog 170 [.nilFunc] := ⟨by kernel_rfl⟩
instance : HasZero Tryz.prog 173 [] := ⟨by kernel_rfl⟩
instance : HasZero Tryz.prog 177 [.slice none 0 0, .slice none 0 0, .slice none 0 0, .int .i64 0, .slice none 0 0, .bool false] := ⟨by kernel_rfl⟩
instance : HasZero Tryz.prog 227 [.int .u64 0] := ⟨by kernel_rfl⟩
instance : IsB Tryz.prog 4 := ⟨by kernel_rfl⟩
instance : HasInt Tryz.prog 3 .i64 := ⟨by kernel_rfl⟩
instance : HasInt Tryz.prog 5 .u8 := ⟨by kernel_rfl⟩
instance : HasInt Tryz.prog 134 .u64 := ⟨by kernel_rfl⟩
instance : HasInt Tryz.prog 148 .u64 := ⟨by kernel_rfl⟩
instance : HasInt Tryz.prog 195 .u32 := ⟨by kernel_rfl⟩
instance : HasInt Tryz.prog 227 .u64 := ⟨by kernel_rfl⟩
theorem key158 : Go.Maps.Keyed Tryz.prog 158 := Go.Maps.Keyed.of_law (deep_law_laid laidOut (m := 3) (by omega) (of_decide_eq_true (by kernel_rfl)) (by kernel_rfl) (by kernel_rfl))
instance : HasMap Tryz.prog 197 (158, 210) := ⟨by kernel_rfl, key158, by kernel_rfl⟩
instance : HasBuild Tryz.prog 25 ([.slice none 0 0, .slice none 0 0], [(0, 1), (1, 1)]) := ⟨by kernel_rfl⟩
instance : HasBuild Tryz.prog 29 ([.int .i64 0, .int .i64 0, .slice none 0 0, .int .i64 0, .int .i64 0, .slice none 0 0], [(0, 1), (1, 1), (2, 1), (3, 1), (4, 1), (5, 1)]) := ⟨by kernel_rfl⟩
instance : HasBuild Tryz.prog 71 ([.int .i64 0, .int .i64 0, .slice none 0 0, .int .i64 0, .int .i64 0, .slice none 0 0, .int .i64 0, .int .i64 0, .slice none 0 0, .int .i64 0, .int .i64 0, .slice none 0 0], [(0, 6), (6, 6)]) := ⟨by kernel_rfl⟩
instance : HasBuild Tryz.prog 97 ([.int .i64 0, .int .i64 0], [(0, 1), (1, 1)]) := ⟨by kernel_rfl⟩
instance : HasBuild Tryz.prog 118 ([.int .i64 0, .int .i64 0, .slice none 0 0, .int .i64 0, .int .i64 0, .slice none 0 0, .bool false], [(0, 6), (6, 1)]) := ⟨by kernel_rfl⟩
instance : HasBuild Tryz.prog 138 ([.slice none 0 0, .slice none 0 0, .int .u64 0, .int .u64 0, .int .u64 0, .int .u64 0, .int .u64 0, .int .u64 0, .int .u64 0, .int .u64 0, .int .u64 0, .int .u64 0, .int .u64 0, .int .u64 0, .int .u64 0, .int .u64 0, .int .u64 0, .int .u64 0, .int .u64 0, .int .u64 0, .int .u64 0, .int .u64 0, .int .u64 0, .int .u64 0, .int .u64 0, .int .u64 0, .int .u64 0, .int .u64 0, .int .u64 0, .int .u64 0, .int .u64 0, .int .u64 0, .int .u64 0, .int .u64 0, .int .u64 0, .int .u64 0, .int .u64 0, .int .u64 0, .int .u64 0, .int .u64 0, .int .u64 0, .int .u64 0, .int .u64 0, .int .u64 0, .int .u64 0, .int .u64 0, .int .u64 0, .int .u64 0, .int .u64 0, .int .u64 0, .int .u64 0, .int .u64 0, .int .u64 0, .int .u64 0, .int .u64 0, .int .u64 0, .int .u64 0, .int .u64 0, .int .u64 0, .int .u64 0, .int .u64 0, .int .u64 0, .int .u64 0, .int .u64 0, .int .u64 0], [(0, 2), (2, 63)]) := ⟨by kernel_rfl⟩
instance : HasBuild Tryz.prog 154 ([.pointer none, .slice none 0 0, .slice none 0 0], [(0, 1), (1, 1), (2, 1)]) := ⟨by kernel_rfl⟩
instance : HasBuild Tryz.prog 158 ([.int .i64 0, .int .i64 0, .int .i64 0, .int .i64 0], [(0, 1), (1, 1), (2, 2)]) := ⟨by kernel_rfl⟩
instance : HasBuild Tryz.prog 160 ([.int .i64 0, .slice none 0 0], [(0, 1), (1, 1)]) := ⟨by kernel_rfl⟩
instance : HasBuild Tryz.prog 173 ([], []) := ⟨by kernel_rfl⟩
instance : HasBuild Tryz.prog 177 ([.slice none 0 0, .slice none 0 0, .slice none 0 0, .int .i64 0, .slice none 0 0, .bool false], [(0, 2), (2, 1), (3, 1), (4, 1), (5, 1)]) := ⟨by kernel_rfl⟩
instance : HasBuild Tryz.prog 199 ([.pointer none, .map none], [(0, 1), (1, 1)]) := ⟨by kernel_rfl⟩
instance : HasBuild Tryz.prog 207 ([.int .i64 0, .int .i64 0, .slice none 0 0], [(0, 1), (1, 1), (2, 1)]) := ⟨by kernel_rfl⟩
instance : HasBuild Tryz.prog 209 ([.int .i64 0, .int .i64 0, .slice none 0 0, .int .u64 0, .int .u64 0, .bool false, .bool false, .slice none 0 0], [(0, 3), (3, 1), (4, 1), (5, 1), (6, 1), (7, 1)]) := ⟨by kernel_rfl⟩
instance : HasRow Tryz.prog 22 (1, [.slice none 0 0]) := ⟨by kernel_rfl⟩
instance : HasRow Tryz.prog 23 (1, [.int .i64 0]) := ⟨by kernel_rfl⟩
instance : HasRow Tryz.prog 27 (6, [.int .i64 0, .int .i64 0, .slice none 0 0, .int .i64 0, .int .i64 0, .slice none 0 0]) := ⟨by kernel_rfl⟩
instance : HasRow Tryz.prog 30 (2, [.int .i64 0, .slice none 0 0]) := ⟨by kernel_rfl⟩
instance : HasRow Tryz.prog 31 (2, [.int .i64 0, .int .i64 0]) := ⟨by kernel_rfl⟩
instance : HasRow Tryz.prog 34 (1, [.slice none 0 0]) := ⟨by kernel_rfl⟩
instance : HasRow Tryz.prog 115 (7, [.int .i64 0, .int .i64 0, .slice none 0 0, .int .i64 0, .int .i64 0, .slice none 0 0, .bool false]) := ⟨by kernel_rfl⟩
instance : HasRow Tryz.prog 127 (1, [.slice none 0 0]) := ⟨by kernel_rfl⟩
instance : HasRow Tryz.prog 141 (12, [.int .i64 0, .int .i64 0, .slice none 0 0, .int .i64 0, .int .i64 0, .slice none 0 0, .int .i64 0, .int .i64 0, .slice none 0 0, .int .i64 0, .int .i64 0, .slice none 0 0]) := ⟨by kernel_rfl⟩
instance : HasRow Tryz.prog 152 (1, [.int .u64 0]) := ⟨by kernel_rfl⟩
instance : HasApp Tryz.prog 22 (23, 1, 24) := ⟨by kernel_rfl⟩
instance : HasApp Tryz.prog 23 (3, 1, 8) := ⟨by kernel_rfl⟩
instance : HasApp Tryz.prog 27 (29, 6, 80) := ⟨by kernel_rfl⟩
instance : HasApp Tryz.prog 30 (160, 2, 32) := ⟨by kernel_rfl⟩
instance : HasApp Tryz.prog 31 (97, 2, 16) := ⟨by kernel_rfl⟩
instance : HasApp Tryz.prog 34 (27, 1, 24) := ⟨by kernel_rfl⟩
instance : HasApp Tryz.prog 115 (118, 7, 88) := ⟨by kernel_rfl⟩
instance : HasApp Tryz.prog 127 (115, 1, 24) := ⟨by kernel_rfl⟩
instance : HasApp Tryz.prog 152 (135, 1, 8) := ⟨by kernel_rfl⟩
theorem mixed : Tryz.prog.follows .mixedOrders = true := by kernel_rfl
end Go.Proofs.YtiljpbljebfhnaaGreat

/- Facts, worlds: as plain Lean, and how they lie in memory. No condition. -/
set_option linter.unusedVariables false
namespace Go.Eng

abbrev AV.ints (l : List Int) : AV := .sl 1 (l.map fun n => [AV.i n])
abbrev AV.intss (l : List (List Int)) : AV := .sl 1 (l.map fun x => [AV.ints x])

theorem retB {a b : Bool} (h : a = b) : tupOf [AV.b a] = AV.b b := by subst h; rfl
theorem retI {a b : Int} (h : a = b) : tupOf [AV.i a] = AV.i b := by subst h; rfl
/-! ### bits of 64 -/
theorem bv64 (n : Nat) (h : n < 18446744073709551616) : (BitVec.ofInt IntKind.u64.bits (n : Int)).toNat = n := by
  simp [IntKind.bits]
  omega
theorem u64_wrap (n : Nat) (h : n < 18446744073709551616) : IntKind.u64.wrap (n : Int) = n := by
  simp only [IntKind.wrap, IntKind.bits, IntKind.signed]
  simp
  omega
theorem bit_or (s t : Nat) (hs : s < 18446744073709551616) (ht : t < 18446744073709551616) : bitI .or .u64 (s : Int) (t : Int) = some ((s ||| t : Nat) : Int) := by
  show some (IntKind.u64.wrap _) = _
  rw [BitVec.toNat_or, bv64 s hs, bv64 t ht, u64_wrap _ (Nat.or_lt_two_pow (n := 64) hs ht)]
theorem bit_and (s t : Nat) (hs : s < 18446744073709551616) (ht : t < 18446744073709551616) : bitI .and .u64 (s : Int) (t : Int) = some ((s &&& t : Nat) : Int) := by
  show some (IntKind.u64.wrap _) = _
  rw [BitVec.toNat_and, bv64 s hs, bv64 t ht, u64_wrap _ (Nat.lt_of_le_of_lt Nat.and_le_left hs)]
def andNotP (s t : Nat) : Nat := (BitVec.ofNat 64 s &&& ~~~BitVec.ofNat 64 t).toNat
theorem bit_andNot (s t : Nat) : bitI .andNot .u64 (s : Int) (t : Int) = some (andNotP s t : Int) := by
  show some (IntKind.u64.wrap _) = _
  have e : ∀ n : Nat, BitVec.ofInt IntKind.u64.bits (n : Int) = BitVec.ofNat 64 n := fun n => by simp [IntKind.bits]
  rw [e, e, u64_wrap _ (by exact BitVec.isLt (w := 64) _)]
  rfl
theorem sh_right (s : Nat) (c : Int) : shI .shr .u64 (s : Int) c = some ((s / 2 ^ min c.toNat 64 : Nat) : Int) := by
  show some ((s : Int).fdiv (2 ^ (min c.toNat 64))) = _
  congr 1
  have : ((2 : Int) ^ min c.toNat 64) = ((2 ^ min c.toNat 64 : Nat) : Int) := by simp
  rw [this]
  exact (Int.ofNat_fdiv _ _).symm
theorem sh_left (c : Int) (h : 0 ≤ c ∧ c < 64) : shI .shl .u64 1 c = some ((2 ^ c.toNat : Nat) : Int) := by
  show some (IntKind.u64.wrap _) = _
  have e : min c.toNat IntKind.u64.bits = c.toNat := Nat.min_eq_left (by simp [IntKind.bits]; omega)
  have h2 : (1 : Int) * 2 ^ (min c.toNat IntKind.u64.bits) = ((2 ^ c.toNat : Nat) : Int) := by rw [e]; simp
  rw [h2, u64_wrap _ (Nat.pow_lt_pow_right (a := 2) (n := 64) (by omega) (by omega))]
theorem has_bit (s : Nat) (c : Int) (hs : s < 18446744073709551616) : ((((s / 2 ^ min c.toNat 64) &&& 1 : Nat) : Int) == 1) = s.testBit c.toNat := by
  rw [Nat.and_one_is_mod]
  have key : s.testBit c.toNat = decide (s / 2 ^ min c.toNat 64 % 2 = 1) := by
    by_cases h : c.toNat ≤ 64
    · rw [Nat.min_eq_left h, Nat.testBit_eq_decide_div_mod_eq]
    · rw [Nat.min_eq_right (by omega), Nat.testBit_lt_two_pow (Nat.lt_of_lt_of_le hs (Nat.pow_le_pow_right (n := 2) (i := 64) (by omega) (by omega)))]
      rw [Nat.div_eq_of_lt (by omega)]
      simp
  rw [key]
  rcases Nat.mod_two_eq_zero_or_one (s / 2 ^ min c.toNat 64) with h | h <;> rw [h] <;> rfl

namespace Fc

inductive Fact where
  | mk (op arg : Int) (path : List Int) (cls n : Int) (kids : List Fact)

def Fact.op : Fact → Int | .mk x _ _ _ _ _ => x
def Fact.arg : Fact → Int | .mk _ x _ _ _ _ => x
def Fact.path : Fact → List Int | .mk _ _ x _ _ _ => x
def Fact.cls : Fact → Int | .mk _ _ _ x _ _ => x
def Fact.n : Fact → Int | .mk _ _ _ _ x _ => x
def Fact.kids : Fact → List Fact | .mk _ _ _ _ _ x => x
instance : Inhabited Fact := ⟨.mk 0 0 [] 0 0 []⟩

mutual
def encF : Fact → List AV
  | .mk op arg path cls n kids => [.i op, .i arg, AV.ints path, .i cls, .i n, .sl 6 (encFs kids)]
def encFs : List Fact → List (List AV)
  | [] => []
  | f :: r => encF f :: encFs r
end
def Fcells (f : Fact) : List AV := [.i f.op, .i f.arg, AV.ints f.path, .i f.cls, .i f.n, .sl 6 (encFs f.kids)]
theorem encF_eq (f : Fact) : encF f = Fcells f := by cases f; rfl
theorem encFs_map : ∀ l : List Fact, encFs l = l.map Fcells
  | [] => rfl
  | f :: r => by rw [encFs, encF_eq, encFs_map r]; rfl
instance : MapLike encFs Fcells := ⟨encFs_map⟩
abbrev AV.facts (l : List Fact) : AV := .sl 6 (encFs l)
theorem AVle_facts {els : List (List AV)} (l : List Fact) (h : els = l.map Fcells) : AVle (.sl 6 els) (AV.facts l) := by subst h; rw [← encFs_map]; exact .refl _
abbrev AV.fact (f : Fact) : AV := .agg (Fcells f)

mutual
def Fact.eqb : Fact → Fact → Bool
  | .mk a b c d e f, .mk a' b' c' d' e' f' => a == a' && b == b' && d == d' && e == e' && c == c' && Fact.eqbs f f'
def Fact.eqbs : List Fact → List Fact → Bool
  | [], [] => true
  | x :: r, y :: s => Fact.eqb x y && Fact.eqbs r s
  | _, _ => false
end
mutual
theorem Fact.eqb_iff : ∀ x y : Fact, Fact.eqb x y = true ↔ x = y
  | .mk a b c d e f, .mk a' b' c' d' e' f' => by
    rw [Fact.eqb]
    simp only [Bool.and_eq_true, beq_iff_eq, Fact.eqbs_iff f f', Fact.mk.injEq]
    constructor
    · rintro ⟨⟨⟨⟨⟨h1, h2⟩, h3⟩, h4⟩, h5⟩, h6⟩; exact ⟨h1, h2, h5, h3, h4, h6⟩
    · rintro ⟨h1, h2, h5, h3, h4, h6⟩; exact ⟨⟨⟨⟨⟨h1, h2⟩, h3⟩, h4⟩, h5⟩, h6⟩
theorem Fact.eqbs_iff : ∀ x y : List Fact, Fact.eqbs x y = true ↔ x = y
  | [], [] => by simp [Fact.eqbs]
  | [], _ :: _ => by simp [Fact.eqbs]
  | _ :: _, [] => by simp [Fact.eqbs]
  | x :: r, y :: s => by
    rw [Fact.eqbs]
    simp only [Bool.and_eq_true, Fact.eqb_iff x y, Fact.eqbs_iff r s, List.cons.injEq]
end
instance : BEq Fact := ⟨Fact.eqb⟩
instance : LawfulBEq Fact where
  eq_of_beq h := (Fact.eqb_iff _ _).1 h
  rfl := (Fact.eqb_iff _ _).2 rfl
instance : DecidableEq Fact := fun a b => if h : Fact.eqb a b = true then isTrue ((Fact.eqb_iff a b).1 h) else isFalse fun e => h ((Fact.eqb_iff a b).2 e)
theorem Fact.ext' {x y : Fact} (h1 : x.op = y.op) (h2 : x.arg = y.arg) (h3 : x.path = y.path) (h4 : x.cls = y.cls) (h5 : x.n = y.n) (h6 : x.kids = y.kids) : x = y := by
  cases x; cases y; simp only [Fact.op, Fact.arg, Fact.path, Fact.cls, Fact.n, Fact.kids] at *; subst_vars; rfl

mutual
theorem Fact.ind1 {P : Fact → Prop} (h : ∀ f, (∀ k ∈ f.kids, P k) → P f) : ∀ f, P f
  | .mk a b c d e f => h _ (Fact.ind2 h f)
theorem Fact.ind2 {P : Fact → Prop} (h : ∀ f, (∀ k ∈ f.kids, P k) → P f) : ∀ l : List Fact, ∀ k ∈ l, P k
  | [], _, hk => by cases hk
  | x :: r, k, hk => by
    rcases List.mem_cons.1 hk with e | hk
    · rw [e]; exact Fact.ind1 h x
    · exact Fact.ind2 h r k hk
end

mutual
def smallB : Fact → Bool
  | .mk _ _ path _ _ kids => decide (path.length ≤ 1000) && decide (kids.length ≤ 1000) && smallBs kids
def smallBs : List Fact → Bool
  | [] => true
  | f :: r => smallB f && smallBs r
end
theorem smallBs_mem : ∀ {l : List Fact}, smallBs l = true → ∀ k ∈ l, smallB k = true
  | [], _, k, hk => by cases hk
  | x :: r, h, k, hk => by
    rw [smallBs, Bool.and_eq_true] at h
    rcases List.mem_cons.1 hk with e | hk
    · rw [e]; exact h.1
    · exact smallBs_mem h.2 k hk
theorem small_path {f : Fact} (h : smallB f = true) : f.path.length ≤ 1000 := by cases f; rw [smallB] at h; simp at h; exact h.1.1
theorem small_kids {f : Fact} (h : smallB f = true) : f.kids.length ≤ 1000 := by cases f; rw [smallB] at h; simp at h; exact h.1.2
theorem small_kid {f : Fact} (h : smallB f = true) : ∀ k ∈ f.kids, smallB k = true := by
  cases f; rw [smallB] at h; simp only [Bool.and_eq_true] at h; exact smallBs_mem h.2

/-- a literal, as it lies in memory -/
structure FLit where
  f : Fact
  neg : Bool
def Lcells (l : FLit) : List AV := [.i l.f.op, .i l.f.arg, AV.ints l.f.path, .i l.f.cls, .i l.f.n, .sl 6 (encFs l.f.kids), .b l.neg]
instance : Inhabited FLit := ⟨default, false⟩
abbrev AV.lit (l : FLit) : AV := .agg (Lcells l)
abbrev AV.lits (l : List FLit) : AV := .sl 7 (l.map Lcells)

structure FW where
  parents : List (List Int)
  owner : List Int
def Wcells (w : FW) : List AV := [AV.intss w.parents, AV.ints w.owner]
abbrev AV.set (s : Nat) : AV := .val (.int .u64 (s : Int))

/-! ### what the program computes: worlds -/
def ownP (w : FW) (c : Int) : Bool := decide (3 ≤ c) && decide (c < 3 + w.parents.length)
def classP (w : FW) (c : Int) : Bool := decide (0 ≤ c) && decide (c < 3 + w.parents.length)
def slotP (w : FW) (s : Int) : Bool := decide (0 ≤ s) && decide (s < w.owner.length)
def upFold (U : List Nat) (i : Nat) (l : List Int) : Nat := l.foldl (fun s p => s ||| U.getD p.toNat 0) (1 ||| 2 ^ (3 + i))
def upsFrom : List (List Int) → Nat → List Nat → List Nat
  | [], _, U => U
  | l :: r, i, U => upsFrom r (i + 1) (U.set (3 + i) (upFold U i l))
def upsP (w : FW) : List Nat := upsFrom w.parents 0 ([1, 3, 5] ++ List.replicate 60 0)
/-- the parents of class number i are lesser ones, each once -/
def parentsP (i : Nat) : List Int → List Int → Bool
  | _, [] => true
  | seen, p :: r => !(decide (p < 3) || decide (p ≥ 3 + i) || seen.contains p) && parentsP i (seen ++ [p]) r
def parentssP : Nat → List (List Int) → Bool
  | _, [] => true
  | i, l :: r => parentsP i [] l && parentssP (i + 1) r
def worldP (w : FW) : Bool := decide (w.parents.length ≤ 60) && decide (w.owner.length ≤ 40) && parentssP 0 w.parents && w.owner.all (ownP w)
def Wptr (w : FW) : AV := .ptr (Wcells w ++ (upsP w).map fun s => AV.set s)

abbrev AV.world (w : FW) : AV := .agg (Wcells w)

/-! ### what the program computes: formed facts -/
def kidsP (op : Int) : Int := if op = 5 then 1 else if op = 6 ∨ op = 7 then 2 else 0
def leafP (f : Fact) : Bool := decide (2 ≤ f.op) && decide (f.op ≤ 4)
def pathP (w : FW) (l : List Int) : Bool := decide (l.length ≤ 2) && l.all (slotP w)
def badP (f : Fact) (left deep : Int) : Bool := decide (left < 0) || (deep == 0) || decide (f.op < 1) || decide (f.op > 7) || ((f.kids.length : Int) != kidsP f.op)
/-- what is asked of the node itself, where it is no leaf -/
def plainP (f : Fact) : Bool := !((f.arg != 0) || decide ((f.path.length : Int) > 0) || (f.cls != 0) || (f.n != 0))
def argP (w : FW) (f : Fact) : Bool := !(decide (f.arg < 0) || decide (f.arg ≥ 3) || !pathP w f.path)
def leafOkP (w : FW) (f : Fact) : Bool := if f.op = 2 then (f.n == 0) && classP w f.cls else (f.cls == 0) && decide (f.n ≥ -1000000000) && decide (f.n ≤ 1000000000)
mutual
def nodeP (w : FW) : Fact → Int → Int → Bool × Int
  | .mk op arg path cls n kids, left, deep =>
    if badP (.mk op arg path cls n kids) (left - 1) deep then (false, left - 1)
    else if leafP (.mk op arg path cls n kids) then (argP w (.mk op arg path cls n kids) && leafOkP w (.mk op arg path cls n kids), left - 1)
    else if plainP (.mk op arg path cls n kids) then nodesP w kids (left - 1) (deep - 1)
    else (false, left - 1)
def nodesP (w : FW) : List Fact → Int → Int → Bool × Int
  | [], left, _ => (true, left)
  | k :: r, left, deep => if (nodeP w k left deep).1 then nodesP w r (nodeP w k left deep).2 deep else nodeP w k left deep
end
theorem nodeP_eq (w : FW) (f : Fact) (left deep : Int) : nodeP w f left deep = if badP f (left - 1) deep then (false, left - 1) else if leafP f then (argP w f && leafOkP w f, left - 1) else if plainP f then nodesP w f.kids (left - 1) (deep - 1) else (false, left - 1) := by
  cases f; rw [nodeP]; rfl
def formedP (w : FW) (f : Fact) : Bool := (nodeP w f 24 12).1

theorem nodesP_snoc (w : FW) (deep : Int) (x : Fact) : ∀ (l : List Fact) (left : Int), (nodesP w l left deep).1 = true → nodesP w (l ++ [x]) left deep = nodeP w x (nodesP w l left deep).2 deep
  | [], left, h => by
    show nodesP w [x] left deep = _
    rw [nodesP, nodesP, nodesP]
    by_cases hx : (nodeP w x left deep).1 = true
    · rw [if_pos hx]; exact Prod.ext hx.symm rfl
    · rw [if_neg hx]
  | k :: r, left, h => by
    rw [nodesP] at h
    show nodesP w (k :: (r ++ [x])) left deep = _
    rw [nodesP]
    by_cases hk : (nodeP w k left deep).1 = true
    · rw [if_pos hk] at h
      rw [if_pos hk, nodesP_snoc w deep x r _ h, nodesP, if_pos hk]
    · rw [if_neg hk] at h; exact absurd h hk
theorem nodesP_stop (w : FW) (deep : Int) (y : List Fact) : ∀ (l : List Fact) (left : Int), (nodesP w l left deep).1 = false → nodesP w (l ++ y) left deep = nodesP w l left deep
  | [], left, h => by rw [nodesP] at h; cases h
  | k :: r, left, h => by
    rw [nodesP] at h
    show nodesP w (k :: (r ++ y)) left deep = _
    rw [nodesP, nodesP]
    by_cases hk : (nodeP w k left deep).1 = true
    · rw [if_pos hk] at h
      rw [if_pos hk, if_pos hk, nodesP_stop w deep y r _ h]
    · rw [if_neg hk, if_neg hk]
mutual
theorem nodeP_left (w : FW) : ∀ (f : Fact) (left deep : Int), (nodeP w f left deep).2 ≤ left ∧ ((nodeP w f left deep).1 = true → 0 ≤ (nodeP w f left deep).2)
  | .mk op arg path cls n kids, left, deep => by
    rw [nodeP]
    by_cases h1 : badP (.mk op arg path cls n kids) (left - 1) deep = true
    · rw [if_pos h1]; exact ⟨by simp; omega, by simp⟩
    · rw [if_neg h1]
      have hl : ¬ (left - 1 < 0) := by
        intro h; apply h1; simp [badP, h]
      by_cases h2 : leafP (.mk op arg path cls n kids) = true
      · rw [if_pos h2]; exact ⟨by simp; omega, fun _ => by simp; omega⟩
      · rw [if_neg h2]
        by_cases h3 : plainP (.mk op arg path cls n kids) = true
        · rw [if_pos h3]
          have := nodesP_left w kids (left - 1) (deep - 1) (by omega)
          exact ⟨by omega, this.2⟩
        · rw [if_neg h3]; exact ⟨by simp; omega, by simp⟩
theorem nodesP_left (w : FW) : ∀ (l : List Fact) (left deep : Int), 0 ≤ left → (nodesP w l left deep).2 ≤ left ∧ ((nodesP w l left deep).1 = true → 0 ≤ (nodesP w l left deep).2)
  | [], left, deep, h => by rw [nodesP]; exact ⟨by simp, fun _ => h⟩
  | k :: r, left, deep, h => by
    rw [nodesP]
    have hk := nodeP_left w k left deep
    by_cases h1 : (nodeP w k left deep).1 = true
    · rw [if_pos h1]
      have hr := nodesP_left w r (nodeP w k left deep).2 deep (hk.2 h1)
      exact ⟨by omega, hr.2⟩
    · rw [if_neg h1]; exact hk
end
end Fc
end Go.Eng

set_option linter.unusedVariables false
set_option linter.unusedSimpArgs false
set_option maxRecDepth 10000
namespace Go.Proofs.YtiljpbljebfhnaaGreat
open Go.Eng
open Go.Eng.Fc
theorem take_succ_eq {la lb : List Int} {k : Nat} (hl : la.length = lb.length) (hk : k < la.length) (hp : la.take k = lb.take k) (h : la.getD k default = lb.getD k default) : la.take (k + 1) = lb.take (k + 1) := by
  rw [List.take_succ_eq_append_getElem hk, List.take_succ_eq_append_getElem (hl ▸ hk), hp]
  rw [List.getD_eq_getElem?_getD, List.getD_eq_getElem?_getD, List.getElem?_eq_getElem hk, List.getElem?_eq_getElem (hl ▸ hk)] at h
  simp at h
  rw [h]
theorem eq_end {la lb : List Int} {k : Nat} (hk : k ≤ la.length) (h1 : (la.length : Int) ≤ k) (h0 : (la.length : Int) = lb.length) (hp : la.take k = lb.take k) : true = (la == lb) := by
  have e1 : k = la.length := by omega
  subst e1
  have e2 : la.length = lb.length := by omega
  rw [List.take_length, e2, List.take_length] at hp
  simp [hp]
theorem ne_of_getD {la lb : List Int} {k : Nat} (h : la.getD k default ≠ lb.getD k default) : la ≠ lb := fun e => h (by rw [e])
theorem p97 (la lb : List Int) : PCall Tryz.prog 97 [AV.ints la, AV.ints lb] (.b (la == lb)) := by
  intro H
  refine ACall.mk' (n := 26) Tryz.func97 rfl (by kernel_rfl) rfl rfl (fun B I w0 => ?_)
  refine CW.boundM (t := 0) rfl (fun hb0 => ?_)
  refine CW.boundM (t := 1) rfl (fun hb1 => ?_)
  refine CW.seq ?_
  refine CW.region ?_
  refine OL.popC rfl rfl rfl (POp.assign rfl rfl rfl) ?_
  refine OL.nil ?_
  refine Done.seq ?_
  refine CW.seq ?_
  refine CW.seq ?_
  refine CW.region ?_
  refine OL.popC rfl rfl rfl (POp.move rfl rfl rfl) ?_
  refine OL.popC rfl rfl rfl ((by first | exact POp.lenM rfl rfl rfl | exact POp.lenA rfl rfl rfl | exact POp.lenV rfl rfl rfl | exact POp.len' rfl rfl rfl)) ?_
  refine OL.popC rfl rfl rfl (POp.move rfl rfl rfl) ?_
  refine OL.popC rfl rfl rfl ((by first | exact POp.lenM rfl rfl rfl | exact POp.lenA rfl rfl rfl | exact POp.lenV rfl rfl rfl | exact POp.len' rfl rfl rfl)) ?_
  refine OL.popC rfl rfl rfl (POp.cmp rfl rfl rfl rfl rfl rfl) ?_
  refine OL.nil ?_
  refine Done.seq ?_
  refine CW.cond rfl (fun h0 => ?_) (fun h0 => ?_)
  ·
    try simp only [decide_eq_true_eq, decide_eq_false_iff_not, beq_iff_eq, bne_iff_ne, ne_eq, Int.not_lt, Int.not_le, beq_eq_false_iff_ne, gt_iff_lt, ge_iff_le, Bool.not_eq_true, Bool.not_eq_false, Bool.not_eq_false', bne_eq_false_iff_eq] at h0
    refine CW.seq ?_
    refine CW.region ?_
    refine OL.popC rfl rfl rfl (POp.assign rfl rfl rfl) ?_
    refine OL.nil ?_
    refine Done.seq ?_
    refine CW.ret ?_
    refine Done.thenRet ?_
    refine Done.retR (rs := [.tmp 4]) (H' := H) rfl (.tmp rfl (.nil)) (AVleL.refl _) (by repeat (first | exact List.Sublist.refl _ | refine List.Sublist.cons _ ?_)) ?_
    exact ⟨retB (by symm; simp; intro e; subst e; simp at h0), rfl⟩
  ·
    try simp only [decide_eq_true_eq, decide_eq_false_iff_not, beq_iff_eq, bne_iff_ne, ne_eq, Int.not_lt, Int.not_le, beq_eq_false_iff_ne, gt_iff_lt, ge_iff_le, Bool.not_eq_true, Bool.not_eq_false, Bool.not_eq_false', bne_eq_false_iff_eq] at h0
    refine CW.skip ?_
    refine Done.seq ?_
    refine CW.seq ?_
    refine CW.seq ?_
    refine CW.region ?_
    refine OL.popC rfl rfl rfl (POp.move rfl rfl rfl) ?_
    refine OL.popC rfl rfl rfl ((by first | exact POp.lenM rfl rfl rfl | exact POp.lenA rfl rfl rfl | exact POp.lenV rfl rfl rfl | exact POp.len' rfl rfl rfl)) ?_
    refine OL.popC rfl rfl rfl (POp.move rfl rfl rfl) ?_
    refine OL.nil ?_
    refine Done.seq ?_
    refine CW.block ?_
    refine CW.loopJ (fun m st => ∃ k : Nat, st = ⟨[(13, .i k), (12, .i la.length), (0, AV.ints la), (1, AV.ints lb)], H⟩ ∧ m = la.length - k ∧ k ≤ la.length ∧ la.take k = lb.take k) ⟨_, _, ⟨0, rfl, rfl, by simp, rfl⟩, (by repeat (first | exact trivial | refine ⟨rfl, ?_⟩)), (by repeat (first | exact List.Sublist.refl _ | refine List.Sublist.cons _ ?_))⟩ ?_
    rintro m _ ⟨k, rfl, rfl, hk, hp⟩
    refine CW.seq ?_
    refine CW.region ?_
    refine OL.popC rfl rfl rfl (POp.cmp rfl rfl rfl rfl rfl rfl) ?_
    refine OL.nil ?_
    refine Done.seq ?_
    refine CW.seq ?_
    refine CW.cond rfl (fun h1 => ?_) (fun h1 => ?_)
    ·
      try simp only [decide_eq_true_eq, decide_eq_false_iff_not, beq_iff_eq, bne_iff_ne, ne_eq, Int.not_lt, Int.not_le, beq_eq_false_iff_ne, gt_iff_lt, ge_iff_le, Bool.not_eq_true, Bool.not_eq_false, Bool.not_eq_false', bne_eq_false_iff_eq] at h1
      refine CW.skip ?_
      refine Done.seq ?_
      refine CW.seq ?_
      refine CW.block ?_
      refine CW.seq ?_
      refine CW.region ?_
      refine OL.popC rfl rfl rfl (POp.move rfl rfl rfl) ?_
      refine OL.popC rfl rfl rfl (POp.assign rfl rfl rfl) ?_
      refine OL.nil ?_
      refine Done.seq ?_
      refine CW.seq ?_
      refine CW.dp mixed ?_
      refine DP.anyC 0 8 26 rfl (by decide +kernel) rfl rfl (by decide +kernel) ?_
      refine AD.popC rfl rfl rfl (POp.move rfl rfl rfl) ?_
      refine AD.popC rfl rfl rfl (POp.move rfl rfl rfl) ?_
      refine AD.popC rfl rfl rfl ((by first | exact POp.ixM rfl rfl rfl rfl rfl (by omega) | exact POp.ixI rfl rfl rfl rfl rfl (by omega))) ?_
      refine AD.popC rfl rfl rfl ((by first | exact POp.ld1 rfl rfl rfl rfl | (apply POp.ld1H rfl rfl rfl; (case hm => repeat (first | exact .head _ | refine .tail _ ?_)); (case hy => rfl)))) ?_
      refine AD.popC rfl rfl rfl (POp.move rfl rfl rfl) ?_
      refine AD.popC rfl rfl rfl (POp.move rfl rfl rfl) ?_
      refine AD.popC rfl rfl rfl ((by first | exact POp.ixM rfl rfl rfl rfl rfl (by omega) | exact POp.ixI rfl rfl rfl rfl rfl (by omega))) ?_
      refine AD.popC rfl rfl rfl ((by first | exact POp.ld1 rfl rfl rfl rfl | (apply POp.ld1H rfl rfl rfl; (case hm => repeat (first | exact .head _ | refine .tail _ ?_)); (case hy => rfl)))) ?_
      refine AD.nil ?_
      refine DP.tailC 8 (by decide +kernel) rfl ?_
      refine OL.popC rfl rfl rfl (POp.cmp rfl rfl rfl rfl rfl rfl) ?_
      refine OL.nil ?_
      refine Done.seq ?_
      refine CW.cond rfl (fun h2 => ?_) (fun h2 => ?_)
      ·
        try simp only [decide_eq_true_eq, decide_eq_false_iff_not, beq_iff_eq, bne_iff_ne, ne_eq, Int.not_lt, Int.not_le, beq_eq_false_iff_ne, gt_iff_lt, ge_iff_le, Bool.not_eq_true, Bool.not_eq_false, Bool.not_eq_false', bne_eq_false_iff_eq] at h2
        refine CW.seq ?_
        refine CW.region ?_
        refine OL.popC rfl rfl rfl (POp.assign rfl rfl rfl) ?_
        refine OL.nil ?_
        refine Done.seq ?_
        refine CW.ret ?_
        refine Done.blkRet ?_
        refine Done.thenRet ?_
        refine Done.thenRet ?_
        refine Done.blkRet ?_
        refine Done.thenRet ?_
        refine Done.retR (rs := [.tmp 4]) (H' := H) rfl (.tmp rfl (.nil)) (AVleL.refl _) (by repeat (first | exact List.Sublist.refl _ | refine List.Sublist.cons _ ?_)) ?_
        exact ⟨retB (by symm; simp; exact ne_of_getD h2), rfl⟩
      ·
        try simp only [decide_eq_true_eq, decide_eq_false_iff_not, beq_iff_eq, bne_iff_ne, ne_eq, Int.not_lt, Int.not_le, beq_eq_false_iff_ne, gt_iff_lt, ge_iff_le, Bool.not_eq_true, Bool.not_eq_false, Bool.not_eq_false', bne_eq_false_iff_eq] at h2
        refine CW.skip ?_
        refine Done.blkNormal ?_
        refine Done.seq ?_
        refine CW.region ?_
        refine OL.popC rfl rfl rfl (POp.arith rfl rfl rfl rfl rfl rfl (wrap64 (by omega))) ?_
        refine OL.popC rfl rfl rfl (POp.move rfl rfl rfl) ?_
        refine OL.nil ?_
        refine Done.againJ (⟨k + 1, rfl, rfl, by omega, take_succ_eq (by omega) (by omega) hp h2⟩) ?_ ?_ ?_
        · omega
        · repeat (first | exact trivial | refine ⟨rfl, ?_⟩)
        · repeat (first | exact List.Sublist.refl _ | refine List.Sublist.cons _ ?_)
    ·
      try simp only [decide_eq_true_eq, decide_eq_false_iff_not, beq_iff_eq, bne_iff_ne, ne_eq, Int.not_lt, Int.not_le, beq_eq_false_iff_ne, gt_iff_lt, ge_iff_le, Bool.not_eq_true, Bool.not_eq_false, Bool.not_eq_false', bne_eq_false_iff_eq] at h1
      refine CW.exit ?_
      refine Done.thenExit ?_
      refine Done.thenExit ?_
      refine Done.blkExit ?_
      refine Done.seq ?_
      refine CW.seq ?_
      refine CW.region ?_
      refine OL.popC rfl rfl rfl (POp.assign rfl rfl rfl) ?_
      refine OL.nil ?_
      refine Done.seq ?_
      refine CW.ret ?_
      refine Done.retR (rs := [.tmp 4]) (H' := H) rfl (.tmp rfl (.nil)) (AVleL.refl _) (by repeat (first | exact List.Sublist.refl _ | refine List.Sublist.cons _ ?_)) ?_
      exact ⟨retB (eq_end hk h1 h0 hp), rfl⟩
theorem p41 (la lb : List Int) : PCall Tryz.prog 41 [AV.ints la, AV.ints lb] (.b (la == lb)) := by
  intro H
  refine ACall.mk' (n := 26) Tryz.func41 rfl (by kernel_rfl) rfl rfl (fun B I w0 => ?_)
  refine CW.boundM (t := 0) rfl (fun hb0 => ?_)
  refine CW.boundM (t := 1) rfl (fun hb1 => ?_)
  refine CW.seq ?_
  refine CW.region ?_
  refine OL.popC rfl rfl rfl (POp.assign rfl rfl rfl) ?_
  refine OL.nil ?_
  refine Done.seq ?_
  refine CW.seq ?_
  refine CW.seq ?_
  refine CW.region ?_
  refine OL.popC rfl rfl rfl (POp.move rfl rfl rfl) ?_
  refine OL.popC rfl rfl rfl ((by first | exact POp.lenM rfl rfl rfl | exact POp.lenA rfl rfl rfl | exact POp.lenV rfl rfl rfl | exact POp.len' rfl rfl rfl)) ?_
  refine OL.popC rfl rfl rfl (POp.move rfl rfl rfl) ?_
  refine OL.popC rfl rfl rfl ((by first | exact POp.lenM rfl rfl rfl | exact POp.lenA rfl rfl rfl | exact POp.lenV rfl rfl rfl | exact POp.len' rfl rfl rfl)) ?_
  refine OL.popC rfl rfl rfl (POp.cmp rfl rfl rfl rfl rfl rfl) ?_
  refine OL.nil ?_
  refine Done.seq ?_
  refine CW.cond rfl (fun h0 => ?_) (fun h0 => ?_)
  ·
    try simp only [decide_eq_true_eq, decide_eq_false_iff_not, beq_iff_eq, bne_iff_ne, ne_eq, Int.not_lt, Int.not_le, beq_eq_false_iff_ne, gt_iff_lt, ge_iff_le, Bool.not_eq_true, Bool.not_eq_false, Bool.not_eq_false', bne_eq_false_iff_eq] at h0
    refine CW.seq ?_
    refine CW.region ?_
    refine OL.popC rfl rfl rfl (POp.assign rfl rfl rfl) ?_
    refine OL.nil ?_
    refine Done.seq ?_
    refine CW.ret ?_
    refine Done.thenRet ?_
    refine Done.retR (rs := [.tmp 4]) (H' := H) rfl (.tmp rfl (.nil)) (AVleL.refl _) (by repeat (first | exact List.Sublist.refl _ | refine List.Sublist.cons _ ?_)) ?_
    exact ⟨retB (by symm; simp; intro e; subst e; simp at h0), rfl⟩
  ·
    try simp only [decide_eq_true_eq, decide_eq_false_iff_not, beq_iff_eq, bne_iff_ne, ne_eq, Int.not_lt, Int.not_le, beq_eq_false_iff_ne, gt_iff_lt, ge_iff_le, Bool.not_eq_true, Bool.not_eq_false, Bool.not_eq_false', bne_eq_false_iff_eq] at h0
    refine CW.skip ?_
    refine Done.seq ?_
    refine CW.seq ?_
    refine CW.seq ?_
    refine CW.region ?_
    refine OL.popC rfl rfl rfl (POp.move rfl rfl rfl) ?_
    refine OL.popC rfl rfl rfl ((by first | exact POp.lenM rfl rfl rfl | exact POp.lenA rfl rfl rfl | exact POp.lenV rfl rfl rfl | exact POp.len' rfl rfl rfl)) ?_
    refine OL.popC rfl rfl rfl (POp.move rfl rfl rfl) ?_
    refine OL.nil ?_
    refine Done.seq ?_
    refine CW.block ?_
    refine CW.loopJ (fun m st => ∃ k : Nat, st = ⟨[(13, .i k), (12, .i la.length), (0, AV.ints la), (1, AV.ints lb)], H⟩ ∧ m = la.length - k ∧ k ≤ la.length ∧ la.take k = lb.take k) ⟨_, _, ⟨0, rfl, rfl, by simp, rfl⟩, (by repeat (first | exact trivial | refine ⟨rfl, ?_⟩)), (by repeat (first | exact List.Sublist.refl _ | refine List.Sublist.cons _ ?_))⟩ ?_
    rintro m _ ⟨k, rfl, rfl, hk, hp⟩
    refine CW.seq ?_
    refine CW.region ?_
    refine OL.popC rfl rfl rfl (POp.cmp rfl rfl rfl rfl rfl rfl) ?_
    refine OL.nil ?_
    refine Done.seq ?_
    refine CW.seq ?_
    refine CW.cond rfl (fun h1 => ?_) (fun h1 => ?_)
    ·
      try simp only [decide_eq_true_eq, decide_eq_false_iff_not, beq_iff_eq, bne_iff_ne, ne_eq, Int.not_lt, Int.not_le, beq_eq_false_iff_ne, gt_iff_lt, ge_iff_le, Bool.not_eq_true, Bool.not_eq_false, Bool.not_eq_false', bne_eq_false_iff_eq] at h1
      refine CW.skip ?_
      refine Done.seq ?_
      refine CW.seq ?_
      refine CW.block ?_
      refine CW.seq ?_
      refine CW.region ?_
      refine OL.popC rfl rfl rfl (POp.move rfl rfl rfl) ?_
      refine OL.popC rfl rfl rfl (POp.assign rfl rfl rfl) ?_
      refine OL.nil ?_
      refine Done.seq ?_
      refine CW.seq ?_
      refine CW.dp mixed ?_
      refine DP.anyC 0 8 26 rfl (by decide +kernel) rfl rfl (by decide +kernel) ?_
      refine AD.popC rfl rfl rfl (POp.move rfl rfl rfl) ?_
      refine AD.popC rfl rfl rfl (POp.move rfl rfl rfl) ?_
      refine AD.popC rfl rfl rfl ((by first | exact POp.ixM rfl rfl rfl rfl rfl (by omega) | exact POp.ixI rfl rfl rfl rfl rfl (by omega))) ?_
      refine AD.popC rfl rfl rfl ((by first | exact POp.ld1 rfl rfl rfl rfl | (apply POp.ld1H rfl rfl rfl; (case hm => repeat (first | exact .head _ | refine .tail _ ?_)); (case hy => rfl)))) ?_
      refine AD.popC rfl rfl rfl (POp.move rfl rfl rfl) ?_
      refine AD.popC rfl rfl rfl (POp.move rfl rfl rfl) ?_
      refine AD.popC rfl rfl rfl ((by first | exact POp.ixM rfl rfl rfl rfl rfl (by omega) | exact POp.ixI rfl rfl rfl rfl rfl (by omega))) ?_
      refine AD.popC rfl rfl rfl ((by first | exact POp.ld1 rfl rfl rfl rfl | (apply POp.ld1H rfl rfl rfl; (case hm => repeat (first | exact .head _ | refine .tail _ ?_)); (case hy => rfl)))) ?_
      refine AD.nil ?_
      refine DP.tailC 8 (by decide +kernel) rfl ?_
      refine OL.popC rfl rfl rfl (POp.cmp rfl rfl rfl rfl rfl rfl) ?_
      refine OL.nil ?_
      refine Done.seq ?_
      refine CW.cond rfl (fun h2 => ?_) (fun h2 => ?_)
      ·
        try simp only [decide_eq_true_eq, decide_eq_false_iff_not, beq_iff_eq, bne_iff_ne, ne_eq, Int.not_lt, Int.not_le, beq_eq_false_iff_ne, gt_iff_lt, ge_iff_le, Bool.not_eq_true, Bool.not_eq_false, Bool.not_eq_false', bne_eq_false_iff_eq] at h2
        refine CW.seq ?_
        refine CW.region ?_
        refine OL.popC rfl rfl rfl (POp.assign rfl rfl rfl) ?_
        refine OL.nil ?_
        refine Done.seq ?_
        refine CW.ret ?_
        refine Done.blkRet ?_
        refine Done.thenRet ?_
        refine Done.thenRet ?_
        refine Done.blkRet ?_
        refine Done.thenRet ?_
        refine Done.retR (rs := [.tmp 4]) (H' := H) rfl (.tmp rfl (.nil)) (AVleL.refl _) (by repeat (first | exact List.Sublist.refl _ | refine List.Sublist.cons _ ?_)) ?_
        exact ⟨retB (by symm; simp; exact ne_of_getD h2), rfl⟩
      ·
        try simp only [decide_eq_true_eq, decide_eq_false_iff_not, beq_iff_eq, bne_iff_ne, ne_eq, Int.not_lt, Int.not_le, beq_eq_false_iff_ne, gt_iff_lt, ge_iff_le, Bool.not_eq_true, Bool.not_eq_false, Bool.not_eq_false', bne_eq_false_iff_eq] at h2
        refine CW.skip ?_
        refine Done.blkNormal ?_
        refine Done.seq ?_
        refine CW.region ?_
        refine OL.popC rfl rfl rfl (POp.arith rfl rfl rfl rfl rfl rfl (wrap64 (by omega))) ?_
        refine OL.popC rfl rfl rfl (POp.move rfl rfl rfl) ?_
        refine OL.nil ?_
        refine Done.againJ (⟨k + 1, rfl, rfl, by omega, take_succ_eq (by omega) (by omega) hp h2⟩) ?_ ?_ ?_
        · omega
        · repeat (first | exact trivial | refine ⟨rfl, ?_⟩)
        · repeat (first | exact List.Sublist.refl _ | refine List.Sublist.cons _ ?_)
    ·
      try simp only [decide_eq_true_eq, decide_eq_false_iff_not, beq_iff_eq, bne_iff_ne, ne_eq, Int.not_lt, Int.not_le, beq_eq_false_iff_ne, gt_iff_lt, ge_iff_le, Bool.not_eq_true, Bool.not_eq_false, Bool.not_eq_false', bne_eq_false_iff_eq] at h1
      refine CW.exit ?_
      refine Done.thenExit ?_
      refine Done.thenExit ?_
      refine Done.blkExit ?_
      refine Done.seq ?_
      refine CW.seq ?_
      refine CW.region ?_
      refine OL.popC rfl rfl rfl (POp.assign rfl rfl rfl) ?_
      refine OL.nil ?_
      refine Done.seq ?_
      refine CW.ret ?_
      refine Done.retR (rs := [.tmp 4]) (H' := H) rfl (.tmp rfl (.nil)) (AVleL.refl _) (by repeat (first | exact List.Sublist.refl _ | refine List.Sublist.cons _ ?_)) ?_
      exact ⟨retB (eq_end hk h1 h0 hp), rfl⟩
end Go.Proofs.YtiljpbljebfhnaaGreat

set_option linter.unusedVariables false
set_option linter.unusedSimpArgs false
set_option maxRecDepth 10000
namespace Go.Proofs.YtiljpbljebfhnaaGreat
open Go.Eng
open Go.Eng.Fc
theorem take_getD {α : Type} [Inhabited α] {l : List α} {k : Nat} (h : k < l.length) : l.take k ++ [l.getD k default] = l.take (k + 1) := by
  rw [List.take_succ_eq_append_getElem h, List.getD_eq_getElem?_getD, List.getElem?_eq_getElem h]; rfl
theorem split_getD {α : Type} [Inhabited α] {l : List α} {k : Nat} (h : k < l.length) : l = l.take k ++ l.getD k default :: l.drop (k + 1) := by
  rw [List.getD_eq_getElem?_getD, List.getElem?_eq_getElem h]; simp
theorem b150 {B : Nat} {f : Fn} {fs cs : List AV} {F : List Ent → Prop} {J Jx : List Int → List Ent → Prop} (l : List Int) (hg : FindOk B Tryz.prog (.fn f fs cs) AV.i l F J Jx) (H Hx : List Ent) (hF : F Hx) (hJ : J [] H) :
    BCall B Tryz.prog 150 [.sl 1 (l.map fun n => [AV.i n]), .fn f fs cs] (H ++ Hx) (FoundAt J Jx l Hx) (fun _ => False) := by
  refine BCall.of (n := 19) Tryz.func150 rfl (by kernel_rfl) rfl rfl (fun I w0 => ?_)
  refine CW.boundM (t := 0) rfl (fun hb0 => ?_)
  refine CW.seq ?_
  refine CW.region ?_
  refine OL.popC rfl rfl rfl (POp.assign rfl rfl rfl) ?_
  refine OL.nil ?_
  refine Done.seq ?_
  refine CW.seq ?_
  refine CW.seq ?_
  refine CW.region ?_
  refine OL.popC rfl rfl rfl (POp.move rfl rfl rfl) ?_
  refine OL.popC rfl rfl rfl ((by first | exact POp.lenM rfl rfl rfl | exact POp.lenA rfl rfl rfl | exact POp.lenV rfl rfl rfl | exact POp.len' rfl rfl rfl)) ?_
  refine OL.popC rfl rfl rfl (POp.move rfl rfl rfl) ?_
  refine OL.nil ?_
  refine Done.seq ?_
  refine CW.block ?_
  refine CW.loopJ (fun m st => ∃ (k : Nat) (H1 : List Ent), st = ⟨[(8, .i k), (7, .i l.length), (0, .sl 1 (l.map fun n => [AV.i n])), (1, .fn f fs cs)], H1 ++ Hx⟩ ∧ m = l.length - k ∧ k ≤ l.length ∧ J (l.take k) H1) ⟨_, _, ⟨0, H, rfl, rfl, by simp, hJ⟩, (by repeat (first | exact trivial | refine ⟨rfl, ?_⟩)), (by repeat (first | exact List.Sublist.refl _ | refine List.Sublist.cons _ ?_))⟩ ?_
  rintro m _ ⟨k, H1, rfl, rfl, hk, hJ1⟩
  refine CW.seq ?_
  refine CW.region ?_
  refine OL.popC rfl rfl rfl (POp.cmp rfl rfl rfl rfl rfl rfl) ?_
  refine OL.nil ?_
  refine Done.seq ?_
  refine CW.seq ?_
  refine CW.cond rfl (fun h0 => ?_) (fun h0 => ?_)
  ·
    try simp only [decide_eq_true_eq, decide_eq_false_iff_not, beq_iff_eq, bne_iff_ne, ne_eq, Int.not_lt, Int.not_le, beq_eq_false_iff_ne, gt_iff_lt, ge_iff_le, Bool.not_eq_true, Bool.not_eq_false, Bool.not_eq_false', bne_eq_false_iff_eq] at h0
    refine CW.skip ?_
    refine Done.seq ?_
    refine CW.seq ?_
    refine CW.block ?_
    refine CW.seq ?_
    refine CW.region ?_
    refine OL.popC rfl rfl rfl (POp.move rfl rfl rfl) ?_
    refine OL.popC rfl rfl rfl (POp.assign rfl rfl rfl) ?_
    refine OL.nil ?_
    refine Done.seq ?_
    refine CW.seq ?_
    refine CW.region ?_
    refine OL.popC rfl rfl rfl (POp.move rfl rfl rfl) ?_
    refine OL.popC rfl rfl rfl (POp.move rfl rfl rfl) ?_
    refine OL.popC rfl rfl rfl (POp.move rfl rfl rfl) ?_
    refine OL.popC rfl rfl rfl ((by first | exact POp.ixM rfl rfl rfl rfl rfl (by omega) | exact POp.ixI rfl rfl rfl rfl rfl (by omega))) ?_
    refine OL.popC rfl rfl rfl ((by first | exact POp.ld1 rfl rfl rfl rfl | (apply POp.ld1H rfl rfl rfl; (case hm => repeat (first | exact .head _ | refine .tail _ ?_)); (case hy => rfl)))) ?_
    refine OL.vcallC rfl rfl rfl rfl rfl rfl rfl rfl (AVleL.refl _) (hg (l.take k) (l.getD k default) H1 Hx (by rw [take_getD (by omega)]; exact List.take_prefix _ _) hF hJ1) ?_
    rintro _ _ ⟨b, H2, rfl, rfl, hb1, hb2⟩
    rw [take_getD (by omega)] at hb1 hb2
    refine OL.nil ?_
    refine Done.seq ?_
    refine CW.cond rfl (fun h1 => ?_) (fun h1 => ?_)
    ·
      try simp only [decide_eq_true_eq, decide_eq_false_iff_not, beq_iff_eq, bne_iff_ne, ne_eq, Int.not_lt, Int.not_le, beq_eq_false_iff_ne, gt_iff_lt, ge_iff_le, Bool.not_eq_true, Bool.not_eq_false, Bool.not_eq_false', bne_eq_false_iff_eq] at h1
      refine CW.seq ?_
      refine CW.region ?_
      refine OL.popC rfl rfl rfl (POp.move rfl rfl rfl) ?_
      refine OL.popC rfl rfl rfl (POp.assign rfl rfl rfl) ?_
      refine OL.nil ?_
      refine Done.seq ?_
      refine CW.ret ?_
      refine Done.blkRet ?_
      refine Done.thenRet ?_
      refine Done.thenRet ?_
      refine Done.blkRet ?_
      refine Done.thenRet ?_
      refine Done.retR (rs := [.tmp 4]) rfl (.tmp rfl (.nil)) (AVleL.refl _) (by repeat (first | exact List.Sublist.refl _ | refine List.Sublist.cons _ ?_)) ?_
      exact ⟨H2, rfl, .inr ⟨l.take k, l.getD k default, l.drop (k + 1), split_getD (by omega), retI (by rw [List.length_take, Nat.min_eq_left (by omega)]), by rw [take_getD (by omega)]; exact hb2 h1⟩⟩
    ·
      try simp only [decide_eq_true_eq, decide_eq_false_iff_not, beq_iff_eq, bne_iff_ne, ne_eq, Int.not_lt, Int.not_le, beq_eq_false_iff_ne, gt_iff_lt, ge_iff_le, Bool.not_eq_true, Bool.not_eq_false, Bool.not_eq_false', bne_eq_false_iff_eq] at h1
      refine CW.skip ?_
      refine Done.blkNormal ?_
      refine Done.seq ?_
      refine CW.region ?_
      refine OL.popC rfl rfl rfl (POp.arith rfl rfl rfl rfl rfl rfl (wrap64 (by omega))) ?_
      refine OL.popC rfl rfl rfl (POp.move rfl rfl rfl) ?_
      refine OL.nil ?_
      refine Done.againJ (⟨k + 1, H2, rfl, rfl, by omega, hb1 h1⟩) ?_ ?_ ?_
      · omega
      · repeat (first | exact trivial | refine ⟨rfl, ?_⟩)
      · repeat (first | exact List.Sublist.refl _ | refine List.Sublist.cons _ ?_)
  ·
    try simp only [decide_eq_true_eq, decide_eq_false_iff_not, beq_iff_eq, bne_iff_ne, ne_eq, Int.not_lt, Int.not_le, beq_eq_false_iff_ne, gt_iff_lt, ge_iff_le, Bool.not_eq_true, Bool.not_eq_false, Bool.not_eq_false', bne_eq_false_iff_eq] at h0
    refine CW.exit ?_
    refine Done.thenExit ?_
    refine Done.thenExit ?_
    refine Done.blkExit ?_
    refine Done.seq ?_
    refine CW.seq ?_
    refine CW.region ?_
    refine OL.popC rfl rfl rfl (POp.assign rfl rfl rfl) ?_
    refine OL.nil ?_
    refine Done.seq ?_
    refine CW.ret ?_
    refine Done.retR (rs := [.tmp 4]) rfl (.tmp rfl (.nil)) (AVleL.refl _) (by repeat (first | exact List.Sublist.refl _ | refine List.Sublist.cons _ ?_)) ?_
    exact ⟨H1, rfl, .inl ⟨rfl, by have e : k = l.length := (by omega); rw [e, List.take_length] at hJ1; exact hJ1⟩⟩
theorem q150 {Hm : List Ent} {f : Fn} {fs cs : List AV} {p : Int → Bool} {l : List Int} (hg : PredOn Tryz.prog Hm (.fn f fs cs) AV.i l p) : QCallIn Tryz.prog Hm 150 [.sl 1 (l.map fun n => [AV.i n]), .fn f fs cs] (fun y => ∃ n : Int, y = .i n ∧ decide (n ≥ 0) = l.any p) :=
  find_pure (by kernel_rfl) (fun B F J Jx h H Hx hF hJ => b150 l h H Hx hF hJ) hg
theorem pi193 {Hm : List Ent} {f : Fn} {fs cs : List AV} {p : Int → Bool} {l : List Int} (hg : PredOn Tryz.prog Hm (.fn f fs cs) AV.i l p) : PCallIn Tryz.prog Hm 193 [.sl 1 (l.map fun n => [AV.i n]), .fn f fs cs] (.b (l.any p)) := by
  intro H hm
  refine ACall.mk' (n := 9) Tryz.func193 rfl (by kernel_rfl) rfl rfl (fun B I w0 => ?_)
  refine CW.seq ?_
  refine CW.region ?_
  refine OL.popC rfl rfl rfl (POp.assign rfl rfl rfl) ?_
  refine OL.nil ?_
  refine Done.seq ?_
  refine CW.seq ?_
  refine CW.region ?_
  refine OL.popC rfl rfl rfl (POp.move rfl rfl rfl) ?_
  refine OL.popC rfl rfl rfl (POp.move rfl rfl rfl) ?_
  refine OL.qcallIn rfl rfl rfl (.mk' rfl rfl rfl rfl rfl) (q150 hg) hm (fun y hy => ?_)
  obtain ⟨n, rfl, hn⟩ := hy
  refine OL.popC rfl rfl rfl (POp.cmp rfl rfl rfl rfl rfl rfl) ?_
  refine OL.popC rfl rfl rfl (POp.assign rfl rfl rfl) ?_
  refine OL.nil ?_
  refine Done.seq ?_
  refine CW.ret ?_
  refine Done.retR (rs := [.tmp 4]) (H' := H) rfl (.tmp rfl (.nil)) (AVleL.refl _) (by repeat (first | exact List.Sublist.refl _ | refine List.Sublist.cons _ ?_)) ?_
  exact ⟨retB hn, rfl⟩
theorem pi194 {Hm : List Ent} {f : Fn} {fs cs : List AV} {p : Int → Bool} {l : List Int} (hg : PredOn Tryz.prog Hm (.fn f fs cs) AV.i l p) (x : Int) (hx : x ∈ l) : PCallIn Tryz.prog Hm 194 [AV.i x, .ptr [.fn f fs cs]] (.b (!p x)) := by
  intro H hm
  refine ACall.mk' (n := 8) Tryz.func194 rfl (by kernel_rfl) rfl rfl (fun B I w0 => ?_)
  refine CW.seq ?_
  refine CW.region ?_
  refine OL.popC rfl rfl rfl (POp.assign rfl rfl rfl) ?_
  refine OL.nil ?_
  refine Done.seq ?_
  refine CW.seq ?_
  refine CW.region ?_
  refine OL.popC rfl rfl rfl ((by first | exact POp.ld1 rfl rfl rfl rfl | (apply POp.ld1H rfl rfl rfl; (case hm => repeat (first | exact .head _ | refine .tail _ ?_)); (case hy => rfl)))) ?_
  refine OL.popC rfl rfl rfl (POp.move rfl rfl rfl) ?_
  refine OL.vcallC rfl rfl rfl rfl rfl rfl rfl rfl (AVleL.refl _) (hg x hx B H hm) ?_
  rintro _ Hn ⟨rfl, hH⟩
  have hH := hH.symm
  subst hH
  refine OL.popC rfl rfl rfl (POp.not rfl rfl rfl) ?_
  refine OL.popC rfl rfl rfl (POp.assign rfl rfl rfl) ?_
  refine OL.nil ?_
  refine Done.seq ?_
  refine CW.ret ?_
  refine Done.retR (rs := [.tmp 3]) (H' := H) rfl (.tmp rfl (.nil)) (AVleL.refl _) (by repeat (first | exact List.Sublist.refl _ | refine List.Sublist.cons _ ?_)) ?_
  exact ⟨by first | rfl | exact retI (by simp_all) | exact retB (by simp_all) | simp_all, rfl⟩
theorem pi152 {Hm : List Ent} {f : Fn} {fs cs : List AV} {p : Int → Bool} {l : List Int} (hg : PredOn Tryz.prog Hm (.fn f fs cs) AV.i l p) : PCallIn Tryz.prog Hm 152 [.sl 1 (l.map fun n => [AV.i n]), .fn f fs cs] (.b (l.all p)) := by
  intro H hm
  refine ACall.mk' (n := 9) Tryz.func152 rfl (by kernel_rfl) rfl rfl (fun B I w0 => ?_)
  refine CW.seq ?_
  refine CW.region ?_
  refine OL.popC rfl rfl rfl (POp.boxI rfl rfl rfl rfl) ?_
  refine OL.popC rfl rfl rfl (POp.assign rfl rfl rfl) ?_
  refine OL.nil ?_
  refine Done.seq ?_
  refine CW.seq ?_
  refine CW.region ?_
  refine OL.popC rfl rfl rfl (POp.move rfl rfl rfl) ?_
  refine OL.popC rfl rfl rfl (POp.makeFunc rfl rfl rfl (by first | rfl | simp_all [strip]) (by first | rfl | simp_all [strip])) ?_
  refine OL.popC rfl rfl rfl (POp.callIn (.mk' rfl rfl rfl rfl rfl) (AVleL.refl _) (pi193 (.of (fun x hx => pi194 hg x hx))) (fun e he => by repeat (first | exact hm e he | apply List.mem_cons_of_mem))) ?_
  refine OL.popC rfl rfl rfl (POp.not rfl rfl rfl) ?_
  refine OL.popC rfl rfl rfl (POp.assign rfl rfl rfl) ?_
  refine OL.nil ?_
  refine Done.seq ?_
  refine CW.ret ?_
  refine Done.retR (rs := [.tmp 4]) (H' := H) rfl (.tmp rfl (.nil)) (AVleL.refl _) (by repeat (first | exact List.Sublist.refl _ | refine List.Sublist.cons _ ?_)) ?_
  exact ⟨retB (by simp [List.not_any_eq_all_not]), rfl⟩
theorem p152 {f : Fn} {fs cs : List AV} {p : Int → Bool} (hg : PredOk Tryz.prog (.fn f fs cs) AV.i p) (l : List Int) : PCall Tryz.prog 152 [.sl 1 (l.map fun n => [AV.i n]), .fn f fs cs] (.b (l.all p)) := (pi152 (hg.on l)).pure
theorem b130 {B : Nat} {f : Fn} {fs cs : List AV} {F : List Ent → Prop} {J Jx : List Fact → List Ent → Prop} (l : List Fact) (hg : FindOk B Tryz.prog (.fn f fs cs) AV.fact l F J Jx) (H Hx : List Ent) (hF : F Hx) (hJ : J [] H) :
    BCall B Tryz.prog 130 [.sl 6 (encFs l), .fn f fs cs] (H ++ Hx) (FoundAt J Jx l Hx) (fun _ => False) := by
  refine BCall.of (n := 19) Tryz.func130 rfl (by kernel_rfl) rfl rfl (fun I w0 => ?_)
  refine CW.boundM (t := 0) rfl (fun hb0 => ?_)
  refine CW.seq ?_
  refine CW.region ?_
  refine OL.popC rfl rfl rfl (POp.assign rfl rfl rfl) ?_
  refine OL.nil ?_
  refine Done.seq ?_
  refine CW.seq ?_
  refine CW.seq ?_
  refine CW.region ?_
  refine OL.popC rfl rfl rfl (POp.move rfl rfl rfl) ?_
  refine OL.popC rfl rfl rfl ((by first | exact POp.lenM rfl rfl rfl | exact POp.lenA rfl rfl rfl | exact POp.lenV rfl rfl rfl | exact POp.len' rfl rfl rfl)) ?_
  refine OL.popC rfl rfl rfl (POp.move rfl rfl rfl) ?_
  refine OL.nil ?_
  refine Done.seq ?_
  refine CW.block ?_
  refine CW.loopJ (fun m st => ∃ (k : Nat) (H1 : List Ent), st = ⟨[(8, .i k), (7, .i l.length), (0, .sl 6 (encFs l)), (1, .fn f fs cs)], H1 ++ Hx⟩ ∧ m = l.length - k ∧ k ≤ l.length ∧ J (l.take k) H1) ⟨_, _, ⟨0, H, rfl, rfl, by simp, hJ⟩, (by repeat (first | exact trivial | refine ⟨rfl, ?_⟩)), (by repeat (first | exact List.Sublist.refl _ | refine List.Sublist.cons _ ?_))⟩ ?_
  rintro m _ ⟨k, H1, rfl, rfl, hk, hJ1⟩
  refine CW.seq ?_
  refine CW.region ?_
  refine OL.popC rfl rfl rfl (POp.cmp rfl rfl rfl rfl rfl rfl) ?_
  refine OL.nil ?_
  refine Done.seq ?_
  refine CW.seq ?_
  refine CW.cond rfl (fun h0 => ?_) (fun h0 => ?_)
  ·
    try simp only [decide_eq_true_eq, decide_eq_false_iff_not, beq_iff_eq, bne_iff_ne, ne_eq, Int.not_lt, Int.not_le, beq_eq_false_iff_ne, gt_iff_lt, ge_iff_le, Bool.not_eq_true, Bool.not_eq_false, Bool.not_eq_false', bne_eq_false_iff_eq] at h0
    refine CW.skip ?_
    refine Done.seq ?_
    refine CW.seq ?_
    refine CW.block ?_
    refine CW.seq ?_
    refine CW.region ?_
    refine OL.popC rfl rfl rfl (POp.move rfl rfl rfl) ?_
    refine OL.popC rfl rfl rfl (POp.assign rfl rfl rfl) ?_
    refine OL.nil ?_
    refine Done.seq ?_
    refine CW.seq ?_
    refine CW.region ?_
    refine OL.popC rfl rfl rfl (POp.move rfl rfl rfl) ?_
    refine OL.popC rfl rfl rfl (POp.move rfl rfl rfl) ?_
    refine OL.popC rfl rfl rfl (POp.move rfl rfl rfl) ?_
    refine OL.popC rfl rfl rfl ((by first | exact POp.ixM rfl rfl rfl rfl rfl (by omega) | exact POp.ixI rfl rfl rfl rfl rfl (by omega))) ?_
    refine OL.popC rfl rfl rfl ((by first | exact POp.ldA rfl rfl rfl rfl | (apply POp.ldAH rfl rfl rfl; (case hm => repeat (first | exact .head _ | refine .tail _ ?_)); (case hy => rfl); (case hn => rfl)))) ?_
    refine OL.vcallC rfl rfl rfl rfl rfl rfl rfl rfl (AVleL.refl _) (hg (l.take k) (l.getD k default) H1 Hx (by rw [take_getD (by omega)]; exact List.take_prefix _ _) hF hJ1) ?_
    rintro _ _ ⟨b, H2, rfl, rfl, hb1, hb2⟩
    rw [take_getD (by omega)] at hb1 hb2
    refine OL.nil ?_
    refine Done.seq ?_
    refine CW.cond rfl (fun h1 => ?_) (fun h1 => ?_)
    ·
      try simp only [decide_eq_true_eq, decide_eq_false_iff_not, beq_iff_eq, bne_iff_ne, ne_eq, Int.not_lt, Int.not_le, beq_eq_false_iff_ne, gt_iff_lt, ge_iff_le, Bool.not_eq_true, Bool.not_eq_false, Bool.not_eq_false', bne_eq_false_iff_eq] at h1
      refine CW.seq ?_
      refine CW.region ?_
      refine OL.popC rfl rfl rfl (POp.move rfl rfl rfl) ?_
      refine OL.popC rfl rfl rfl (POp.assign rfl rfl rfl) ?_
      refine OL.nil ?_
      refine Done.seq ?_
      refine CW.ret ?_
      refine Done.blkRet ?_
      refine Done.thenRet ?_
      refine Done.thenRet ?_
      refine Done.blkRet ?_
      refine Done.thenRet ?_
      refine Done.retR (rs := [.tmp 4]) rfl (.tmp rfl (.nil)) (AVleL.refl _) (by repeat (first | exact List.Sublist.refl _ | refine List.Sublist.cons _ ?_)) ?_
      exact ⟨H2, rfl, .inr ⟨l.take k, l.getD k default, l.drop (k + 1), split_getD (by omega), retI (by rw [List.length_take, Nat.min_eq_left (by omega)]), by rw [take_getD (by omega)]; exact hb2 h1⟩⟩
    ·
      try simp only [decide_eq_true_eq, decide_eq_false_iff_not, beq_iff_eq, bne_iff_ne, ne_eq, Int.not_lt, Int.not_le, beq_eq_false_iff_ne, gt_iff_lt, ge_iff_le, Bool.not_eq_true, Bool.not_eq_false, Bool.not_eq_false', bne_eq_false_iff_eq] at h1
      refine CW.skip ?_
      refine Done.blkNormal ?_
      refine Done.seq ?_
      refine CW.region ?_
      refine OL.popC rfl rfl rfl (POp.arith rfl rfl rfl rfl rfl rfl (wrap64 (by omega))) ?_
      refine OL.popC rfl rfl rfl (POp.move rfl rfl rfl) ?_
      refine OL.nil ?_
      refine Done.againJ (⟨k + 1, H2, rfl, rfl, by omega, hb1 h1⟩) ?_ ?_ ?_
      · omega
      · repeat (first | exact trivial | refine ⟨rfl, ?_⟩)
      · repeat (first | exact List.Sublist.refl _ | refine List.Sublist.cons _ ?_)
  ·
    try simp only [decide_eq_true_eq, decide_eq_false_iff_not, beq_iff_eq, bne_iff_ne, ne_eq, Int.not_lt, Int.not_le, beq_eq_false_iff_ne, gt_iff_lt, ge_iff_le, Bool.not_eq_true, Bool.not_eq_false, Bool.not_eq_false', bne_eq_false_iff_eq] at h0
    refine CW.exit ?_
    refine Done.thenExit ?_
    refine Done.thenExit ?_
    refine Done.blkExit ?_
    refine Done.seq ?_
    refine CW.seq ?_
    refine CW.region ?_
    refine OL.popC rfl rfl rfl (POp.assign rfl rfl rfl) ?_
    refine OL.nil ?_
    refine Done.seq ?_
    refine CW.ret ?_
    refine Done.retR (rs := [.tmp 4]) rfl (.tmp rfl (.nil)) (AVleL.refl _) (by repeat (first | exact List.Sublist.refl _ | refine List.Sublist.cons _ ?_)) ?_
    exact ⟨H1, rfl, .inl ⟨rfl, by have e : k = l.length := (by omega); rw [e, List.take_length] at hJ1; exact hJ1⟩⟩
end Go.Proofs.YtiljpbljebfhnaaGreat

set_option linter.unusedVariables false
set_option linter.unusedSimpArgs false
set_option maxRecDepth 10000
namespace Go.Proofs.YtiljpbljebfhnaaGreat
open Go.Eng
open Go.Eng.Fc
theorem p107 (s : Nat) (c : Int) (hc : 0 ≤ c) (hs : s < 18446744073709551616) : PCall Tryz.prog 107 [AV.set s, .i c] (.b (s.testBit c.toNat)) := by
  intro H
  refine ACall.mk' (n := 10) Tryz.func107 rfl (by kernel_rfl) rfl rfl (fun B I w0 => ?_)
  refine CW.seq ?_
  refine CW.region ?_
  refine OL.popC rfl rfl rfl (POp.assign rfl rfl rfl) ?_
  refine OL.nil ?_
  refine Done.seq ?_
  refine CW.seq ?_
  refine CW.region ?_
  refine OL.popC rfl rfl rfl (POp.move rfl rfl rfl) ?_
  refine OL.popC rfl rfl rfl (POp.move rfl rfl rfl) ?_
  refine OL.popC rfl rfl rfl (POp.shift rfl rfl rfl rfl rfl hc (sh_right _ _)) ?_
  refine OL.popC rfl rfl rfl (POp.bits rfl rfl rfl rfl rfl (bit_and _ 1 (Nat.lt_of_le_of_lt (Nat.div_le_self _ _) hs) (by omega))) ?_
  refine OL.popC rfl rfl rfl (POp.cmp rfl rfl rfl rfl rfl rfl) ?_
  refine OL.popC rfl rfl rfl (POp.assign rfl rfl rfl) ?_
  refine OL.nil ?_
  refine Done.seq ?_
  refine CW.ret ?_
  refine Done.retR (rs := [.tmp 4]) (H' := H) rfl (.tmp rfl (.nil)) (AVleL.refl _) (by repeat (first | exact List.Sublist.refl _ | refine List.Sublist.cons _ ?_)) ?_
  exact ⟨retB (has_bit _ _ hs), rfl⟩
theorem p151 (s : Nat) (c : Int) (hc : 0 ≤ c ∧ c < 64) (hs : s < 18446744073709551616) : PCall Tryz.prog 151 [AV.set s, .i c] (AV.set (s ||| 2 ^ c.toNat)) := by
  intro H
  refine ACall.mk' (n := 9) Tryz.func151 rfl (by kernel_rfl) rfl rfl (fun B I w0 => ?_)
  refine CW.seq ?_
  refine CW.region ?_
  refine OL.popC rfl rfl rfl (POp.assign rfl rfl rfl) ?_
  refine OL.nil ?_
  refine Done.seq ?_
  refine CW.seq ?_
  refine CW.region ?_
  refine OL.popC rfl rfl rfl (POp.move rfl rfl rfl) ?_
  refine OL.popC rfl rfl rfl (POp.move rfl rfl rfl) ?_
  refine OL.popC rfl rfl rfl (POp.shift rfl rfl rfl rfl rfl hc.1 (sh_left _ hc)) ?_
  refine OL.popC rfl rfl rfl (POp.bits rfl rfl rfl rfl rfl (bit_or _ _ hs (Nat.pow_lt_pow_right (a := 2) (n := 64) (by omega) (by omega)))) ?_
  refine OL.popC rfl rfl rfl (POp.assign rfl rfl rfl) ?_
  refine OL.nil ?_
  refine Done.seq ?_
  refine CW.ret ?_
  refine Done.retR (rs := [.tmp 4]) (H' := H) rfl (.tmp rfl (.nil)) (AVleL.refl _) (by repeat (first | exact List.Sublist.refl _ | refine List.Sublist.cons _ ?_)) ?_
  exact ⟨by first | rfl | exact retI (by simp_all) | exact retB (by simp_all) | simp_all, rfl⟩
theorem p109 (b : Bool) : PCall Tryz.prog 109 [.b b] (.i (if b then 0 else 2)) := by
  intro H
  refine ACall.mk' (n := 5) Tryz.func109 rfl (by kernel_rfl) rfl rfl (fun B I w0 => ?_)
  refine CW.seq ?_
  refine CW.region ?_
  refine OL.popC rfl rfl rfl (POp.assign rfl rfl rfl) ?_
  refine OL.nil ?_
  refine Done.seq ?_
  refine CW.seq ?_
  refine CW.seq ?_
  refine CW.region ?_
  refine OL.popC rfl rfl rfl (POp.move rfl rfl rfl) ?_
  refine OL.popC rfl rfl rfl (POp.not rfl rfl rfl) ?_
  refine OL.nil ?_
  refine Done.seq ?_
  refine CW.cond rfl (fun h0 => ?_) (fun h0 => ?_)
  ·
    try simp only [decide_eq_true_eq, decide_eq_false_iff_not, beq_iff_eq, bne_iff_ne, ne_eq, Int.not_lt, Int.not_le, beq_eq_false_iff_ne, gt_iff_lt, ge_iff_le, Bool.not_eq_true, Bool.not_eq_false, Bool.not_eq_false', bne_eq_false_iff_eq] at h0
    refine CW.seq ?_
    refine CW.region ?_
    refine OL.popC rfl rfl rfl (POp.assign rfl rfl rfl) ?_
    refine OL.nil ?_
    refine Done.seq ?_
    refine CW.ret ?_
    refine Done.thenRet ?_
    refine Done.retR (rs := [.tmp 2]) (H' := H) rfl (.tmp rfl (.nil)) (AVleL.refl _) (by repeat (first | exact List.Sublist.refl _ | refine List.Sublist.cons _ ?_)) ?_
    exact ⟨retI (by simp_all), rfl⟩
  ·
    try simp only [decide_eq_true_eq, decide_eq_false_iff_not, beq_iff_eq, bne_iff_ne, ne_eq, Int.not_lt, Int.not_le, beq_eq_false_iff_ne, gt_iff_lt, ge_iff_le, Bool.not_eq_true, Bool.not_eq_false, Bool.not_eq_false', bne_eq_false_iff_eq] at h0
    refine CW.skip ?_
    refine Done.seq ?_
    refine CW.seq ?_
    refine CW.region ?_
    refine OL.popC rfl rfl rfl (POp.assign rfl rfl rfl) ?_
    refine OL.nil ?_
    refine Done.seq ?_
    refine CW.ret ?_
    refine Done.retR (rs := [.tmp 2]) (H' := H) rfl (.tmp rfl (.nil)) (AVleL.refl _) (by repeat (first | exact List.Sublist.refl _ | refine List.Sublist.cons _ ?_)) ?_
    exact ⟨retI (by simp_all), rfl⟩
theorem p134 (f : Fact) : PCall Tryz.prog 134 [AV.fact f] (.b (decide (2 ≤ f.op) && decide (f.op ≤ 4))) := by
  intro H
  refine ACall.mk' (n := 11) Tryz.func134 rfl (by kernel_rfl) rfl rfl (fun B I w0 => ?_)
  refine CW.seq ?_
  refine CW.region ?_
  refine OL.popC rfl rfl rfl (POp.boxI rfl rfl rfl rfl) ?_
  refine OL.popC rfl rfl rfl (POp.assign rfl rfl rfl) ?_
  refine OL.nil ?_
  refine Done.seq ?_
  refine CW.seq ?_
  refine CW.region ?_
  refine OL.popC rfl rfl rfl ((by first | exact POp.fa rfl rfl rfl rfl | exact POp.faP rfl rfl rfl rfl)) ?_
  refine OL.popC rfl rfl rfl ((by first | exact POp.ld1 rfl rfl rfl rfl | (apply POp.ld1H rfl rfl rfl; (case hm => repeat (first | exact .head _ | refine .tail _ ?_)); (case hy => rfl)))) ?_
  refine OL.popC rfl rfl rfl (POp.cmp rfl rfl rfl rfl rfl rfl) ?_
  refine OL.popC rfl rfl rfl (POp.move rfl rfl rfl) ?_
  refine OL.guardC rfl rfl rfl rfl rfl rfl (fun hg => (by first | exact POp.fa rfl rfl rfl rfl | exact POp.faP rfl rfl rfl rfl)) ?_
  refine OL.guardC rfl rfl rfl rfl rfl rfl (fun hg => (by first | exact POp.ld1 rfl rfl (by first | rfl | exact hg | exact (Bool.and_eq_true_iff.1 hg).1 | exact (Bool.and_eq_true_iff.1 (Bool.and_eq_true_iff.1 hg).1).1 | simp_all) rfl | (apply POp.ld1H rfl rfl (by first | rfl | exact hg | exact (Bool.and_eq_true_iff.1 hg).1 | exact (Bool.and_eq_true_iff.1 (Bool.and_eq_true_iff.1 hg).1).1 | simp_all); (case hm => repeat (first | exact .head _ | refine .tail _ ?_)); (case hy => rfl)))) ?_
  refine OL.guardC rfl rfl rfl rfl rfl rfl (fun hg => POp.cmp rfl rfl rfl (by first | rfl | exact hg | exact (Bool.and_eq_true_iff.1 hg).1 | exact (Bool.and_eq_true_iff.1 (Bool.and_eq_true_iff.1 hg).1).1 | simp_all) rfl rfl) ?_
  refine OL.popC rfl rfl rfl (POp.pick rfl rfl rfl rfl rfl (by first | exact fun h => h | (intro h; rw [h]; rfl) | (intro h; simp_all)) (fun _ => rfl)) ?_
  refine OL.popC rfl rfl rfl (POp.assign rfl rfl rfl) ?_
  refine OL.nil ?_
  refine Done.seq ?_
  refine CW.ret ?_
  refine Done.retR (rs := [.tmp 2]) (H' := H) rfl (.tmp rfl (.nil)) (AVleL.refl _) (by repeat (first | exact List.Sublist.refl _ | refine List.Sublist.cons _ ?_)) ?_
  exact ⟨retB (by by_cases h : 2 ≤ f.op <;> simp [h]), rfl⟩
theorem p125 (f : Fact) : PCall Tryz.prog 125 [AV.fact f] (.b (f.op == 2 || f.op == 3 || f.op == 4)) := by
  intro H
  refine ACall.mk' (n := 16) Tryz.func125 rfl (by kernel_rfl) rfl rfl (fun B I w0 => ?_)
  refine CW.seq ?_
  refine CW.region ?_
  refine OL.popC rfl rfl rfl (POp.boxI rfl rfl rfl rfl) ?_
  refine OL.popC rfl rfl rfl (POp.assign rfl rfl rfl) ?_
  refine OL.nil ?_
  refine Done.seq ?_
  refine CW.seq ?_
  refine CW.region ?_
  refine OL.popC rfl rfl rfl ((by first | exact POp.fa rfl rfl rfl rfl | exact POp.faP rfl rfl rfl rfl)) ?_
  refine OL.popC rfl rfl rfl ((by first | exact POp.ld1 rfl rfl rfl rfl | (apply POp.ld1H rfl rfl rfl; (case hm => repeat (first | exact .head _ | refine .tail _ ?_)); (case hy => rfl)))) ?_
  refine OL.popC rfl rfl rfl (POp.cmp rfl rfl rfl rfl rfl rfl) ?_
  refine OL.popC rfl rfl rfl (POp.move rfl rfl rfl) ?_
  refine OL.guardC rfl rfl rfl rfl rfl rfl (fun hg => (by first | exact POp.fa rfl rfl rfl rfl | exact POp.faP rfl rfl rfl rfl)) ?_
  refine OL.guardC rfl rfl rfl rfl rfl rfl (fun hg => (by first | exact POp.ld1 rfl rfl (by first | rfl | exact hg | exact (Bool.and_eq_true_iff.1 hg).1 | exact (Bool.and_eq_true_iff.1 (Bool.and_eq_true_iff.1 hg).1).1 | simp_all) rfl | (apply POp.ld1H rfl rfl (by first | rfl | exact hg | exact (Bool.and_eq_true_iff.1 hg).1 | exact (Bool.and_eq_true_iff.1 (Bool.and_eq_true_iff.1 hg).1).1 | simp_all); (case hm => repeat (first | exact .head _ | refine .tail _ ?_)); (case hy => rfl)))) ?_
  refine OL.guardC rfl rfl rfl rfl rfl rfl (fun hg => POp.cmp rfl rfl rfl (by first | rfl | exact hg | exact (Bool.and_eq_true_iff.1 hg).1 | exact (Bool.and_eq_true_iff.1 (Bool.and_eq_true_iff.1 hg).1).1 | simp_all) rfl rfl) ?_
  refine OL.popC rfl rfl rfl (POp.pick rfl rfl rfl rfl rfl (fun _ => rfl) (by first | exact fun h => h | (intro h; rw [h]; rfl) | (intro h; simp_all))) ?_
  refine OL.popC rfl rfl rfl (POp.move rfl rfl rfl) ?_
  refine OL.guardC rfl rfl rfl rfl rfl rfl (fun hg => (by first | exact POp.fa rfl rfl rfl rfl | exact POp.faP rfl rfl rfl rfl)) ?_
  refine OL.guardC rfl rfl rfl rfl rfl rfl (fun hg => (by first | exact POp.ld1 rfl rfl (by first | rfl | exact hg | exact (Bool.and_eq_true_iff.1 hg).1 | exact (Bool.and_eq_true_iff.1 (Bool.and_eq_true_iff.1 hg).1).1 | simp_all) rfl | (apply POp.ld1H rfl rfl (by first | rfl | exact hg | exact (Bool.and_eq_true_iff.1 hg).1 | exact (Bool.and_eq_true_iff.1 (Bool.and_eq_true_iff.1 hg).1).1 | simp_all); (case hm => repeat (first | exact .head _ | refine .tail _ ?_)); (case hy => rfl)))) ?_
  refine OL.guardC rfl rfl rfl rfl rfl rfl (fun hg => POp.cmp rfl rfl rfl (by first | rfl | exact hg | exact (Bool.and_eq_true_iff.1 hg).1 | exact (Bool.and_eq_true_iff.1 (Bool.and_eq_true_iff.1 hg).1).1 | simp_all) rfl rfl) ?_
  refine OL.popC rfl rfl rfl (POp.pick rfl rfl rfl rfl rfl (fun _ => rfl) (by first | exact fun h => h | (intro h; rw [h]; rfl) | (intro h; simp_all))) ?_
  refine OL.popC rfl rfl rfl (POp.assign rfl rfl rfl) ?_
  refine OL.nil ?_
  refine Done.seq ?_
  refine CW.ret ?_
  refine Done.retR (rs := [.tmp 2]) (H' := H) rfl (.tmp rfl (.nil)) (AVleL.refl _) (by repeat (first | exact List.Sublist.refl _ | refine List.Sublist.cons _ ?_)) ?_
  exact ⟨retB (by by_cases h : f.op = 2 <;> by_cases h' : f.op = 3 <;> simp [h, h']), rfl⟩
theorem p210 (op : Int) : PCall Tryz.prog 210 [.i op] (.i (if op = 5 then 1 else if op = 6 ∨ op = 7 then 2 else 0)) := by
  intro H
  refine ACall.mk' (n := 9) Tryz.func210 rfl (by kernel_rfl) rfl rfl (fun B I w0 => ?_)
  refine CW.seq ?_
  refine CW.region ?_
  refine OL.popC rfl rfl rfl (POp.assign rfl rfl rfl) ?_
  refine OL.nil ?_
  refine Done.seq ?_
  refine CW.seq ?_
  refine CW.seq ?_
  refine CW.region ?_
  refine OL.popC rfl rfl rfl (POp.move rfl rfl rfl) ?_
  refine OL.nil ?_
  refine Done.seq ?_
  refine CW.block ?_
  refine CW.seq ?_
  refine CW.region ?_
  refine OL.popC rfl rfl rfl (POp.cmp rfl rfl rfl rfl rfl rfl) ?_
  refine OL.popC rfl rfl rfl (POp.assign rfl rfl rfl) ?_
  refine OL.nil ?_
  refine Done.seq ?_
  refine CW.cond rfl (fun h0 => ?_) (fun h0 => ?_)
  ·
    try simp only [decide_eq_true_eq, decide_eq_false_iff_not, beq_iff_eq, bne_iff_ne, ne_eq, Int.not_lt, Int.not_le, beq_eq_false_iff_ne, gt_iff_lt, ge_iff_le, Bool.not_eq_true, Bool.not_eq_false, Bool.not_eq_false', bne_eq_false_iff_eq] at h0
    refine CW.seq ?_
    refine CW.region ?_
    refine OL.popC rfl rfl rfl (POp.assign rfl rfl rfl) ?_
    refine OL.nil ?_
    refine Done.seq ?_
    refine CW.ret ?_
    refine Done.blkRet ?_
    refine Done.thenRet ?_
    refine Done.retR (rs := [.tmp 2]) (H' := H) rfl (.tmp rfl (.nil)) (AVleL.refl _) (by repeat (first | exact List.Sublist.refl _ | refine List.Sublist.cons _ ?_)) ?_
    exact ⟨by first | rfl | exact retI (by simp_all) | exact retB (by simp_all) | simp_all, rfl⟩
  ·
    try simp only [decide_eq_true_eq, decide_eq_false_iff_not, beq_iff_eq, bne_iff_ne, ne_eq, Int.not_lt, Int.not_le, beq_eq_false_iff_ne, gt_iff_lt, ge_iff_le, Bool.not_eq_true, Bool.not_eq_false, Bool.not_eq_false', bne_eq_false_iff_eq] at h0
    refine CW.seq ?_
    refine CW.seq ?_
    refine CW.region ?_
    refine OL.popC rfl rfl rfl (POp.cmp rfl rfl rfl rfl rfl rfl) ?_
    refine OL.popC rfl rfl rfl (POp.assign rfl rfl rfl) ?_
    refine OL.nil ?_
    refine Done.seq ?_
    refine CW.cond rfl (fun h1 => ?_) (fun h1 => ?_)
    ·
      try simp only [decide_eq_true_eq, decide_eq_false_iff_not, beq_iff_eq, bne_iff_ne, ne_eq, Int.not_lt, Int.not_le, beq_eq_false_iff_ne, gt_iff_lt, ge_iff_le, Bool.not_eq_true, Bool.not_eq_false, Bool.not_eq_false', bne_eq_false_iff_eq] at h1
      refine CW.skip ?_
      refine Done.seq ?_
      refine CW.cond rfl (fun h2 => ?_) (fun h2 => ?_)
      ·
        try simp only [decide_eq_true_eq, decide_eq_false_iff_not, beq_iff_eq, bne_iff_ne, ne_eq, Int.not_lt, Int.not_le, beq_eq_false_iff_ne, gt_iff_lt, ge_iff_le, Bool.not_eq_true, Bool.not_eq_false, Bool.not_eq_false', bne_eq_false_iff_eq] at h2
        refine CW.seq ?_
        refine CW.region ?_
        refine OL.popC rfl rfl rfl (POp.assign rfl rfl rfl) ?_
        refine OL.nil ?_
        refine Done.seq ?_
        refine CW.ret ?_
        refine Done.blkRet ?_
        refine Done.thenRet ?_
        refine Done.retR (rs := [.tmp 2]) (H' := H) rfl (.tmp rfl (.nil)) (AVleL.refl _) (by repeat (first | exact List.Sublist.refl _ | refine List.Sublist.cons _ ?_)) ?_
        exact ⟨by first | rfl | exact retI (by simp_all) | exact retB (by simp_all) | simp_all, rfl⟩
      ·
        try simp only [decide_eq_true_eq, decide_eq_false_iff_not, beq_iff_eq, bne_iff_ne, ne_eq, Int.not_lt, Int.not_le, beq_eq_false_iff_ne, gt_iff_lt, ge_iff_le, Bool.not_eq_true, Bool.not_eq_false, Bool.not_eq_false', bne_eq_false_iff_eq] at h2
        refine CW.skip ?_
        refine Done.blkNormal ?_
        refine Done.seq ?_
        refine CW.seq ?_
        refine CW.region ?_
        refine OL.popC rfl rfl rfl (POp.assign rfl rfl rfl) ?_
        refine OL.nil ?_
        refine Done.seq ?_
        refine CW.ret ?_
        refine Done.retR (rs := [.tmp 2]) (H' := H) rfl (.tmp rfl (.nil)) (AVleL.refl _) (by repeat (first | exact List.Sublist.refl _ | refine List.Sublist.cons _ ?_)) ?_
        exact ⟨by first | rfl | exact retI (by simp_all) | exact retB (by simp_all) | simp_all, rfl⟩
    ·
      try simp only [decide_eq_true_eq, decide_eq_false_iff_not, beq_iff_eq, bne_iff_ne, ne_eq, Int.not_lt, Int.not_le, beq_eq_false_iff_ne, gt_iff_lt, ge_iff_le, Bool.not_eq_true, Bool.not_eq_false, Bool.not_eq_false', bne_eq_false_iff_eq] at h1
      refine CW.region ?_
      refine OL.popC rfl rfl rfl (POp.cmp rfl rfl rfl rfl rfl rfl) ?_
      refine OL.popC rfl rfl rfl (POp.assign rfl rfl rfl) ?_
      refine OL.nil ?_
      refine Done.seq ?_
      refine CW.cond rfl (fun h3 => ?_) (fun h3 => ?_)
      ·
        try simp only [decide_eq_true_eq, decide_eq_false_iff_not, beq_iff_eq, bne_iff_ne, ne_eq, Int.not_lt, Int.not_le, beq_eq_false_iff_ne, gt_iff_lt, ge_iff_le, Bool.not_eq_true, Bool.not_eq_false, Bool.not_eq_false', bne_eq_false_iff_eq] at h3
        refine CW.seq ?_
        refine CW.region ?_
        refine OL.popC rfl rfl rfl (POp.assign rfl rfl rfl) ?_
        refine OL.nil ?_
        refine Done.seq ?_
        refine CW.ret ?_
        refine Done.blkRet ?_
        refine Done.thenRet ?_
        refine Done.retR (rs := [.tmp 2]) (H' := H) rfl (.tmp rfl (.nil)) (AVleL.refl _) (by repeat (first | exact List.Sublist.refl _ | refine List.Sublist.cons _ ?_)) ?_
        exact ⟨by first | rfl | exact retI (by simp_all) | exact retB (by simp_all) | simp_all, rfl⟩
      ·
        try simp only [decide_eq_true_eq, decide_eq_false_iff_not, beq_iff_eq, bne_iff_ne, ne_eq, Int.not_lt, Int.not_le, beq_eq_false_iff_ne, gt_iff_lt, ge_iff_le, Bool.not_eq_true, Bool.not_eq_false, Bool.not_eq_false', bne_eq_false_iff_eq] at h3
        refine CW.skip ?_
        refine Done.blkNormal ?_
        refine Done.seq ?_
        refine CW.seq ?_
        refine CW.region ?_
        refine OL.popC rfl rfl rfl (POp.assign rfl rfl rfl) ?_
        refine OL.nil ?_
        refine Done.seq ?_
        refine CW.ret ?_
        refine Done.retR (rs := [.tmp 2]) (H' := H) rfl (.tmp rfl (.nil)) (AVleL.refl _) (by repeat (first | exact List.Sublist.refl _ | refine List.Sublist.cons _ ?_)) ?_
        exact ⟨by first | rfl | exact retI (by simp_all) | exact retB (by simp_all) | simp_all, rfl⟩
theorem p153 (W : FW) (c : Int) (hW : W.parents.length ≤ 60) : PCall Tryz.prog 153 [Wptr W, .i c] (.b (ownP W c)) := by
  intro H
  refine ACall.mk' (n := 18) Tryz.func153 rfl (by kernel_rfl) rfl rfl (fun B I w0 => ?_)
  unfold Wptr
  refine CW.boundP (t := 0) (i := 0) rfl rfl (fun hb => ?_)
  refine CW.seq ?_
  refine CW.region ?_
  refine OL.popC rfl rfl rfl (POp.assign rfl rfl rfl) ?_
  refine OL.nil ?_
  refine Done.seq ?_
  refine CW.seq ?_
  refine CW.region ?_
  refine OL.popC rfl rfl rfl (POp.move rfl rfl rfl) ?_
  refine OL.popC rfl rfl rfl (POp.cmp rfl rfl rfl rfl rfl rfl) ?_
  refine OL.popC rfl rfl rfl (POp.move rfl rfl rfl) ?_
  refine OL.guardC rfl rfl rfl rfl rfl rfl (fun hg => POp.move rfl rfl rfl) ?_
  refine OL.guardC rfl rfl rfl rfl rfl rfl (fun hg => POp.move rfl rfl rfl) ?_
  refine OL.guardC rfl rfl rfl rfl rfl rfl (fun hg => (by first | exact POp.nilCheck rfl rfl (by first | rfl | exact hg | exact (Bool.and_eq_true_iff.1 hg).1 | exact (Bool.and_eq_true_iff.1 (Bool.and_eq_true_iff.1 hg).1).1 | simp_all) | exact POp.nilCheckP rfl rfl (by first | rfl | exact hg | exact (Bool.and_eq_true_iff.1 hg).1 | exact (Bool.and_eq_true_iff.1 (Bool.and_eq_true_iff.1 hg).1).1 | simp_all) | exact POp.nilCheckF rfl rfl (by first | rfl | exact hg | exact (Bool.and_eq_true_iff.1 hg).1 | exact (Bool.and_eq_true_iff.1 (Bool.and_eq_true_iff.1 hg).1).1 | simp_all))) ?_
  refine OL.guardC rfl rfl rfl rfl rfl rfl (fun hg => (by first | exact POp.fa rfl rfl (by first | rfl | exact hg | exact (Bool.and_eq_true_iff.1 hg).1 | exact (Bool.and_eq_true_iff.1 (Bool.and_eq_true_iff.1 hg).1).1 | simp_all) rfl | exact POp.faP rfl rfl (by first | rfl | exact hg | exact (Bool.and_eq_true_iff.1 hg).1 | exact (Bool.and_eq_true_iff.1 (Bool.and_eq_true_iff.1 hg).1).1 | simp_all) rfl)) ?_
  refine OL.guardC rfl rfl rfl rfl rfl rfl (fun hg => (by first | exact POp.fa rfl rfl (by first | rfl | exact hg | exact (Bool.and_eq_true_iff.1 hg).1 | exact (Bool.and_eq_true_iff.1 (Bool.and_eq_true_iff.1 hg).1).1 | simp_all) rfl | exact POp.faP rfl rfl (by first | rfl | exact hg | exact (Bool.and_eq_true_iff.1 hg).1 | exact (Bool.and_eq_true_iff.1 (Bool.and_eq_true_iff.1 hg).1).1 | simp_all) rfl)) ?_
  refine OL.guardC rfl rfl rfl rfl rfl rfl (fun hg => (by first | exact POp.ld1 rfl rfl (by first | rfl | exact hg | exact (Bool.and_eq_true_iff.1 hg).1 | exact (Bool.and_eq_true_iff.1 (Bool.and_eq_true_iff.1 hg).1).1 | simp_all) rfl | (apply POp.ld1H rfl rfl (by first | rfl | exact hg | exact (Bool.and_eq_true_iff.1 hg).1 | exact (Bool.and_eq_true_iff.1 (Bool.and_eq_true_iff.1 hg).1).1 | simp_all); (case hm => repeat (first | exact .head _ | refine .tail _ ?_)); (case hy => rfl)))) ?_
  refine OL.guardC rfl rfl rfl rfl rfl rfl (fun hg => (by first | exact POp.lenM rfl rfl (by first | rfl | exact hg | exact (Bool.and_eq_true_iff.1 hg).1 | exact (Bool.and_eq_true_iff.1 (Bool.and_eq_true_iff.1 hg).1).1 | simp_all) | exact POp.lenA rfl rfl (by first | rfl | exact hg | exact (Bool.and_eq_true_iff.1 hg).1 | exact (Bool.and_eq_true_iff.1 (Bool.and_eq_true_iff.1 hg).1).1 | simp_all) | exact POp.lenV rfl rfl (by first | rfl | exact hg | exact (Bool.and_eq_true_iff.1 hg).1 | exact (Bool.and_eq_true_iff.1 (Bool.and_eq_true_iff.1 hg).1).1 | simp_all) | exact POp.len' rfl rfl (by first | rfl | exact hg | exact (Bool.and_eq_true_iff.1 hg).1 | exact (Bool.and_eq_true_iff.1 (Bool.and_eq_true_iff.1 hg).1).1 | simp_all))) ?_
  refine OL.guardC rfl rfl rfl rfl rfl rfl (fun hg => POp.arith rfl rfl rfl rfl (by first | rfl | exact hg | exact (Bool.and_eq_true_iff.1 hg).1 | exact (Bool.and_eq_true_iff.1 (Bool.and_eq_true_iff.1 hg).1).1 | simp_all) rfl (wrap64 (by omega))) ?_
  refine OL.guardC rfl rfl rfl rfl rfl rfl (fun hg => POp.cmp rfl rfl rfl (by first | rfl | exact hg | exact (Bool.and_eq_true_iff.1 hg).1 | exact (Bool.and_eq_true_iff.1 (Bool.and_eq_true_iff.1 hg).1).1 | simp_all) (by first | rfl | exact hg | exact (Bool.and_eq_true_iff.1 hg).1 | exact (Bool.and_eq_true_iff.1 (Bool.and_eq_true_iff.1 hg).1).1 | simp_all) rfl) ?_
  refine OL.popC rfl rfl rfl (POp.pick rfl rfl rfl rfl rfl (by first | exact fun h => h | (intro h; rw [h]; rfl) | (intro h; simp_all)) (fun _ => rfl)) ?_
  refine OL.popC rfl rfl rfl (POp.assign rfl rfl rfl) ?_
  refine OL.nil ?_
  refine Done.seq ?_
  refine CW.ret ?_
  refine Done.retR (rs := [.tmp 4]) (H' := H) rfl (.tmp rfl (.nil)) (AVleL.refl _) (by repeat (first | exact List.Sublist.refl _ | refine List.Sublist.cons _ ?_)) ?_
  exact ⟨retB (by unfold ownP; by_cases h : 3 ≤ c <;> simp [h]), rfl⟩
theorem p106 (W : FW) (c : Int) (hW : W.parents.length ≤ 60) : PCall Tryz.prog 106 [Wptr W, .i c] (.b (classP W c)) := by
  intro H
  refine ACall.mk' (n := 18) Tryz.func106 rfl (by kernel_rfl) rfl rfl (fun B I w0 => ?_)
  unfold Wptr
  refine CW.boundP (t := 0) (i := 0) rfl rfl (fun hb => ?_)
  refine CW.seq ?_
  refine CW.region ?_
  refine OL.popC rfl rfl rfl (POp.assign rfl rfl rfl) ?_
  refine OL.nil ?_
  refine Done.seq ?_
  refine CW.seq ?_
  refine CW.region ?_
  refine OL.popC rfl rfl rfl (POp.move rfl rfl rfl) ?_
  refine OL.popC rfl rfl rfl (POp.cmp rfl rfl rfl rfl rfl rfl) ?_
  refine OL.popC rfl rfl rfl (POp.move rfl rfl rfl) ?_
  refine OL.guardC rfl rfl rfl rfl rfl rfl (fun hg => POp.move rfl rfl rfl) ?_
  refine OL.guardC rfl rfl rfl rfl rfl rfl (fun hg => POp.move rfl rfl rfl) ?_
  refine OL.guardC rfl rfl rfl rfl rfl rfl (fun hg => (by first | exact POp.nilCheck rfl rfl (by first | rfl | exact hg | exact (Bool.and_eq_true_iff.1 hg).1 | exact (Bool.and_eq_true_iff.1 (Bool.and_eq_true_iff.1 hg).1).1 | simp_all) | exact POp.nilCheckP rfl rfl (by first | rfl | exact hg | exact (Bool.and_eq_true_iff.1 hg).1 | exact (Bool.and_eq_true_iff.1 (Bool.and_eq_true_iff.1 hg).1).1 | simp_all) | exact POp.nilCheckF rfl rfl (by first | rfl | exact hg | exact (Bool.and_eq_true_iff.1 hg).1 | exact (Bool.and_eq_true_iff.1 (Bool.and_eq_true_iff.1 hg).1).1 | simp_all))) ?_
  refine OL.guardC rfl rfl rfl rfl rfl rfl (fun hg => (by first | exact POp.fa rfl rfl (by first | rfl | exact hg | exact (Bool.and_eq_true_iff.1 hg).1 | exact (Bool.and_eq_true_iff.1 (Bool.and_eq_true_iff.1 hg).1).1 | simp_all) rfl | exact POp.faP rfl rfl (by first | rfl | exact hg | exact (Bool.and_eq_true_iff.1 hg).1 | exact (Bool.and_eq_true_iff.1 (Bool.and_eq_true_iff.1 hg).1).1 | simp_all) rfl)) ?_
  refine OL.guardC rfl rfl rfl rfl rfl rfl (fun hg => (by first | exact POp.fa rfl rfl (by first | rfl | exact hg | exact (Bool.and_eq_true_iff.1 hg).1 | exact (Bool.and_eq_true_iff.1 (Bool.and_eq_true_iff.1 hg).1).1 | simp_all) rfl | exact POp.faP rfl rfl (by first | rfl | exact hg | exact (Bool.and_eq_true_iff.1 hg).1 | exact (Bool.and_eq_true_iff.1 (Bool.and_eq_true_iff.1 hg).1).1 | simp_all) rfl)) ?_
  refine OL.guardC rfl rfl rfl rfl rfl rfl (fun hg => (by first | exact POp.ld1 rfl rfl (by first | rfl | exact hg | exact (Bool.and_eq_true_iff.1 hg).1 | exact (Bool.and_eq_true_iff.1 (Bool.and_eq_true_iff.1 hg).1).1 | simp_all) rfl | (apply POp.ld1H rfl rfl (by first | rfl | exact hg | exact (Bool.and_eq_true_iff.1 hg).1 | exact (Bool.and_eq_true_iff.1 (Bool.and_eq_true_iff.1 hg).1).1 | simp_all); (case hm => repeat (first | exact .head _ | refine .tail _ ?_)); (case hy => rfl)))) ?_
  refine OL.guardC rfl rfl rfl rfl rfl rfl (fun hg => (by first | exact POp.lenM rfl rfl (by first | rfl | exact hg | exact (Bool.and_eq_true_iff.1 hg).1 | exact (Bool.and_eq_true_iff.1 (Bool.and_eq_true_iff.1 hg).1).1 | simp_all) | exact POp.lenA rfl rfl (by first | rfl | exact hg | exact (Bool.and_eq_true_iff.1 hg).1 | exact (Bool.and_eq_true_iff.1 (Bool.and_eq_true_iff.1 hg).1).1 | simp_all) | exact POp.lenV rfl rfl (by first | rfl | exact hg | exact (Bool.and_eq_true_iff.1 hg).1 | exact (Bool.and_eq_true_iff.1 (Bool.and_eq_true_iff.1 hg).1).1 | simp_all) | exact POp.len' rfl rfl (by first | rfl | exact hg | exact (Bool.and_eq_true_iff.1 hg).1 | exact (Bool.and_eq_true_iff.1 (Bool.and_eq_true_iff.1 hg).1).1 | simp_all))) ?_
  refine OL.guardC rfl rfl rfl rfl rfl rfl (fun hg => POp.arith rfl rfl rfl rfl (by first | rfl | exact hg | exact (Bool.and_eq_true_iff.1 hg).1 | exact (Bool.and_eq_true_iff.1 (Bool.and_eq_true_iff.1 hg).1).1 | simp_all) rfl (wrap64 (by omega))) ?_
  refine OL.guardC rfl rfl rfl rfl rfl rfl (fun hg => POp.cmp rfl rfl rfl (by first | rfl | exact hg | exact (Bool.and_eq_true_iff.1 hg).1 | exact (Bool.and_eq_true_iff.1 (Bool.and_eq_true_iff.1 hg).1).1 | simp_all) (by first | rfl | exact hg | exact (Bool.and_eq_true_iff.1 hg).1 | exact (Bool.and_eq_true_iff.1 (Bool.and_eq_true_iff.1 hg).1).1 | simp_all) rfl) ?_
  refine OL.popC rfl rfl rfl (POp.pick rfl rfl rfl rfl rfl (by first | exact fun h => h | (intro h; rw [h]; rfl) | (intro h; simp_all)) (fun _ => rfl)) ?_
  refine OL.popC rfl rfl rfl (POp.assign rfl rfl rfl) ?_
  refine OL.nil ?_
  refine Done.seq ?_
  refine CW.ret ?_
  refine Done.retR (rs := [.tmp 4]) (H' := H) rfl (.tmp rfl (.nil)) (AVleL.refl _) (by repeat (first | exact List.Sublist.refl _ | refine List.Sublist.cons _ ?_)) ?_
  exact ⟨retB (by unfold classP; by_cases h : 0 ≤ c <;> simp [h]), rfl⟩
theorem p177 (W : FW) (c : Int) : PCall Tryz.prog 177 [Wptr W, .i c] (.b (slotP W c)) := by
  intro H
  refine ACall.mk' (n := 17) Tryz.func177 rfl (by kernel_rfl) rfl rfl (fun B I w0 => ?_)
  unfold Wptr
  refine CW.seq ?_
  refine CW.region ?_
  refine OL.popC rfl rfl rfl (POp.assign rfl rfl rfl) ?_
  refine OL.nil ?_
  refine Done.seq ?_
  refine CW.seq ?_
  refine CW.region ?_
  refine OL.popC rfl rfl rfl (POp.move rfl rfl rfl) ?_
  refine OL.popC rfl rfl rfl (POp.cmp rfl rfl rfl rfl rfl rfl) ?_
  refine OL.popC rfl rfl rfl (POp.move rfl rfl rfl) ?_
  refine OL.guardC rfl rfl rfl rfl rfl rfl (fun hg => POp.move rfl rfl rfl) ?_
  refine OL.guardC rfl rfl rfl rfl rfl rfl (fun hg => POp.move rfl rfl rfl) ?_
  refine OL.guardC rfl rfl rfl rfl rfl rfl (fun hg => (by first | exact POp.nilCheck rfl rfl (by first | rfl | exact hg | exact (Bool.and_eq_true_iff.1 hg).1 | exact (Bool.and_eq_true_iff.1 (Bool.and_eq_true_iff.1 hg).1).1 | simp_all) | exact POp.nilCheckP rfl rfl (by first | rfl | exact hg | exact (Bool.and_eq_true_iff.1 hg).1 | exact (Bool.and_eq_true_iff.1 (Bool.and_eq_true_iff.1 hg).1).1 | simp_all) | exact POp.nilCheckF rfl rfl (by first | rfl | exact hg | exact (Bool.and_eq_true_iff.1 hg).1 | exact (Bool.and_eq_true_iff.1 (Bool.and_eq_true_iff.1 hg).1).1 | simp_all))) ?_
  refine OL.guardC rfl rfl rfl rfl rfl rfl (fun hg => (by first | exact POp.fa rfl rfl (by first | rfl | exact hg | exact (Bool.and_eq_true_iff.1 hg).1 | exact (Bool.and_eq_true_iff.1 (Bool.and_eq_true_iff.1 hg).1).1 | simp_all) rfl | exact POp.faP rfl rfl (by first | rfl | exact hg | exact (Bool.and_eq_true_iff.1 hg).1 | exact (Bool.and_eq_true_iff.1 (Bool.and_eq_true_iff.1 hg).1).1 | simp_all) rfl)) ?_
  refine OL.guardC rfl rfl rfl rfl rfl rfl (fun hg => (by first | exact POp.fa rfl rfl (by first | rfl | exact hg | exact (Bool.and_eq_true_iff.1 hg).1 | exact (Bool.and_eq_true_iff.1 (Bool.and_eq_true_iff.1 hg).1).1 | simp_all) rfl | exact POp.faP rfl rfl (by first | rfl | exact hg | exact (Bool.and_eq_true_iff.1 hg).1 | exact (Bool.and_eq_true_iff.1 (Bool.and_eq_true_iff.1 hg).1).1 | simp_all) rfl)) ?_
  refine OL.guardC rfl rfl rfl rfl rfl rfl (fun hg => (by first | exact POp.ld1 rfl rfl (by first | rfl | exact hg | exact (Bool.and_eq_true_iff.1 hg).1 | exact (Bool.and_eq_true_iff.1 (Bool.and_eq_true_iff.1 hg).1).1 | simp_all) rfl | (apply POp.ld1H rfl rfl (by first | rfl | exact hg | exact (Bool.and_eq_true_iff.1 hg).1 | exact (Bool.and_eq_true_iff.1 (Bool.and_eq_true_iff.1 hg).1).1 | simp_all); (case hm => repeat (first | exact .head _ | refine .tail _ ?_)); (case hy => rfl)))) ?_
  refine OL.guardC rfl rfl rfl rfl rfl rfl (fun hg => (by first | exact POp.lenM rfl rfl (by first | rfl | exact hg | exact (Bool.and_eq_true_iff.1 hg).1 | exact (Bool.and_eq_true_iff.1 (Bool.and_eq_true_iff.1 hg).1).1 | simp_all) | exact POp.lenA rfl rfl (by first | rfl | exact hg | exact (Bool.and_eq_true_iff.1 hg).1 | exact (Bool.and_eq_true_iff.1 (Bool.and_eq_true_iff.1 hg).1).1 | simp_all) | exact POp.lenV rfl rfl (by first | rfl | exact hg | exact (Bool.and_eq_true_iff.1 hg).1 | exact (Bool.and_eq_true_iff.1 (Bool.and_eq_true_iff.1 hg).1).1 | simp_all) | exact POp.len' rfl rfl (by first | rfl | exact hg | exact (Bool.and_eq_true_iff.1 hg).1 | exact (Bool.and_eq_true_iff.1 (Bool.and_eq_true_iff.1 hg).1).1 | simp_all))) ?_
  refine OL.guardC rfl rfl rfl rfl rfl rfl (fun hg => POp.cmp rfl rfl rfl (by first | rfl | exact hg | exact (Bool.and_eq_true_iff.1 hg).1 | exact (Bool.and_eq_true_iff.1 (Bool.and_eq_true_iff.1 hg).1).1 | simp_all) (by first | rfl | exact hg | exact (Bool.and_eq_true_iff.1 hg).1 | exact (Bool.and_eq_true_iff.1 (Bool.and_eq_true_iff.1 hg).1).1 | simp_all) rfl) ?_
  refine OL.popC rfl rfl rfl (POp.pick rfl rfl rfl rfl rfl (by first | exact fun h => h | (intro h; rw [h]; rfl) | (intro h; simp_all)) (fun _ => rfl)) ?_
  refine OL.popC rfl rfl rfl (POp.assign rfl rfl rfl) ?_
  refine OL.nil ?_
  refine Done.seq ?_
  refine CW.ret ?_
  refine Done.retR (rs := [.tmp 4]) (H' := H) rfl (.tmp rfl (.nil)) (AVleL.refl _) (by repeat (first | exact List.Sublist.refl _ | refine List.Sublist.cons _ ?_)) ?_
  exact ⟨retB (by unfold slotP; by_cases h : 0 ≤ c <;> simp [h]), rfl⟩
theorem p85 (W : FW) (c : Int) (hW : W.parents.length ≤ 60) : PCall Tryz.prog 85 [AV.world W, .i c] (.b (ownP W c)) := by
  intro H
  refine ACall.mk' (n := 15) Tryz.func85 rfl (by kernel_rfl) rfl rfl (fun B I w0 => ?_)
  refine CW.boundA (t := 0) (i := 0) rfl rfl (fun hb => ?_)
  refine CW.seq ?_
  refine CW.region ?_
  refine OL.popC rfl rfl rfl (POp.boxI rfl rfl rfl rfl) ?_
  refine OL.popC rfl rfl rfl (POp.assign rfl rfl rfl) ?_
  refine OL.nil ?_
  refine Done.seq ?_
  refine CW.seq ?_
  refine CW.region ?_
  refine OL.popC rfl rfl rfl (POp.move rfl rfl rfl) ?_
  refine OL.popC rfl rfl rfl (POp.cmp rfl rfl rfl rfl rfl rfl) ?_
  refine OL.popC rfl rfl rfl (POp.move rfl rfl rfl) ?_
  refine OL.guardC rfl rfl rfl rfl rfl rfl (fun hg => POp.move rfl rfl rfl) ?_
  refine OL.guardC rfl rfl rfl rfl rfl rfl (fun hg => (by first | exact POp.fa rfl rfl rfl rfl | exact POp.faP rfl rfl rfl rfl)) ?_
  refine OL.guardC rfl rfl rfl rfl rfl rfl (fun hg => (by first | exact POp.ld1 rfl rfl (by first | rfl | exact hg | exact (Bool.and_eq_true_iff.1 hg).1 | exact (Bool.and_eq_true_iff.1 (Bool.and_eq_true_iff.1 hg).1).1 | simp_all) rfl | (apply POp.ld1H rfl rfl (by first | rfl | exact hg | exact (Bool.and_eq_true_iff.1 hg).1 | exact (Bool.and_eq_true_iff.1 (Bool.and_eq_true_iff.1 hg).1).1 | simp_all); (case hm => repeat (first | exact .head _ | refine .tail _ ?_)); (case hy => rfl)))) ?_
  refine OL.guardC rfl rfl rfl rfl rfl rfl (fun hg => (by first | exact POp.lenM rfl rfl (by first | rfl | exact hg | exact (Bool.and_eq_true_iff.1 hg).1 | exact (Bool.and_eq_true_iff.1 (Bool.and_eq_true_iff.1 hg).1).1 | simp_all) | exact POp.lenA rfl rfl (by first | rfl | exact hg | exact (Bool.and_eq_true_iff.1 hg).1 | exact (Bool.and_eq_true_iff.1 (Bool.and_eq_true_iff.1 hg).1).1 | simp_all) | exact POp.lenV rfl rfl (by first | rfl | exact hg | exact (Bool.and_eq_true_iff.1 hg).1 | exact (Bool.and_eq_true_iff.1 (Bool.and_eq_true_iff.1 hg).1).1 | simp_all) | exact POp.len' rfl rfl (by first | rfl | exact hg | exact (Bool.and_eq_true_iff.1 hg).1 | exact (Bool.and_eq_true_iff.1 (Bool.and_eq_true_iff.1 hg).1).1 | simp_all))) ?_
  refine OL.guardC rfl rfl rfl rfl rfl rfl (fun hg => POp.arith rfl rfl rfl rfl (by first | rfl | exact hg | exact (Bool.and_eq_true_iff.1 hg).1 | exact (Bool.and_eq_true_iff.1 (Bool.and_eq_true_iff.1 hg).1).1 | simp_all) rfl (wrap64 (by omega))) ?_
  refine OL.guardC rfl rfl rfl rfl rfl rfl (fun hg => POp.cmp rfl rfl rfl (by first | rfl | exact hg | exact (Bool.and_eq_true_iff.1 hg).1 | exact (Bool.and_eq_true_iff.1 (Bool.and_eq_true_iff.1 hg).1).1 | simp_all) (by first | rfl | exact hg | exact (Bool.and_eq_true_iff.1 hg).1 | exact (Bool.and_eq_true_iff.1 (Bool.and_eq_true_iff.1 hg).1).1 | simp_all) rfl) ?_
  refine OL.popC rfl rfl rfl (POp.pick rfl rfl rfl rfl rfl (by first | exact fun h => h | (intro h; rw [h]; rfl) | (intro h; simp_all)) (fun _ => rfl)) ?_
  refine OL.popC rfl rfl rfl (POp.assign rfl rfl rfl) ?_
  refine OL.nil ?_
  refine Done.seq ?_
  refine CW.ret ?_
  refine Done.retR (rs := [.tmp 4]) (H' := H) rfl (.tmp rfl (.nil)) (AVleL.refl _) (by repeat (first | exact List.Sublist.refl _ | refine List.Sublist.cons _ ?_)) ?_
  exact ⟨retB (by unfold ownP; by_cases h : 3 ≤ c <;> simp [h]), rfl⟩
theorem p51 (W : FW) (c : Int) (hW : W.parents.length ≤ 60) : PCall Tryz.prog 51 [AV.world W, .i c] (.b (classP W c)) := by
  intro H
  refine ACall.mk' (n := 15) Tryz.func51 rfl (by kernel_rfl) rfl rfl (fun B I w0 => ?_)
  refine CW.boundA (t := 0) (i := 0) rfl rfl (fun hb => ?_)
  refine CW.seq ?_
  refine CW.region ?_
  refine OL.popC rfl rfl rfl (POp.boxI rfl rfl rfl rfl) ?_
  refine OL.popC rfl rfl rfl (POp.assign rfl rfl rfl) ?_
  refine OL.nil ?_
  refine Done.seq ?_
  refine CW.seq ?_
  refine CW.region ?_
  refine OL.popC rfl rfl rfl (POp.move rfl rfl rfl) ?_
  refine OL.popC rfl rfl rfl (POp.cmp rfl rfl rfl rfl rfl rfl) ?_
  refine OL.popC rfl rfl rfl (POp.move rfl rfl rfl) ?_
  refine OL.guardC rfl rfl rfl rfl rfl rfl (fun hg => POp.move rfl rfl rfl) ?_
  refine OL.guardC rfl rfl rfl rfl rfl rfl (fun hg => (by first | exact POp.fa rfl rfl rfl rfl | exact POp.faP rfl rfl rfl rfl)) ?_
  refine OL.guardC rfl rfl rfl rfl rfl rfl (fun hg => (by first | exact POp.ld1 rfl rfl (by first | rfl | exact hg | exact (Bool.and_eq_true_iff.1 hg).1 | exact (Bool.and_eq_true_iff.1 (Bool.and_eq_true_iff.1 hg).1).1 | simp_all) rfl | (apply POp.ld1H rfl rfl (by first | rfl | exact hg | exact (Bool.and_eq_true_iff.1 hg).1 | exact (Bool.and_eq_true_iff.1 (Bool.and_eq_true_iff.1 hg).1).1 | simp_all); (case hm => repeat (first | exact .head _ | refine .tail _ ?_)); (case hy => rfl)))) ?_
  refine OL.guardC rfl rfl rfl rfl rfl rfl (fun hg => (by first | exact POp.lenM rfl rfl (by first | rfl | exact hg | exact (Bool.and_eq_true_iff.1 hg).1 | exact (Bool.and_eq_true_iff.1 (Bool.and_eq_true_iff.1 hg).1).1 | simp_all) | exact POp.lenA rfl rfl (by first | rfl | exact hg | exact (Bool.and_eq_true_iff.1 hg).1 | exact (Bool.and_eq_true_iff.1 (Bool.and_eq_true_iff.1 hg).1).1 | simp_all) | exact POp.lenV rfl rfl (by first | rfl | exact hg | exact (Bool.and_eq_true_iff.1 hg).1 | exact (Bool.and_eq_true_iff.1 (Bool.and_eq_true_iff.1 hg).1).1 | simp_all) | exact POp.len' rfl rfl (by first | rfl | exact hg | exact (Bool.and_eq_true_iff.1 hg).1 | exact (Bool.and_eq_true_iff.1 (Bool.and_eq_true_iff.1 hg).1).1 | simp_all))) ?_
  refine OL.guardC rfl rfl rfl rfl rfl rfl (fun hg => POp.arith rfl rfl rfl rfl (by first | rfl | exact hg | exact (Bool.and_eq_true_iff.1 hg).1 | exact (Bool.and_eq_true_iff.1 (Bool.and_eq_true_iff.1 hg).1).1 | simp_all) rfl (wrap64 (by omega))) ?_
  refine OL.guardC rfl rfl rfl rfl rfl rfl (fun hg => POp.cmp rfl rfl rfl (by first | rfl | exact hg | exact (Bool.and_eq_true_iff.1 hg).1 | exact (Bool.and_eq_true_iff.1 (Bool.and_eq_true_iff.1 hg).1).1 | simp_all) (by first | rfl | exact hg | exact (Bool.and_eq_true_iff.1 hg).1 | exact (Bool.and_eq_true_iff.1 (Bool.and_eq_true_iff.1 hg).1).1 | simp_all) rfl) ?_
  refine OL.popC rfl rfl rfl (POp.pick rfl rfl rfl rfl rfl (by first | exact fun h => h | (intro h; rw [h]; rfl) | (intro h; simp_all)) (fun _ => rfl)) ?_
  refine OL.popC rfl rfl rfl (POp.assign rfl rfl rfl) ?_
  refine OL.nil ?_
  refine Done.seq ?_
  refine CW.ret ?_
  refine Done.retR (rs := [.tmp 4]) (H' := H) rfl (.tmp rfl (.nil)) (AVleL.refl _) (by repeat (first | exact List.Sublist.refl _ | refine List.Sublist.cons _ ?_)) ?_
  exact ⟨retB (by unfold classP; by_cases h : 0 ≤ c <;> simp [h]), rfl⟩
end Go.Proofs.YtiljpbljebfhnaaGreat
