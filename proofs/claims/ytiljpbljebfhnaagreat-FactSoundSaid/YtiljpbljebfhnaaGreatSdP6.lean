/- Part 6 of the proof: contracts of functions of the program and what they need. No condition beyond those that each theorem names. -/
import Derived.Test.YtiljpbljebfhnaaGreatSdP5
import Derived.DeepKeys4
import Derived.Test.YtiljpbljebfhnaaGreatProg
import Derived.KernelRfl
namespace Go.Proofs.YtiljpbljebfhnaaGreat
open Go.Eng
theorem laidOut : laidOutB Tryz.prog = true := by kernel_rfl
instance : HasTy Tryz.prog 3 (false, 1) := ⟨by kernel_rfl⟩
instance : HasTy Tryz.prog 4 (false, 1) := ⟨by kernel_rfl⟩
instance : HasTy Tryz.prog 5 (false, 1) := ⟨by kernel_rfl⟩
instance : HasTy Tryz.prog 22 (false, 1) := ⟨by kernel_rfl⟩
instance : HasTy Tryz.prog 23 (false, 1) := ⟨by kernel_rfl⟩
instance : HasTy Tryz.prog 25 (true, 2) := ⟨by kernel_rfl⟩
instance : HasTy Tryz.prog 26 (false, 1) := ⟨by kernel_rfl⟩
instance : HasTy Tryz.prog 27 (false, 1) := ⟨by kernel_rfl⟩
instance : HasTy Tryz.prog 29 (true, 6) := ⟨by kernel_rfl⟩
instance : HasTy Tryz.prog 30 (false, 1) := ⟨by kernel_rfl⟩
instance : HasTy Tryz.prog 31 (false, 1) := ⟨by kernel_rfl⟩
instance : HasTy Tryz.prog 33 (true, 18) := ⟨by kernel_rfl⟩
instance : HasTy Tryz.prog 34 (false, 1) := ⟨by kernel_rfl⟩
instance : HasTy Tryz.prog 35 (false, 1) := ⟨by kernel_rfl⟩
instance : HasTy Tryz.prog 54 (false, 1) := ⟨by kernel_rfl⟩
instance : HasTy Tryz.prog 71 (true, 12) := ⟨by kernel_rfl⟩
instance : HasTy Tryz.prog 95 (false, 1) := ⟨by kernel_rfl⟩
instance : HasTy Tryz.prog 97 (true, 2) := ⟨by kernel_rfl⟩
instance : HasTy Tryz.prog 105 (false, 1) := ⟨by kernel_rfl⟩
instance : HasTy Tryz.prog 109 (false, 1) := ⟨by kernel_rfl⟩
instance : HasTy Tryz.prog 115 (false, 1) := ⟨by kernel_rfl⟩
instance : HasTy Tryz.prog 116 (false, 1) := ⟨by kernel_rfl⟩
instance : HasTy Tryz.prog 118 (true, 7) := ⟨by kernel_rfl⟩
instance : HasTy Tryz.prog 127 (false, 1) := ⟨by kernel_rfl⟩
instance : HasTy Tryz.prog 131 (false, 1) := ⟨by kernel_rfl⟩
instance : HasTy Tryz.prog 135 (false, 1) := ⟨by kernel_rfl⟩
instance : HasTy Tryz.prog 150 (false, 1) := ⟨by kernel_rfl⟩
instance : HasTy Tryz.prog 152 (false, 1) := ⟨by kernel_rfl⟩
instance : HasTy Tryz.prog 158 (true, 4) := ⟨by kernel_rfl⟩
instance : HasTy Tryz.prog 160 (true, 2) := ⟨by kernel_rfl⟩
instance : HasTy Tryz.prog 170 (false, 1) := ⟨by kernel_rfl⟩
instance : HasTy Tryz.prog 173 (true, 0) := ⟨by kernel_rfl⟩
instance : HasTy Tryz.prog 177 (true, 6) := ⟨by kernel_rfl⟩
instance : HasTy Tryz.prog 197 (false, 1) := ⟨by kernel_rfl⟩
instance : HasTy Tryz.prog 216 (false, 1) := ⟨by kernel_rfl⟩
instance : HasTy Tryz.prog 219 (false, 1) := ⟨by kernel_rfl⟩
instance : HasTy Tryz.prog 227 (false, 1) := ⟨by kernel_rfl⟩
instance : HasTy Tryz.prog 236 (false, 1) := ⟨by kernel_rfl⟩
instance : HasFld Tryz.prog 25 0 0 := ⟨by kernel_rfl⟩
instance : HasFld Tryz.prog 25 1 1 := ⟨by kernel_rfl⟩
instance : HasFld Tryz.prog 29 0 0 := ⟨by kernel_rfl⟩
instance : HasFld Tryz.prog 29 1 1 := ⟨by kernel_rfl⟩
instance : HasFld Tryz.prog 29 2 2 := ⟨by kernel_rfl⟩
instance : HasFld Tryz.prog 29 3 3 := ⟨by kernel_rfl⟩
instance : HasFld Tryz.prog 29 4 4 := ⟨by kernel_rfl⟩
instance : HasFld Tryz.prog 29 5 5 := ⟨by kernel_rfl⟩
instance : HasFld Tryz.prog 33 0 0 := ⟨by kernel_rfl⟩
instance : HasFld Tryz.prog 33 1 2 := ⟨by kernel_rfl⟩
instance : HasFld Tryz.prog 33 2 8 := ⟨by kernel_rfl⟩
instance : HasFld Tryz.prog 33 3 14 := ⟨by kernel_rfl⟩
instance : HasFld Tryz.prog 33 4 15 := ⟨by kernel_rfl⟩
instance : HasFld Tryz.prog 33 5 16 := ⟨by kernel_rfl⟩
instance : HasFld Tryz.prog 33 6 17 := ⟨by kernel_rfl⟩
instance : HasFld Tryz.prog 97 0 0 := ⟨by kernel_rfl⟩
instance : HasFld Tryz.prog 97 1 1 := ⟨by kernel_rfl⟩
instance : HasFld Tryz.prog 118 0 0 := ⟨by kernel_rfl⟩
instance : HasFld Tryz.prog 118 1 6 := ⟨by kernel_rfl⟩
instance : HasFld Tryz.prog 138 0 0 := ⟨by kernel_rfl⟩
instance : HasFld Tryz.prog 138 1 2 := ⟨by kernel_rfl⟩
instance : HasFld Tryz.prog 154 0 0 := ⟨by kernel_rfl⟩
instance : HasFld Tryz.prog 154 1 1 := ⟨by kernel_rfl⟩
instance : HasFld Tryz.prog 154 2 2 := ⟨by kernel_rfl⟩
instance : HasFld Tryz.prog 158 1 1 := ⟨by kernel_rfl⟩
instance : HasFld Tryz.prog 158 2 2 := ⟨by kernel_rfl⟩
instance : HasFld Tryz.prog 160 0 0 := ⟨by kernel_rfl⟩
instance : HasFld Tryz.prog 160 1 1 := ⟨by kernel_rfl⟩
instance : HasFld Tryz.prog 177 0 0 := ⟨by kernel_rfl⟩
instance : HasFld Tryz.prog 177 1 2 := ⟨by kernel_rfl⟩
instance : HasFld Tryz.prog 177 2 3 := ⟨by kernel_rfl⟩
instance : HasFld Tryz.prog 177 3 4 := ⟨by kernel_rfl⟩
instance : HasFld Tryz.prog 177 4 5 := ⟨by kernel_rfl⟩
instance : HasFld Tryz.prog 199 0 0 := ⟨by kernel_rfl⟩
instance : HasFld Tryz.prog 199 1 1 := ⟨by kernel_rfl⟩
instance : HasFld Tryz.prog 207 0 0 := ⟨by kernel_rfl⟩
instance : HasFld Tryz.prog 207 1 1 := ⟨by kernel_rfl⟩
instance : HasFld Tryz.prog 207 2 2 := ⟨by kernel_rfl⟩
instance : HasFld Tryz.prog 209 0 0 := ⟨by kernel_rfl⟩
instance : HasFld Tryz.prog 209 1 3 := ⟨by kernel_rfl⟩
instance : HasFld Tryz.prog 209 2 4 := ⟨by kernel_rfl⟩
instance : HasFld Tryz.prog 209 3 5 := ⟨by kernel_rfl⟩
instance : HasFld Tryz.prog 209 4 6 := ⟨by kernel_rfl⟩
instance : HasFld Tryz.prog 209 5 7 := ⟨by kernel_rfl⟩
instance : HasSl Tryz.prog 22 1 := ⟨by kernel_rfl⟩
instance : HasSl Tryz.prog 23 1 := ⟨by kernel_rfl⟩
instance : HasSl Tryz.prog 27 6 := ⟨by kernel_rfl⟩
instance : HasSl Tryz.prog 30 2 := ⟨by kernel_rfl⟩
instance : HasSl Tryz.prog 31 2 := ⟨by kernel_rfl⟩
instance : HasSl Tryz.prog 34 1 := ⟨by kernel_rfl⟩
instance : HasSl Tryz.prog 53 1 := ⟨by kernel_rfl⟩
instance : HasSl Tryz.prog 54 1 := ⟨by kernel_rfl⟩
instance : HasSl Tryz.prog 115 7 := ⟨by kernel_rfl⟩
instance : HasSl Tryz.prog 127 1 := ⟨by kernel_rfl⟩
instance : HasSl Tryz.prog 141 12 := ⟨by kernel_rfl⟩
instance : HasSl Tryz.prog 142 1 := ⟨by kernel_rfl⟩
instance : HasSl Tryz.prog 152 1 := ⟨by kernel_rfl⟩
instance : HasArr Tryz.prog 71 (2, 6) := ⟨by kernel_rfl⟩
instance : HasArr Tryz.prog 136 (63, 1) := ⟨by kernel_rfl⟩
instance : HasArr Tryz.prog 156 (2, 1) := ⟨by kernel_rfl⟩
instance : HasZero Tryz.prog 3 [.int .i64 0] := ⟨by kernel_rfl⟩
instance : HasZero Tryz.prog 4 [.bool false] := ⟨by kernel_rfl⟩
instance : HasZero Tryz.prog 25 [.slice none 0 0, .slice none 0 0] := ⟨by kernel_rfl⟩
instance : HasZero Tryz.prog 29 [.int .i64 0, .int .i64 0, .slice none 0 0, .int .i64 0, .int .i64 0, .slice none 0 0] := ⟨by kernel_rfl⟩
instance : HasZero Tryz.prog 30 [.slice none 0 0] := ⟨by kernel_rfl⟩
instance : HasZero Tryz.prog 31 [.slice none 0 0] := ⟨by kernel_rfl⟩
instance : HasZero Tryz.prog 34 [.slice none 0 0] := ⟨by kernel_rfl⟩
instance : HasZero Tryz.prog 35 [.int .i64 0] := ⟨by kernel_rfl⟩
instance : HasZero Tryz.prog 71 [.int .i64 0, .int .i64 0, .slice none 0 0, .int .i64 0, .int .i64 0, .slice none 0 0, .int .i64 0, .int .i64 0, .slice none 0 0, .int .i64 0, .int .i64 0, .slice none 0 0] := ⟨by kernel_rfl⟩
instance : HasZero Tryz.prog 97 [.int .i64 0, .int .i64 0] := ⟨by kernel_rfl⟩
instance : HasZero Tryz.prog 109 [.pointer none] := ⟨by kernel_rfl⟩
instance : HasZero Tryz.prog 118 [.int .i64 0, .int .i64 0, .slice none 0 0, .int .i64 0, .int .i64 0, .slice none 0 0, .bool false] := ⟨by kernel_rfl⟩
instance : HasZero Tryz.prog 127 [.slice none 0 0] := ⟨by kernel_rfl⟩
instance : HasZero Tryz.prog 158 [.int .i64 0, .int .i64 0, .int .i64 0, .int .i64 0] := ⟨by kernel_rfl⟩
instance : HasZero Tryz.prog 160 [.int .i64 0, .slice none 0 0] := ⟨by kernel_rfl⟩
instance : HasZero Tryz.prog 170 [.nilFunc] := ⟨by kernel_rfl⟩
instance : HasZero Tryz.prog 173 [] := ⟨by kernel_rfl⟩
instance : HasZero Tryz.prog 177 [.slice none 0 0, .slice none 0 0, .slice none 0 0, .int .i64 0, .slice none 0 0, .bool false] := ⟨by kernel_rfl⟩
instance : HasZero Tryz.prog 227 [.int .u64 0] := ⟨by kernel_rfl⟩
instance : IsB Tryz.prog 4 := ⟨by kernel_rfl⟩
instance : HasInt Tryz.prog 3 .i64 := ⟨by kernel_rfl⟩
instance : HasInt Tryz.prog 5 .u8 := ⟨by kernel_rfl⟩
instance : HasInt Tryz.prog 134 .u64 := ⟨by kernel_rfl⟩
instance : HasInt Tryz.prog 148 .u64 := ⟨by kernel_rfl⟩
instance : HasInt Tryz.prog 195 .u32 := ⟨by kernel_rfl⟩
instance : HasInt Tryz.prog 227 .u64 := ⟨by kernel_rfl⟩
theorem key158 : Go.Maps.Keyed Tryz.prog 158 := Go.Maps.Keyed.of_law (deep_law_laid laidOut (m := 3) (by omega) (of_decide_eq_true (by kernel_rfl)) (by kernel_rfl) (by kernel_rfl))
instance : HasMap Tryz.prog 197 (158, 210) := ⟨by kernel_rfl, key158, by kernel_rfl⟩
instance : HasBuild Tryz.prog 25 ([.slice none 0 0, .slice none 0 0], [(0, 1), (1, 1)]) := ⟨by kernel_rfl⟩
instance : HasBuild Tryz.prog 29 ([.int .i64 0, .int .i64 0, .slice none 0 0, .int .i64 0, .int .i64 0, .slice none 0 0], [(0, 1), (1, 1), (2, 1), (3, 1), (4, 1), (5, 1)]) := ⟨by kernel_rfl⟩
instance : HasBuild Tryz.prog 71 ([.int .i64 0, .int .i64 0, .slice none 0 0, .int .i64 0, .int .i64 0, .slice none 0 0, .int .i64 0, .int .i64 0, .slice none 0 0, .int .i64 0, .int .i64 0, .slice none 0 0], [(0, 6), (6, 6)]) := ⟨by kernel_rfl⟩
instance : HasBuild Tryz.prog 97 ([.int .i64 0, .int .i64 0], [(0, 1), (1, 1)]) := ⟨by kernel_rfl⟩
instance : HasBuild Tryz.prog 118 ([.int .i64 0, .int .i64 0, .slice none 0 0, .int .i64 0, .int .i64 0, .slice none 0 0, .bool false], [(0, 6), (6, 1)]) := ⟨by kernel_rfl⟩
instance : HasBuild Tryz.prog 138 ([.slice none 0 0, .slice none 0 0, .int .u64 0, .int .u64 0, .int .u64 0, .int .u64 0, .int .u64 0, .int .u64 0, .int .u64 0, .int .u64 0, .int .u64 0, .int .u64 0, .int .u64 0, .int .u64 0, .int .u64 0, .int .u64 0, .int .u64 0, .int .u64 0, .int .u64 0, .int .u64 0, .int .u64 0, .int .u64 0, .int .u64 0, .int .u64 0, .int .u64 0, .int .u64 0, .int .u64 0, .int .u64 0, .int .u64 0, .int .u64 0, .int .u64 0, .int .u64 0, .int .u64 0, .int .u64 0, .int .u64 0, .int .u64 0, .int .u64 0, .int .u64 0, .int .u64 0, .int .u64 0, .int .u64 0, .int .u64 0, .int .u64 0, .int .u64 0, .int .u64 0, .int .u64 0, .int .u64 0, .int .u64 0, .int .u64 0, .int .u64 0, .int .u64 0, .int .u64 0, .int .u64 0, .int .u64 0, .int .u64 0, .int .u64 0, .int .u64 0, .int .u64 0, .int .u64 0, .int .u64 0, .int .u64 0, .int .u64 0, .int .u64 0, .int .u64 0, .int .u64 0], [(0, 2), (2, 63)]) := ⟨by kernel_rfl⟩
instance : HasBuild Tryz.prog 154 ([.pointer none, .slice none 0 0, .slice none 0 0], [(0, 1), (1, 1), (2, 1)]) := ⟨by kernel_rfl⟩
instance : HasBuild Tryz.prog 158 ([.int .i64 0, .int .i64 0, .int .i64 0, .int .i64 0], [(0, 1), (1, 1), (2, 2)]) := ⟨by kernel_rfl⟩
instance : HasBuild Tryz.prog 160 ([.int .i64 0, .slice none 0 0], [(0, 1), (1, 1)]) := ⟨by kernel_rfl⟩
instance : HasBuild Tryz.prog 173 ([], []) := ⟨by kernel_rfl⟩
instance : HasBuild Tryz.prog 177 ([.slice none 0 0, .slice none 0 0, .slice none 0 0, .int .i64 0, .slice none 0 0, .bool false], [(0, 2), (2, 1), (3, 1), (4, 1), (5, 1)]) := ⟨by kernel_rfl⟩
instance : HasBuild Tryz.prog 199 ([.pointer none, .map none], [(0, 1), (1, 1)]) := ⟨by kernel_rfl⟩
instance : HasBuild Tryz.prog 207 ([.int .i64 0, .int .i64 0, .slice none 0 0], [(0, 1), (1, 1), (2, 1)]) := ⟨by kernel_rfl⟩
instance : HasBuild Tryz.prog 209 ([.int .i64 0, .int .i64 0, .slice none 0 0, .int .u64 0, .int .u64 0, .bool false, .bool false, .slice none 0 0], [(0, 3), (3, 1), (4, 1), (5, 1), (6, 1), (7, 1)]) := ⟨by kernel_rfl⟩
instance : HasRow Tryz.prog 22 (1, [.slice none 0 0]) := ⟨by kernel_rfl⟩
instance : HasRow Tryz.prog 23 (1, [.int .i64 0]) := ⟨by kernel_rfl⟩
instance : HasRow Tryz.prog 27 (6, [.int .i64 0, .int .i64 0, .slice none 0 0, .int .i64 0, .int .i64 0, .slice none 0 0]) := ⟨by kernel_rfl⟩
instance : HasRow Tryz.prog 30 (2, [.int .i64 0, .slice none 0 0]) := ⟨by kernel_rfl⟩
instance : HasRow Tryz.prog 31 (2, [.int .i64 0, .int .i64 0]) := ⟨by kernel_rfl⟩
instance : HasRow Tryz.prog 34 (1, [.slice none 0 0]) := ⟨by kernel_rfl⟩
instance : HasRow Tryz.prog 115 (7, [.int .i64 0, .int .i64 0, .slice none 0 0, .int .i64 0, .int .i64 0, .slice none 0 0, .bool false]) := ⟨by kernel_rfl⟩
instance : HasRow Tryz.prog 127 (1, [.slice none 0 0]) := ⟨by kernel_rfl⟩
instance : HasRow Tryz.prog 141 (12, [.int .i64 0, .int .i64 0, .slice none 0 0, .int .i64 0, .int .i64 0, .slice none 0 0, .int .i64 0, .int .i64 0, .slice none 0 0, .int .i64 0, .int .i64 0, .slice none 0 0]) := ⟨by kernel_rfl⟩
instance : HasRow Tryz.prog 152 (1, [.int .u64 0]) := ⟨by kernel_rfl⟩
instance : HasApp Tryz.prog 22 (23, 1, 24) := ⟨by kernel_rfl⟩
instance : HasApp Tryz.prog 23 (3, 1, 8) := ⟨by kernel_rfl⟩
instance : HasApp Tryz.prog 27 (29, 6, 80) := ⟨by kernel_rfl⟩
instance : HasApp Tryz.prog 30 (160, 2, 32) := ⟨by kernel_rfl⟩
instance : HasApp Tryz.prog 31 (97, 2, 16) := ⟨by kernel_rfl⟩
instance : HasApp Tryz.prog 34 (27, 1, 24) := ⟨by kernel_rfl⟩
instance : HasApp Tryz.prog 115 (118, 7, 88) := ⟨by kernel_rfl⟩
instance : HasApp Tryz.prog 127 (115, 1, 24) := ⟨by kernel_rfl⟩
instance : HasApp Tryz.prog 152 (135, 1, 8) := ⟨by kernel_rfl⟩
theorem mixed : Tryz.prog.follows .mixedOrders = true := by kernel_rfl
end Go.Proofs.YtiljpbljebfhnaaGreat

set_option linter.unusedVariables false
namespace Go.Eng
abbrev AV.ints (l : List Int) : AV := .sl 1 (l.map fun n => [AV.i n])
abbrev AV.intss (l : List (List Int)) : AV := .sl 1 (l.map fun x => [AV.ints x])
theorem retB {a b : Bool} (h : a = b) : tupOf [AV.b a] = AV.b b := by subst h; rfl
theorem retI {a b : Int} (h : a = b) : tupOf [AV.i a] = AV.i b := by subst h; rfl
theorem bv64 (n : Nat) (h : n < 18446744073709551616) : (BitVec.ofInt IntKind.u64.bits (n : Int)).toNat = n := by
 simp [IntKind.bits]
 omega
theorem u64_wrap (n : Nat) (h : n < 18446744073709551616) : IntKind.u64.wrap (n : Int) = n := by
 simp only [IntKind.wrap, IntKind.bits, IntKind.signed]
 simp
 omega
theorem bit_or (s t : Nat) (hs : s < 18446744073709551616) (ht : t < 18446744073709551616) : bitI .or .u64 (s : Int) (t : Int) = some ((s ||| t : Nat) : Int) := by
 show some (IntKind.u64.wrap _) = _
 rw [BitVec.toNat_or, bv64 s hs, bv64 t ht, u64_wrap _ (Nat.or_lt_two_pow (n := 64) hs ht)]
theorem bit_and (s t : Nat) (hs : s < 18446744073709551616) (ht : t < 18446744073709551616) : bitI .and .u64 (s : Int) (t : Int) = some ((s &&& t : Nat) : Int) := by
 show some (IntKind.u64.wrap _) = _
 rw [BitVec.toNat_and, bv64 s hs, bv64 t ht, u64_wrap _ (Nat.lt_of_le_of_lt Nat.and_le_left hs)]
def andNotP (s t : Nat) : Nat := (BitVec.ofNat 64 s &&& ~~~BitVec.ofNat 64 t).toNat
theorem bit_andNot (s t : Nat) : bitI .andNot .u64 (s : Int) (t : Int) = some (andNotP s t : Int) := by
 show some (IntKind.u64.wrap _) = _
 have e : ∀ n : Nat, BitVec.ofInt IntKind.u64.bits (n : Int) = BitVec.ofNat 64 n := fun n => by simp [IntKind.bits]
 rw [e, e, u64_wrap _ (by exact BitVec.isLt (w := 64) _)]
 rfl
theorem sh_right (s : Nat) (c : Int) : shI .shr .u64 (s : Int) c = some ((s / 2 ^ min c.toNat 64 : Nat) : Int) := by
 show some ((s : Int).fdiv (2 ^ (min c.toNat 64))) = _
 congr 1
 have : ((2 : Int) ^ min c.toNat 64) = ((2 ^ min c.toNat 64 : Nat) : Int) := by simp
 rw [this]
 exact (Int.ofNat_fdiv _ _).symm
theorem sh_left (c : Int) (h : 0 ≤ c ∧ c < 64) : shI .shl .u64 1 c = some ((2 ^ c.toNat : Nat) : Int) := by
 show some (IntKind.u64.wrap _) = _
 have e : min c.toNat IntKind.u64.bits = c.toNat := Nat.min_eq_left (by simp [IntKind.bits]; omega)
 have h2 : (1 : Int) * 2 ^ (min c.toNat IntKind.u64.bits) = ((2 ^ c.toNat : Nat) : Int) := by rw [e]; simp
 rw [h2, u64_wrap _ (Nat.pow_lt_pow_right (a := 2) (n := 64) (by omega) (by omega))]
theorem has_bit (s : Nat) (c : Int) (hs : s < 18446744073709551616) : ((((s / 2 ^ min c.toNat 64) &&& 1 : Nat) : Int) == 1) = s.testBit c.toNat := by
 rw [Nat.and_one_is_mod]
 have key : s.testBit c.toNat = decide (s / 2 ^ min c.toNat 64 % 2 = 1) := by
  by_cases h : c.toNat ≤ 64
  ·rw [Nat.min_eq_left h, Nat.testBit_eq_decide_div_mod_eq]
  ·rw [Nat.min_eq_right (by omega), Nat.testBit_lt_two_pow (Nat.lt_of_lt_of_le hs (Nat.pow_le_pow_right (n := 2) (i := 64) (by omega) (by omega)))]
   rw [Nat.div_eq_of_lt (by omega)]
   simp
 rw [key]
 rcases Nat.mod_two_eq_zero_or_one (s / 2 ^ min c.toNat 64) with h | h <;> rw [h] <;> rfl
namespace Fc
inductive Fact where
 | mk (op arg : Int) (path : List Int) (cls n : Int) (kids : List Fact)
def Fact.op : Fact → Int | .mk x _ _ _ _ _ => x
def Fact.arg : Fact → Int | .mk _ x _ _ _ _ => x
def Fact.path : Fact → List Int | .mk _ _ x _ _ _ => x
def Fact.cls : Fact → Int | .mk _ _ _ x _ _ => x
def Fact.n : Fact → Int | .mk _ _ _ _ x _ => x
def Fact.kids : Fact → List Fact | .mk _ _ _ _ _ x => x
instance : Inhabited Fact := ⟨.mk 0 0 [] 0 0 []⟩
mutual
def encF : Fact → List AV
 | .mk op arg path cls n kids => [.i op, .i arg, AV.ints path, .i cls, .i n, .sl 6 (encFs kids)]
def encFs : List Fact → List (List AV)
 | [] => []
 | f :: r => encF f :: encFs r
end
def Fcells (f : Fact) : List AV := [.i f.op, .i f.arg, AV.ints f.path, .i f.cls, .i f.n, .sl 6 (encFs f.kids)]
theorem encF_eq (f : Fact) : encF f = Fcells f := by cases f; rfl
theorem encFs_map : ∀ l : List Fact, encFs l = l.map Fcells
 | [] => rfl
 | f :: r => by rw [encFs, encF_eq, encFs_map r]; rfl
instance : MapLike encFs Fcells := ⟨encFs_map⟩
abbrev AV.facts (l : List Fact) : AV := .sl 6 (encFs l)
theorem AVle_facts {els : List (List AV)} (l : List Fact) (h : els = l.map Fcells) : AVle (.sl 6 els) (AV.facts l) := by subst h; rw [← encFs_map]; exact .refl _
abbrev AV.fact (f : Fact) : AV := .agg (Fcells f)
mutual
def Fact.eqb : Fact → Fact → Bool
 | .mk a b c d e f, .mk a' b' c' d' e' f' => a == a' && b == b' && d == d' && e == e' && c == c' && Fact.eqbs f f'
def Fact.eqbs : List Fact → List Fact → Bool
 | [], [] => true
 | x :: r, y :: s => Fact.eqb x y && Fact.eqbs r s
 | _, _ => false
end
mutual
theorem Fact.eqb_iff : ∀ x y : Fact, Fact.eqb x y = true ↔ x = y
 | .mk a b c d e f, .mk a' b' c' d' e' f' => by
  rw [Fact.eqb]
  simp only [Bool.and_eq_true, beq_iff_eq, Fact.eqbs_iff f f', Fact.mk.injEq]
  constructor
  ·rintro ⟨⟨⟨⟨⟨h1, h2⟩, h3⟩, h4⟩, h5⟩, h6⟩; exact ⟨h1, h2, h5, h3, h4, h6⟩
  ·rintro ⟨h1, h2, h5, h3, h4, h6⟩; exact ⟨⟨⟨⟨⟨h1, h2⟩, h3⟩, h4⟩, h5⟩, h6⟩
theorem Fact.eqbs_iff : ∀ x y : List Fact, Fact.eqbs x y = true ↔ x = y
 | [], [] => by simp [Fact.eqbs]
 | [], _ :: _ => by simp [Fact.eqbs]
 | _ :: _, [] => by simp [Fact.eqbs]
 | x :: r, y :: s => by
  rw [Fact.eqbs]
  simp only [Bool.and_eq_true, Fact.eqb_iff x y, Fact.eqbs_iff r s, List.cons.injEq]
end
instance : BEq Fact := ⟨Fact.eqb⟩
instance : LawfulBEq Fact where
 eq_of_beq h := (Fact.eqb_iff _ _).1 h
 rfl := (Fact.eqb_iff _ _).2 rfl
instance : DecidableEq Fact := fun a b => if h : Fact.eqb a b = true then isTrue ((Fact.eqb_iff a b).1 h) else isFalse fun e => h ((Fact.eqb_iff a b).2 e)
theorem Fact.ext' {x y : Fact} (h1 : x.op = y.op) (h2 : x.arg = y.arg) (h3 : x.path = y.path) (h4 : x.cls = y.cls) (h5 : x.n = y.n) (h6 : x.kids = y.kids) : x = y := by
 cases x; cases y; simp only [Fact.op, Fact.arg, Fact.path, Fact.cls, Fact.n, Fact.kids] at *; subst_vars; rfl
mutual
theorem Fact.ind1 {P : Fact → Prop} (h : ∀ f, (∀ k ∈ f.kids, P k) → P f) : ∀ f, P f
 | .mk a b c d e f => h _ (Fact.ind2 h f)
theorem Fact.ind2 {P : Fact → Prop} (h : ∀ f, (∀ k ∈ f.kids, P k) → P f) : ∀ l : List Fact, ∀ k ∈ l, P k
 | [], _, hk => by cases hk
 | x :: r, k, hk => by
  rcases List.mem_cons.1 hk with e | hk
  ·rw [e]; exact Fact.ind1 h x
  ·exact Fact.ind2 h r k hk
end
mutual
def smallB : Fact → Bool
 | .mk _ _ path _ _ kids => decide (path.length ≤ 1000) && decide (kids.length ≤ 1000) && smallBs kids
def smallBs : List Fact → Bool
 | [] => true
 | f :: r => smallB f && smallBs r
end
theorem smallBs_mem : ∀ {l : List Fact}, smallBs l = true → ∀ k ∈ l, smallB k = true
 | [], _, k, hk => by cases hk
 | x :: r, h, k, hk => by
  rw [smallBs, Bool.and_eq_true] at h
  rcases List.mem_cons.1 hk with e | hk
  ·rw [e]; exact h.1
  ·exact smallBs_mem h.2 k hk
theorem small_path {f : Fact} (h : smallB f = true) : f.path.length ≤ 1000 := by cases f; rw [smallB] at h; simp at h; exact h.1.1
theorem small_kids {f : Fact} (h : smallB f = true) : f.kids.length ≤ 1000 := by cases f; rw [smallB] at h; simp at h; exact h.1.2
theorem small_kid {f : Fact} (h : smallB f = true) : ∀ k ∈ f.kids, smallB k = true := by
 cases f; rw [smallB] at h; simp only [Bool.and_eq_true] at h; exact smallBs_mem h.2
structure FLit where
 f : Fact
 neg : Bool
def Lcells (l : FLit) : List AV := [.i l.f.op, .i l.f.arg, AV.ints l.f.path, .i l.f.cls, .i l.f.n, .sl 6 (encFs l.f.kids), .b l.neg]
instance : Inhabited FLit := ⟨default, false⟩
abbrev AV.lit (l : FLit) : AV := .agg (Lcells l)
abbrev AV.lits (l : List FLit) : AV := .sl 7 (l.map Lcells)
structure FW where
 parents : List (List Int)
 owner : List Int
def Wcells (w : FW) : List AV := [AV.intss w.parents, AV.ints w.owner]
abbrev AV.set (s : Nat) : AV := .val (.int .u64 (s : Int))
def ownP (w : FW) (c : Int) : Bool := decide (3 ≤ c) && decide (c < 3 + w.parents.length)
def classP (w : FW) (c : Int) : Bool := decide (0 ≤ c) && decide (c < 3 + w.parents.length)
def slotP (w : FW) (s : Int) : Bool := decide (0 ≤ s) && decide (s < w.owner.length)
def upFold (U : List Nat) (i : Nat) (l : List Int) : Nat := l.foldl (fun s p => s ||| U.getD p.toNat 0) (1 ||| 2 ^ (3 + i))
def upsFrom : List (List Int) → Nat → List Nat → List Nat
 | [], _, U => U
 | l :: r, i, U => upsFrom r (i + 1) (U.set (3 + i) (upFold U i l))
def upsP (w : FW) : List Nat := upsFrom w.parents 0 ([1, 3, 5] ++ List.replicate 60 0)
def parentsP (i : Nat) : List Int → List Int → Bool
 | _, [] => true
 | seen, p :: r => !(decide (p < 3) || decide (p ≥ 3 + i) || seen.contains p) && parentsP i (seen ++ [p]) r
def parentssP : Nat → List (List Int) → Bool
 | _, [] => true
 | i, l :: r => parentsP i [] l && parentssP (i + 1) r
def worldP (w : FW) : Bool := decide (w.parents.length ≤ 60) && decide (w.owner.length ≤ 40) && parentssP 0 w.parents && w.owner.all (ownP w)
def Wptr (w : FW) : AV := .ptr (Wcells w ++ (upsP w).map fun s => AV.set s)
abbrev AV.world (w : FW) : AV := .agg (Wcells w)
def kidsP (op : Int) : Int := if op = 5 then 1 else if op = 6 ∨ op = 7 then 2 else 0
def leafP (f : Fact) : Bool := decide (2 ≤ f.op) && decide (f.op ≤ 4)
def pathP (w : FW) (l : List Int) : Bool := decide (l.length ≤ 2) && l.all (slotP w)
def badP (f : Fact) (left deep : Int) : Bool := decide (left < 0) || (deep == 0) || decide (f.op < 1) || decide (f.op > 7) || ((f.kids.length : Int) != kidsP f.op)
def plainP (f : Fact) : Bool := !((f.arg != 0) || decide ((f.path.length : Int) > 0) || (f.cls != 0) || (f.n != 0))
def argP (w : FW) (f : Fact) : Bool := !(decide (f.arg < 0) || decide (f.arg ≥ 3) || !pathP w f.path)
def leafOkP (w : FW) (f : Fact) : Bool := if f.op = 2 then (f.n == 0) && classP w f.cls else (f.cls == 0) && decide (f.n ≥ -1000000000) && decide (f.n ≤ 1000000000)
mutual
def nodeP (w : FW) : Fact → Int → Int → Bool × Int
 | .mk op arg path cls n kids, left, deep =>
  if badP (.mk op arg path cls n kids) (left - 1) deep then (false, left - 1)
  else if leafP (.mk op arg path cls n kids) then (argP w (.mk op arg path cls n kids) && leafOkP w (.mk op arg path cls n kids), left - 1)
  else if plainP (.mk op arg path cls n kids) then nodesP w kids (left - 1) (deep - 1)
  else (false, left - 1)
def nodesP (w : FW) : List Fact → Int → Int → Bool × Int
 | [], left, _ => (true, left)
 | k :: r, left, deep => if (nodeP w k left deep).1 then nodesP w r (nodeP w k left deep).2 deep else nodeP w k left deep
end
theorem nodeP_eq (w : FW) (f : Fact) (left deep : Int) : nodeP w f left deep = if badP f (left - 1) deep then (false, left - 1) else if leafP f then (argP w f && leafOkP w f, left - 1) else if plainP f then nodesP w f.kids (left - 1) (deep - 1) else (false, left - 1) := by
 cases f; rw [nodeP]; rfl
def formedP (w : FW) (f : Fact) : Bool := (nodeP w f 24 12).1
theorem nodesP_snoc (w : FW) (deep : Int) (x : Fact) : ∀ (l : List Fact) (left : Int), (nodesP w l left deep).1 = true → nodesP w (l ++ [x]) left deep = nodeP w x (nodesP w l left deep).2 deep
 | [], left, h => by
  show nodesP w [x] left deep = _
  rw [nodesP, nodesP, nodesP]
  by_cases hx : (nodeP w x left deep).1 = true
  ·rw [if_pos hx]; exact Prod.ext hx.symm rfl
  ·rw [if_neg hx]
 | k :: r, left, h => by
  rw [nodesP] at h
  show nodesP w (k :: (r ++ [x])) left deep = _
  rw [nodesP]
  by_cases hk : (nodeP w k left deep).1 = true
  ·rw [if_pos hk] at h
   rw [if_pos hk, nodesP_snoc w deep x r _ h, nodesP, if_pos hk]
  ·rw [if_neg hk] at h; exact absurd h hk
theorem nodesP_stop (w : FW) (deep : Int) (y : List Fact) : ∀ (l : List Fact) (left : Int), (nodesP w l left deep).1 = false → nodesP w (l ++ y) left deep = nodesP w l left deep
 | [], left, h => by rw [nodesP] at h; cases h
 | k :: r, left, h => by
  rw [nodesP] at h
  show nodesP w (k :: (r ++ y)) left deep = _
  rw [nodesP, nodesP]
  by_cases hk : (nodeP w k left deep).1 = true
  ·rw [if_pos hk] at h
   rw [if_pos hk, if_pos hk, nodesP_stop w deep y r _ h]
  ·rw [if_neg hk, if_neg hk]
mutual
theorem nodeP_left (w : FW) : ∀ (f : Fact) (left deep : Int), (nodeP w f left deep).2 ≤ left ∧ ((nodeP w f left deep).1 = true → 0 ≤ (nodeP w f left deep).2)
 | .mk op arg path cls n kids, left, deep => by
  rw [nodeP]
  by_cases h1 : badP (.mk op arg path cls n kids) (left - 1) deep = true
  ·rw [if_pos h1]; exact ⟨by simp; omega, by simp⟩
  ·rw [if_neg h1]
   have hl : ¬ (left - 1 < 0) := by
    intro h; apply h1; simp [badP, h]
   by_cases h2 : leafP (.mk op arg path cls n kids) = true
   ·rw [if_pos h2]; exact ⟨by simp; omega, fun _ => by simp; omega⟩
   ·rw [if_neg h2]
    by_cases h3 : plainP (.mk op arg path cls n kids) = true
    ·rw [if_pos h3]
     have := nodesP_left w kids (left - 1) (deep - 1) (by omega)
     exact ⟨by omega, this.2⟩
    ·rw [if_neg h3]; exact ⟨by simp; omega, by simp⟩
theorem nodesP_left (w : FW) : ∀ (l : List Fact) (left deep : Int), 0 ≤ left → (nodesP w l left deep).2 ≤ left ∧ ((nodesP w l left deep).1 = true → 0 ≤ (nodesP w l left deep).2)
 | [], left, deep, h => by rw [nodesP]; exact ⟨by simp, fun _ => h⟩
 | k :: r, left, deep, h => by
  rw [nodesP]
  have hk := nodeP_left w k left deep
  by_cases h1 : (nodeP w k left deep).1 = true
  ·rw [if_pos h1]
   have hr := nodesP_left w r (nodeP w k left deep).2 deep (hk.2 h1)
   exact ⟨by omega, hr.2⟩
  ·rw [if_neg h1]; exact hk
end
end Fc
end Go.Eng

set_option linter.unusedVariables false
set_option linter.unusedSimpArgs false
set_option maxRecDepth 10000
namespace Go.Proofs.YtiljpbljebfhnaaGreat
open Go.Eng
open Go.Eng.Fc
theorem take_succ_eq {la lb : List Int} {k : Nat} (hl : la.length = lb.length) (hk : k < la.length) (hp : la.take k = lb.take k) (h : la.getD k default = lb.getD k default) : la.take (k + 1) = lb.take (k + 1) := by
 rw [List.take_succ_eq_append_getElem hk, List.take_succ_eq_append_getElem (hl ▸ hk), hp]
 rw [List.getD_eq_getElem?_getD, List.getD_eq_getElem?_getD, List.getElem?_eq_getElem hk, List.getElem?_eq_getElem (hl ▸ hk)] at h
 simp at h
 rw [h]
theorem eq_end {la lb : List Int} {k : Nat} (hk : k ≤ la.length) (h1 : (la.length : Int) ≤ k) (h0 : (la.length : Int) = lb.length) (hp : la.take k = lb.take k) : true = (la == lb) := by
 have e1 : k = la.length := by omega
 subst e1
 have e2 : la.length = lb.length := by omega
 rw [List.take_length, e2, List.take_length] at hp
 simp [hp]
theorem ne_of_getD {la lb : List Int} {k : Nat} (h : la.getD k default ≠ lb.getD k default) : la ≠ lb := fun e => h (by rw [e])
theorem p97 (la lb : List Int) : PCall Tryz.prog 97 [AV.ints la, AV.ints lb] (.b (la == lb)) := by
 intro H
 refine ACall.mk' (n := 26) Tryz.func97 rfl (by kernel_rfl) rfl rfl (fun B I w0 => ?_)
 refine CW.boundM (t := 0) rfl (fun hb0 => ?_)
 refine CW.boundM (t := 1) rfl (fun hb1 => ?_)
 refine S2 ?_; refine Oas ?_; refine S5 ?_; refine Omv ?_; refine Oln ?_; refine Omv ?_; refine Oln ?_; refine Ocm ?_; refine S2 ?_
 refine CW.cond rfl (fun h0 => ?_) (fun h0 => ?_)
 ·
  replace h0 := nm h0
  refine S2 ?_; refine Oas ?_; refine S4 ?_
  refine r1 4 (H) ?_
  exact ⟨retB (by symm; simp; intro e; subst e; simp at h0), rfl⟩
 ·
  replace h0 := nm h0
  refine S5 ?_; refine Omv ?_; refine Oln ?_; refine Omv ?_; refine S3 ?_
  refine lj (fun m st => ∃ k : Nat, st = ⟨[(13, .i k), (12, .i la.length), (0, AV.ints la), (1, AV.ints lb)], H⟩ ∧ m = la.length - k ∧ k ≤ la.length ∧ la.take k = lb.take k) (⟨0, rfl, rfl, by simp, rfl⟩) ?_
  rintro m _ ⟨k, rfl, rfl, hk, hp⟩
  refine S2 ?_; refine Ocm ?_; refine S3 ?_
  refine CW.cond rfl (fun h1 => ?_) (fun h1 => ?_)
  ·
   replace h1 := nm h1
   refine S6 ?_; refine Omv ?_; refine Oas ?_; refine S3 ?_
   refine CW.dp mixed ?_
   refine DP.anyC 0 8 26 rfl (by decide +kernel) rfl rfl (by decide +kernel) ?_
   refine Amv ?_; refine Amv ?_; refine Aix ?_; refine Ald ?_; refine Amv ?_; refine Amv ?_; refine Aix ?_; refine Ald ?_
   refine AD.nil ?_
   refine DP.tailC 8 (by decide +kernel) rfl ?_
   refine Ocm ?_; refine S2 ?_
   refine CW.cond rfl (fun h2 => ?_) (fun h2 => ?_)
   ·
    replace h2 := nm h2
    refine S2 ?_; refine Oas ?_; refine S8 ?_
    refine r1 4 (H) ?_
    exact ⟨retB (by symm; simp; exact ne_of_getD h2), rfl⟩
   ·
    replace h2 := nm h2
    refine S4 ?_; refine Oar ?_; refine Omv ?_; refine S1 ?_
    exact ag (⟨k + 1, rfl, rfl, by omega, take_succ_eq (by omega) (by omega) hp h2⟩)
  ·
   replace h1 := nm h1
   refine S7 ?_; refine Oas ?_; refine S3 ?_
   refine r1 4 (H) ?_
   exact ⟨retB (eq_end hk h1 h0 hp), rfl⟩
theorem p41 (la lb : List Int) : PCall Tryz.prog 41 [AV.ints la, AV.ints lb] (.b (la == lb)) := by
 intro H
 refine ACall.mk' (n := 26) Tryz.func41 rfl (by kernel_rfl) rfl rfl (fun B I w0 => ?_)
 refine CW.boundM (t := 0) rfl (fun hb0 => ?_)
 refine CW.boundM (t := 1) rfl (fun hb1 => ?_)
 refine S2 ?_; refine Oas ?_; refine S5 ?_; refine Omv ?_; refine Oln ?_; refine Omv ?_; refine Oln ?_; refine Ocm ?_; refine S2 ?_
 refine CW.cond rfl (fun h0 => ?_) (fun h0 => ?_)
 ·
  replace h0 := nm h0
  refine S2 ?_; refine Oas ?_; refine S4 ?_
  refine r1 4 (H) ?_
  exact ⟨retB (by symm; simp; intro e; subst e; simp at h0), rfl⟩
 ·
  replace h0 := nm h0
  refine S5 ?_; refine Omv ?_; refine Oln ?_; refine Omv ?_; refine S3 ?_
  refine lj (fun m st => ∃ k : Nat, st = ⟨[(13, .i k), (12, .i la.length), (0, AV.ints la), (1, AV.ints lb)], H⟩ ∧ m = la.length - k ∧ k ≤ la.length ∧ la.take k = lb.take k) (⟨0, rfl, rfl, by simp, rfl⟩) ?_
  rintro m _ ⟨k, rfl, rfl, hk, hp⟩
  refine S2 ?_; refine Ocm ?_; refine S3 ?_
  refine CW.cond rfl (fun h1 => ?_) (fun h1 => ?_)
  ·
   replace h1 := nm h1
   refine S6 ?_; refine Omv ?_; refine Oas ?_; refine S3 ?_
   refine CW.dp mixed ?_
   refine DP.anyC 0 8 26 rfl (by decide +kernel) rfl rfl (by decide +kernel) ?_
   refine Amv ?_; refine Amv ?_; refine Aix ?_; refine Ald ?_; refine Amv ?_; refine Amv ?_; refine Aix ?_; refine Ald ?_
   refine AD.nil ?_
   refine DP.tailC 8 (by decide +kernel) rfl ?_
   refine Ocm ?_; refine S2 ?_
   refine CW.cond rfl (fun h2 => ?_) (fun h2 => ?_)
   ·
    replace h2 := nm h2
    refine S2 ?_; refine Oas ?_; refine S8 ?_
    refine r1 4 (H) ?_
    exact ⟨retB (by symm; simp; exact ne_of_getD h2), rfl⟩
   ·
    replace h2 := nm h2
    refine S4 ?_; refine Oar ?_; refine Omv ?_; refine S1 ?_
    exact ag (⟨k + 1, rfl, rfl, by omega, take_succ_eq (by omega) (by omega) hp h2⟩)
  ·
   replace h1 := nm h1
   refine S7 ?_; refine Oas ?_; refine S3 ?_
   refine r1 4 (H) ?_
   exact ⟨retB (eq_end hk h1 h0 hp), rfl⟩
theorem take_getD {α : Type} [Inhabited α] {l : List α} {k : Nat} (h : k < l.length) : l.take k ++ [l.getD k default] = l.take (k + 1) := by
 rw [List.take_succ_eq_append_getElem h, List.getD_eq_getElem?_getD, List.getElem?_eq_getElem h]; rfl
theorem split_getD {α : Type} [Inhabited α] {l : List α} {k : Nat} (h : k < l.length) : l = l.take k ++ l.getD k default :: l.drop (k + 1) := by
 rw [List.getD_eq_getElem?_getD, List.getElem?_eq_getElem h]; simp
theorem b150 {B : Nat} {f : Fn} {fs cs : List AV} {F : List Ent → Prop} {J Jx : List Int → List Ent → Prop} (l : List Int) (hg : FindOk B Tryz.prog (.fn f fs cs) AV.i l F J Jx) (H Hx : List Ent) (hF : F Hx) (hJ : J [] H) :
  BCall B Tryz.prog 150 [.sl 1 (l.map fun n => [AV.i n]), .fn f fs cs] (H ++ Hx) (FoundAt J Jx l Hx) (fun _ => False) := by
 refine BCall.of (n := 19) Tryz.func150 rfl (by kernel_rfl) rfl rfl (fun I w0 => ?_)
 refine CW.boundM (t := 0) rfl (fun hb0 => ?_)
 refine S2 ?_; refine Oas ?_; refine S5 ?_; refine Omv ?_; refine Oln ?_; refine Omv ?_; refine S3 ?_
 refine lj (fun m st => ∃ (k : Nat) (H1 : List Ent), st = ⟨[(8, .i k), (7, .i l.length), (0, .sl 1 (l.map fun n => [AV.i n])), (1, .fn f fs cs)], H1 ++ Hx⟩ ∧ m = l.length - k ∧ k ≤ l.length ∧ J (l.take k) H1) (⟨0, H, rfl, rfl, by simp, hJ⟩) ?_
 rintro m _ ⟨k, H1, rfl, rfl, hk, hJ1⟩
 refine S2 ?_; refine Ocm ?_; refine S3 ?_
 refine CW.cond rfl (fun h0 => ?_) (fun h0 => ?_)
 ·
  replace h0 := nm h0
  refine S6 ?_; refine Omv ?_; refine Oas ?_; refine S4 ?_; refine Omv ?_; refine Omv ?_; refine Omv ?_; refine Oix ?_; refine Old ?_
  refine OL.vcallC rfl rfl rfl rfl rfl rfl rfl rfl (AVleL.refl _) (hg (l.take k) (l.getD k default) H1 Hx (by rw [take_getD (by omega)]; exact List.take_prefix _ _) hF hJ1) ?_
  rintro _ _ ⟨b, H2, rfl, rfl, hb1, hb2⟩
  rw [take_getD (by omega)] at hb1 hb2
  refine S2 ?_
  refine CW.cond rfl (fun h1 => ?_) (fun h1 => ?_)
  ·
   replace h1 := nm h1
   refine S2 ?_; refine Omv ?_; refine Oas ?_; refine S8 ?_
   refine Done.retR (rs := [.tmp 4]) rfl (.tmp rfl (.nil)) (AVleL.refl _) (by repeat (first | exact List.Sublist.refl _ | refine List.Sublist.cons _ ?_)) ?_
   exact ⟨H2, rfl, .inr ⟨l.take k, l.getD k default, l.drop (k + 1), split_getD (by omega), retI (by rw [List.length_take, Nat.min_eq_left (by omega)]), by rw [take_getD (by omega)]; exact hb2 h1⟩⟩
  ·
   replace h1 := nm h1
   refine S4 ?_; refine Oar ?_; refine Omv ?_; refine S1 ?_
   exact ag (⟨k + 1, H2, rfl, rfl, by omega, hb1 h1⟩)
 ·
  replace h0 := nm h0
  refine S7 ?_; refine Oas ?_; refine S3 ?_
  refine Done.retR (rs := [.tmp 4]) rfl (.tmp rfl (.nil)) (AVleL.refl _) (by repeat (first | exact List.Sublist.refl _ | refine List.Sublist.cons _ ?_)) ?_
  exact ⟨H1, rfl, .inl ⟨rfl, by have e : k = l.length := (by omega); rw [e, List.take_length] at hJ1; exact hJ1⟩⟩
theorem q150 {Hm : List Ent} {f : Fn} {fs cs : List AV} {p : Int → Bool} {l : List Int} (hg : PredOn Tryz.prog Hm (.fn f fs cs) AV.i l p) : QCallIn Tryz.prog Hm 150 [.sl 1 (l.map fun n => [AV.i n]), .fn f fs cs] (fun y => ∃ n : Int, y = .i n ∧ decide (n ≥ 0) = l.any p) :=
 find_pure (by kernel_rfl) (fun B F J Jx h H Hx hF hJ => b150 l h H Hx hF hJ) hg
theorem pi193 {Hm : List Ent} {f : Fn} {fs cs : List AV} {p : Int → Bool} {l : List Int} (hg : PredOn Tryz.prog Hm (.fn f fs cs) AV.i l p) : PCallIn Tryz.prog Hm 193 [.sl 1 (l.map fun n => [AV.i n]), .fn f fs cs] (.b (l.any p)) := by
 intro H hm
 refine ACall.mk' (n := 9) Tryz.func193 rfl (by kernel_rfl) rfl rfl (fun B I w0 => ?_)
 refine S2 ?_; refine Oas ?_; refine S4 ?_; refine Omv ?_; refine Omv ?_
 refine OL.qcallIn rfl rfl rfl (.mk' rfl rfl rfl rfl rfl) (q150 hg) hm (fun y hy => ?_)
 obtain ⟨n, rfl, hn⟩ := hy
 refine Ocm ?_; refine Oas ?_; refine S3 ?_
 refine r1 4 (H) ?_
 exact ⟨retB hn, rfl⟩
theorem pi194 {Hm : List Ent} {f : Fn} {fs cs : List AV} {p : Int → Bool} {l : List Int} (hg : PredOn Tryz.prog Hm (.fn f fs cs) AV.i l p) (x : Int) (hx : x ∈ l) : PCallIn Tryz.prog Hm 194 [AV.i x, .ptr [.fn f fs cs]] (.b (!p x)) := by
 intro H hm
 refine ACall.mk' (n := 8) Tryz.func194 rfl (by kernel_rfl) rfl rfl (fun B I w0 => ?_)
 refine S2 ?_; refine Oas ?_; refine S4 ?_; refine Old ?_; refine Omv ?_
 refine OL.vcallC rfl rfl rfl rfl rfl rfl rfl rfl (AVleL.refl _) (hg x hx B H hm) ?_
 rintro _ Hn ⟨rfl, hH⟩
 have hH := hH.symm
 subst hH
 refine Ont ?_; refine Oas ?_; refine S3 ?_
 refine r1 3 (H) ?_
 exact ⟨by first | rfl | exact retI (by simp_all) | exact retB (by simp_all) | simp_all, rfl⟩
theorem pi152 {Hm : List Ent} {f : Fn} {fs cs : List AV} {p : Int → Bool} {l : List Int} (hg : PredOn Tryz.prog Hm (.fn f fs cs) AV.i l p) : PCallIn Tryz.prog Hm 152 [.sl 1 (l.map fun n => [AV.i n]), .fn f fs cs] (.b (l.all p)) := by
 intro H hm
 refine ACall.mk' (n := 9) Tryz.func152 rfl (by kernel_rfl) rfl rfl (fun B I w0 => ?_)
 refine S2 ?_; refine Obx ?_; refine Oas ?_; refine S4 ?_; refine Omv ?_; refine Omf ?_
 refine OL.popC rfl rfl rfl (POp.callIn (.mk' rfl rfl rfl rfl rfl) (AVleL.refl _) (pi193 (.of (fun x hx => pi194 hg x hx))) (fun e he => by repeat (first | exact hm e he | apply List.mem_cons_of_mem))) ?_
 refine Ont ?_; refine Oas ?_; refine S3 ?_
 refine r1 4 (H) ?_
 exact ⟨retB (by simp [List.not_any_eq_all_not]), rfl⟩
theorem p152 {f : Fn} {fs cs : List AV} {p : Int → Bool} (hg : PredOk Tryz.prog (.fn f fs cs) AV.i p) (l : List Int) : PCall Tryz.prog 152 [.sl 1 (l.map fun n => [AV.i n]), .fn f fs cs] (.b (l.all p)) := (pi152 (hg.on l)).pure
theorem b130 {B : Nat} {f : Fn} {fs cs : List AV} {F : List Ent → Prop} {J Jx : List Fact → List Ent → Prop} (l : List Fact) (hg : FindOk B Tryz.prog (.fn f fs cs) AV.fact l F J Jx) (H Hx : List Ent) (hF : F Hx) (hJ : J [] H) :
  BCall B Tryz.prog 130 [.sl 6 (encFs l), .fn f fs cs] (H ++ Hx) (FoundAt J Jx l Hx) (fun _ => False) := by
 refine BCall.of (n := 19) Tryz.func130 rfl (by kernel_rfl) rfl rfl (fun I w0 => ?_)
 refine CW.boundM (t := 0) rfl (fun hb0 => ?_)
 refine S2 ?_; refine Oas ?_; refine S5 ?_; refine Omv ?_; refine Oln ?_; refine Omv ?_; refine S3 ?_
 refine lj (fun m st => ∃ (k : Nat) (H1 : List Ent), st = ⟨[(8, .i k), (7, .i l.length), (0, .sl 6 (encFs l)), (1, .fn f fs cs)], H1 ++ Hx⟩ ∧ m = l.length - k ∧ k ≤ l.length ∧ J (l.take k) H1) (⟨0, H, rfl, rfl, by simp, hJ⟩) ?_
 rintro m _ ⟨k, H1, rfl, rfl, hk, hJ1⟩
 refine S2 ?_; refine Ocm ?_; refine S3 ?_
 refine CW.cond rfl (fun h0 => ?_) (fun h0 => ?_)
 ·
  replace h0 := nm h0
  refine S6 ?_; refine Omv ?_; refine Oas ?_; refine S4 ?_; refine Omv ?_; refine Omv ?_; refine Omv ?_; refine Oix ?_; refine Ola ?_
  refine OL.vcallC rfl rfl rfl rfl rfl rfl rfl rfl (AVleL.refl _) (hg (l.take k) (l.getD k default) H1 Hx (by rw [take_getD (by omega)]; exact List.take_prefix _ _) hF hJ1) ?_
  rintro _ _ ⟨b, H2, rfl, rfl, hb1, hb2⟩
  rw [take_getD (by omega)] at hb1 hb2
  refine S2 ?_
  refine CW.cond rfl (fun h1 => ?_) (fun h1 => ?_)
  ·
   replace h1 := nm h1
   refine S2 ?_; refine Omv ?_; refine Oas ?_; refine S8 ?_
   refine Done.retR (rs := [.tmp 4]) rfl (.tmp rfl (.nil)) (AVleL.refl _) (by repeat (first | exact List.Sublist.refl _ | refine List.Sublist.cons _ ?_)) ?_
   exact ⟨H2, rfl, .inr ⟨l.take k, l.getD k default, l.drop (k + 1), split_getD (by omega), retI (by rw [List.length_take, Nat.min_eq_left (by omega)]), by rw [take_getD (by omega)]; exact hb2 h1⟩⟩
  ·
   replace h1 := nm h1
   refine S4 ?_; refine Oar ?_; refine Omv ?_; refine S1 ?_
   exact ag (⟨k + 1, H2, rfl, rfl, by omega, hb1 h1⟩)
 ·
  replace h0 := nm h0
  refine S7 ?_; refine Oas ?_; refine S3 ?_
  refine Done.retR (rs := [.tmp 4]) rfl (.tmp rfl (.nil)) (AVleL.refl _) (by repeat (first | exact List.Sublist.refl _ | refine List.Sublist.cons _ ?_)) ?_
  exact ⟨H1, rfl, .inl ⟨rfl, by have e : k = l.length := (by omega); rw [e, List.take_length] at hJ1; exact hJ1⟩⟩
theorem p107 (s : Nat) (c : Int) (hc : 0 ≤ c) (hs : s < 18446744073709551616) : PCall Tryz.prog 107 [AV.set s, .i c] (.b (s.testBit c.toNat)) := by
 intro H
 refine ACall.mk' (n := 10) Tryz.func107 rfl (by kernel_rfl) rfl rfl (fun B I w0 => ?_)
 refine S2 ?_; refine Oas ?_; refine S4 ?_; refine Omv ?_; refine Omv ?_
 refine OL.popC rfl rfl rfl (POp.shift rfl rfl rfl rfl rfl hc (sh_right _ _)) ?_
 refine OL.popC rfl rfl rfl (POp.bits rfl rfl rfl rfl rfl (bit_and _ 1 (Nat.lt_of_le_of_lt (Nat.div_le_self _ _) hs) (by omega))) ?_
 refine Ocm ?_; refine Oas ?_; refine S3 ?_
 refine r1 4 (H) ?_
 exact ⟨retB (has_bit _ _ hs), rfl⟩
theorem p151 (s : Nat) (c : Int) (hc : 0 ≤ c ∧ c < 64) (hs : s < 18446744073709551616) : PCall Tryz.prog 151 [AV.set s, .i c] (AV.set (s ||| 2 ^ c.toNat)) := by
 intro H
 refine ACall.mk' (n := 9) Tryz.func151 rfl (by kernel_rfl) rfl rfl (fun B I w0 => ?_)
 refine S2 ?_; refine Oas ?_; refine S4 ?_; refine Omv ?_; refine Omv ?_
 refine OL.popC rfl rfl rfl (POp.shift rfl rfl rfl rfl rfl hc.1 (sh_left _ hc)) ?_
 refine OL.popC rfl rfl rfl (POp.bits rfl rfl rfl rfl rfl (bit_or _ _ hs (Nat.pow_lt_pow_right (a := 2) (n := 64) (by omega) (by omega)))) ?_
 refine Oas ?_; refine S3 ?_
 refine r1 4 (H) ?_
 exact ⟨by first | rfl | exact retI (by simp_all) | exact retB (by simp_all) | simp_all, rfl⟩
theorem p109 (b : Bool) : PCall Tryz.prog 109 [.b b] (.i (if b then 0 else 2)) := by
 intro H
 refine ACall.mk' (n := 5) Tryz.func109 rfl (by kernel_rfl) rfl rfl (fun B I w0 => ?_)
 refine S2 ?_; refine Oas ?_; refine S5 ?_; refine Omv ?_; refine Ont ?_; refine S2 ?_
 refine CW.cond rfl (fun h0 => ?_) (fun h0 => ?_)
 ·
  replace h0 := nm h0
  refine S2 ?_; refine Oas ?_; refine S4 ?_
  refine r1 2 (H) ?_
  exact ⟨retI (by simp_all), rfl⟩
 ·
  replace h0 := nm h0
  refine S4 ?_; refine Oas ?_; refine S3 ?_
  refine r1 2 (H) ?_
  exact ⟨retI (by simp_all), rfl⟩
theorem p134 (f : Fact) : PCall Tryz.prog 134 [AV.fact f] (.b (decide (2 ≤ f.op) && decide (f.op ≤ 4))) := by
 intro H
 refine ACall.mk' (n := 11) Tryz.func134 rfl (by kernel_rfl) rfl rfl (fun B I w0 => ?_)
 refine S2 ?_; refine Obx ?_; refine Oas ?_; refine S4 ?_; refine Ofa ?_; refine Old ?_; refine Ocm ?_; refine Omv ?_; refine Pfa ?_; refine Pld ?_; refine Pcm ?_; refine Opk ?_
 refine Oas ?_; refine S3 ?_
 refine r1 2 (H) ?_
 exact ⟨retB (by by_cases h : 2 ≤ f.op <;> simp [h]), rfl⟩
theorem p210 (op : Int) : PCall Tryz.prog 210 [.i op] (.i (if op = 5 then 1 else if op = 6 ∨ op = 7 then 2 else 0)) := by
 intro H
 refine ACall.mk' (n := 9) Tryz.func210 rfl (by kernel_rfl) rfl rfl (fun B I w0 => ?_)
 refine S2 ?_; refine Oas ?_; refine S5 ?_; refine Omv ?_; refine S5 ?_; refine Ocm ?_; refine Oas ?_; refine S2 ?_
 refine CW.cond rfl (fun h0 => ?_) (fun h0 => ?_)
 ·
  replace h0 := nm h0
  refine S2 ?_; refine Oas ?_; refine S5 ?_
  refine r1 2 (H) ?_
  exact ⟨by first | rfl | exact retI (by simp_all) | exact retB (by simp_all) | simp_all, rfl⟩
 ·
  replace h0 := nm h0
  refine S3 ?_; refine Ocm ?_; refine Oas ?_; refine S2 ?_
  refine CW.cond rfl (fun h1 => ?_) (fun h1 => ?_)
  ·
   replace h1 := nm h1
   refine S2 ?_
   refine CW.cond rfl (fun h2 => ?_) (fun h2 => ?_)
   ·
    replace h2 := nm h2
    refine S2 ?_; refine Oas ?_; refine S5 ?_
    refine r1 2 (H) ?_
    exact ⟨by first | rfl | exact retI (by simp_all) | exact retB (by simp_all) | simp_all, rfl⟩
   ·
    replace h2 := nm h2
    refine S5 ?_; refine Oas ?_; refine S3 ?_
    refine r1 2 (H) ?_
    exact ⟨by first | rfl | exact retI (by simp_all) | exact retB (by simp_all) | simp_all, rfl⟩
  ·
   replace h1 := nm h1
   refine S1 ?_; refine Ocm ?_; refine Oas ?_; refine S2 ?_
   refine CW.cond rfl (fun h3 => ?_) (fun h3 => ?_)
   ·
    replace h3 := nm h3
    refine S2 ?_; refine Oas ?_; refine S5 ?_
    refine r1 2 (H) ?_
    exact ⟨by first | rfl | exact retI (by simp_all) | exact retB (by simp_all) | simp_all, rfl⟩
   ·
    replace h3 := nm h3
    refine S5 ?_; refine Oas ?_; refine S3 ?_
    refine r1 2 (H) ?_
    exact ⟨by first | rfl | exact retI (by simp_all) | exact retB (by simp_all) | simp_all, rfl⟩
theorem p153 (W : FW) (c : Int) (hW : W.parents.length ≤ 60) : PCall Tryz.prog 153 [Wptr W, .i c] (.b (ownP W c)) := by
 intro H
 refine ACall.mk' (n := 18) Tryz.func153 rfl (by kernel_rfl) rfl rfl (fun B I w0 => ?_)
 unfold Wptr
 refine CW.boundP (t := 0) (i := 0) rfl rfl (fun hb => ?_)
 refine S2 ?_; refine Oas ?_; refine S4 ?_; refine Omv ?_; refine Ocm ?_; refine Omv ?_; refine Pmv ?_; refine Pmv ?_; refine Pnc ?_; refine Pfa ?_; refine Pfa ?_; refine Pld ?_
 refine Pln ?_; refine Par ?_; refine Pcm ?_; refine Opk ?_; refine Oas ?_; refine S3 ?_
 refine r1 4 (H) ?_
 exact ⟨retB (by unfold ownP; by_cases h : 3 ≤ c <;> simp [h]), rfl⟩
theorem p106 (W : FW) (c : Int) (hW : W.parents.length ≤ 60) : PCall Tryz.prog 106 [Wptr W, .i c] (.b (classP W c)) := by
 intro H
 refine ACall.mk' (n := 18) Tryz.func106 rfl (by kernel_rfl) rfl rfl (fun B I w0 => ?_)
 unfold Wptr
 refine CW.boundP (t := 0) (i := 0) rfl rfl (fun hb => ?_)
 refine S2 ?_; refine Oas ?_; refine S4 ?_; refine Omv ?_; refine Ocm ?_; refine Omv ?_; refine Pmv ?_; refine Pmv ?_; refine Pnc ?_; refine Pfa ?_; refine Pfa ?_; refine Pld ?_
 refine Pln ?_; refine Par ?_; refine Pcm ?_; refine Opk ?_; refine Oas ?_; refine S3 ?_
 refine r1 4 (H) ?_
 exact ⟨retB (by unfold classP; by_cases h : 0 ≤ c <;> simp [h]), rfl⟩
theorem p177 (W : FW) (c : Int) : PCall Tryz.prog 177 [Wptr W, .i c] (.b (slotP W c)) := by
 intro H
 refine ACall.mk' (n := 17) Tryz.func177 rfl (by kernel_rfl) rfl rfl (fun B I w0 => ?_)
 unfold Wptr
 refine S2 ?_; refine Oas ?_; refine S4 ?_; refine Omv ?_; refine Ocm ?_; refine Omv ?_; refine Pmv ?_; refine Pmv ?_; refine Pnc ?_; refine Pfa ?_; refine Pfa ?_; refine Pld ?_
 refine Pln ?_; refine Pcm ?_; refine Opk ?_; refine Oas ?_; refine S3 ?_
 refine r1 4 (H) ?_
 exact ⟨retB (by unfold slotP; by_cases h : 0 ≤ c <;> simp [h]), rfl⟩
theorem found_cases {α : Type} {J Jx : List α → List Ent → Prop} {l : List α} {Hx : List Ent} {y : AV} {H' : List Ent} (h : FoundAt J Jx l Hx y H') : ∃ (n : Int) (H1 : List Ent), y = .i n ∧ H' = H1 ++ Hx ∧ (decide (n ≥ 0) = false → J l H1) ∧ (decide (n ≥ 0) = true → ∃ pre, pre <+: l ∧ Jx pre H1) := by
 obtain ⟨H1, rfl, h⟩ := h
 rcases h with ⟨rfl, h⟩ | ⟨pre, x, rest, rfl, rfl, h⟩
 ·exact ⟨-1, H1, rfl, rfl, fun _ => h, fun h => by simp at h⟩
 ·exact ⟨pre.length, H1, rfl, rfl, fun h => by simp at h, fun _ => ⟨pre ++ [x], ⟨rest, by simp⟩, h⟩⟩
theorem b76 {B : Nat} {f : Fn} {fs cs : List AV} {F : List Ent → Prop} {J Jx : List Fact → List Ent → Prop} (l : List Fact) (hg : FindOk B Tryz.prog (.fn f fs cs) AV.fact l F J Jx) (H Hx : List Ent) (hF : F Hx) (hJ : J [] H) :
  BCall B Tryz.prog 76 [.sl 6 (encFs l), .fn f fs cs] (H ++ Hx) (fun y H' => ∃ b H1, y = .b b ∧ H' = H1 ++ Hx ∧ (b = false → J l H1) ∧ (b = true → ∃ pre, pre <+: l ∧ Jx pre H1)) (fun _ => False) := by
 refine BCall.of (n := 9) Tryz.func76 rfl (by kernel_rfl) rfl rfl (fun I w0 => ?_)
 refine S2 ?_; refine Oas ?_; refine S4 ?_; refine Omv ?_; refine Omv ?_
 refine OL.bcallC rfl rfl rfl (.mk' rfl rfl rfl rfl rfl) (b130 l hg H Hx hF hJ) ?_
 intro y H' hy
 obtain ⟨n, H1, rfl, rfl, hn⟩ := found_cases hy
 refine Ocm ?_; refine Oas ?_; refine S3 ?_
 refine Done.retR (rs := [.tmp 4]) rfl (.tmp rfl (.nil)) (AVleL.refl _) (by repeat (first | exact List.Sublist.refl _ | refine List.Sublist.cons _ ?_)) ?_
 exact ⟨decide (n ≥ 0), H1, rfl, rfl, hn⟩
theorem b209 {B : Nat} {f : Fn} {fs cs : List AV} {J Jx : List Fact → List Ent → Prop} {L : List Fact} (hg : CbOk B Tryz.prog (.fn f fs cs) AV.fact L (fun _ => True) J Jx) (pre : List Fact) (x : Fact) (H Hx : List Ent) (hpx : pre ++ [x] <+: L) (hJ : J pre H) :
  BCall B Tryz.prog 209 [AV.fact x, .ptr [.fn f fs cs]] (H ++ Hx) (fun y H' => ∃ b H1, y = .b b ∧ H' = H1 ++ Hx ∧ (b = false → J (pre ++ [x]) H1) ∧ (b = true → Jx (pre ++ [x]) H1)) (fun _ => False) := by
 refine BCall.of (n := 8) Tryz.func209 rfl (by kernel_rfl) rfl rfl (fun I w0 => ?_)
 refine S2 ?_; refine Obx ?_; refine Oas ?_; refine S4 ?_; refine Old ?_; refine Ola ?_
 refine OL.vcallC rfl rfl rfl rfl rfl rfl rfl rfl (AVleL.refl _) (hg pre x H Hx hpx trivial hJ) ?_
 rintro _ _ ⟨b, H1, rfl, rfl, h1, h2⟩
 refine Ont ?_; refine Oas ?_; refine S3 ?_
 refine Done.retR (rs := [.tmp 3]) rfl (.tmp rfl (.nil)) (AVleL.refl _) (by repeat (first | exact List.Sublist.refl _ | refine List.Sublist.cons _ ?_)) ?_
 exact ⟨!b, H1, rfl, rfl, fun h => h1 (by simpa using h), fun h => h2 (by simpa using h)⟩
theorem b180 {B : Nat} {f : Fn} {fs cs : List AV} {J Jx : List Fact → List Ent → Prop} (l : List Fact) (hg : CbOk B Tryz.prog (.fn f fs cs) AV.fact l (fun _ => True) J Jx) (H Hx : List Ent) (hJ : J [] H) :
  BCall B Tryz.prog 180 [.sl 6 (encFs l), .fn f fs cs] (H ++ Hx) (fun y H' => ∃ b H1, y = .b b ∧ H' = H1 ++ Hx ∧ (b = true → J l H1) ∧ (b = false → ∃ pre, pre <+: l ∧ Jx pre H1)) (fun _ => False) := by
 refine BCall.of (n := 9) Tryz.func180 rfl (by kernel_rfl) rfl rfl (fun I w0 => ?_)
 refine S2 ?_; refine Obx ?_; refine Oas ?_; refine S4 ?_; refine Omv ?_; refine Omf ?_
 refine OL.bcallC rfl rfl rfl (.mk' rfl rfl rfl rfl rfl) (b76 (F := fun _ => True) (J := J) (Jx := Jx) l (fun pre x H Hx hpx _ hJ => VCall.fnB (b209 hg pre x H Hx hpx hJ)) H Hx trivial hJ) ?_
 rintro _ _ ⟨b, H1, rfl, rfl, h1, h2⟩
 refine Ont ?_; refine Oas ?_; refine S3 ?_
 refine Done.retR (rs := [.tmp 4]) rfl (.tmp rfl (.nil)) (AVleL.refl _) (by repeat (first | exact List.Sublist.refl _ | refine List.Sublist.cons _ ?_)) ?_
 exact ⟨!b, H1, rfl, rfl, fun h => h1 (by simpa using h), fun h => h2 (by simpa using h)⟩
theorem p126 (W : FW) (l : List Int) : PCall Tryz.prog 126 [Wptr W, AV.ints l] (.b (pathP W l)) := by
 intro H
 refine ACall.mk' (n := 14) Tryz.func126 rfl (by kernel_rfl) rfl rfl (fun B I w0 => ?_)
 refine CW.boundM (t := 1) rfl (fun hb => ?_)
 refine S2 ?_; refine Oas ?_; refine S4 ?_; refine Omv ?_; refine Oln ?_; refine Ocm ?_; refine Omv ?_; refine Pmv ?_; refine Pmv ?_; refine Pmf ?_
 refine OL.guardC rfl rfl rfl rfl rfl rfl (fun hg => POp.call (.mk' rfl rfl rfl rfl (by first | rfl | ((repeat (first | exact hg | rfl | refine Bool.and_eq_true_iff.2 ⟨?_, ?_⟩)); done) | simp_all [strip, constAV])) (p152 (.of (p177 W)) l)) ?_
 refine Opk ?_; refine Oas ?_; refine S3 ?_
 refine r1 4 (H) ?_
 exact ⟨retB (by unfold pathP; by_cases h : l.length ≤ 2 <;> simp [h] <;> omega), rfl⟩
def NodeC (B : Nat) (W : FW) (deep : Int) : Prop := ∀ (f : Fact) (left : Int) (b : Nat) (Hx : List Ent), 0 ≤ left ∧ left ≤ 1000 →
 BCall B Tryz.prog 182 [Wptr W, AV.fact f, .p b 0, .i deep] (.blk b 3 [.i left] :: Hx) (fun y H' => y = .b (nodeP W f left deep).1 ∧ H' = .blk b 3 [.i (nodeP W f left deep).2] :: Hx) (fun _ => False)
theorem b211 {B : Nat} {W : FW} {deep : Int} (hd : 0 < deep ∧ deep ≤ 1000) (ih : NodeC B W (deep - 1)) (f : Fact) (left : Int) (b : Nat) (Hx : List Ent) (hl : 0 ≤ left ∧ left ≤ 1000) :
  BCall B Tryz.prog 211 [AV.fact f, .ptr [Wptr W], .ptr [.p b 0], .ptr [.i deep]] (.blk b 3 [.i left] :: Hx) (fun y H' => y = .b (nodeP W f left (deep - 1)).1 ∧ H' = .blk b 3 [.i (nodeP W f left (deep - 1)).2] :: Hx) (fun _ => False) := by
 refine BCall.of (n := 12) Tryz.func211 rfl (by kernel_rfl) rfl rfl (fun I w0 => ?_)
 refine S2 ?_; refine Obx ?_; refine Oas ?_; refine S4 ?_; refine Old ?_; refine Ola ?_; refine Old ?_; refine Old ?_; refine Oar ?_
 refine OL.bcallC rfl rfl rfl (.mk' rfl rfl rfl rfl rfl) (ih f left b Hx hl) ?_
 rintro _ _ ⟨rfl, rfl⟩
 refine Oas ?_; refine S3 ?_
 refine Done.retR (rs := [.tmp 5]) rfl (.tmp rfl (.nil)) (AVleL.refl _) (by repeat (first | exact List.Sublist.refl _ | refine List.Sublist.cons _ ?_)) ?_
 exact ⟨rfl, rfl⟩
theorem nodesCb {B : Nat} {W : FW} {deep : Int} (hd : 0 < deep ∧ deep ≤ 1000) (ih : NodeC B W (deep - 1)) (left : Int) (hl : 0 ≤ left ∧ left ≤ 1000) (b : Nat) (L : List Fact) :
  CbOk B Tryz.prog (.fn (.func 211) [] [.ptr [Wptr W], .ptr [.p b 0],   .ptr [.i deep]]) AV.fact L (fun _ => True) (fun pre H => H = [.blk b 3 [.i (nodesP W pre left (deep - 1)).2]] ∧ (nodesP W pre left (deep - 1)).1 = true) (fun pre H => H = [.blk b 3 [.i (nodesP W pre left (deep - 1)).2]] ∧ (nodesP W pre left (deep - 1)).1 = false) := by
 rintro pre x H Hx _ _ ⟨rfl, hp⟩
 have h1 := nodesP_left W pre left (deep - 1) hl.1
 refine VCall.mono (VCall.fnB (b211 hd ih x _ b Hx ⟨h1.2 hp, by omega⟩)) ?_ (fun _ h => h)
 rintro _ _ ⟨rfl, rfl⟩
 have h2 := nodesP_snoc W (deep - 1) x pre left hp
 exact ⟨_, [.blk b 3 [.i (nodeP W x (nodesP W pre left (deep - 1)).2 (deep - 1)).2]], rfl, rfl, fun h => ⟨by rw [h2], by rw [h2]; exact h⟩, fun h => ⟨by rw [h2], by rw [h2]; exact h⟩⟩
theorem nodes_end {W : FW} {deep left : Int} {l : List Fact} {b : Nat} {bb : Bool} {H1 : List Ent} (h1 : bb = true → H1 = [.blk b 3 [.i (nodesP W l left (deep - 1)).2]] ∧ (nodesP W l left (deep - 1)).1 = true)
  (h2 : bb = false → ∃ pre, pre <+: l ∧ H1 = [.blk b 3 [.i (nodesP W pre left (deep - 1)).2]] ∧ (nodesP W pre left (deep - 1)).1 = false) : bb = (nodesP W l left (deep - 1)).1 ∧ H1 = [.blk b 3 [.i (nodesP W l left (deep - 1)).2]] := by
 cases bb with
 | true => obtain ⟨e1, e2⟩ := h1 rfl; exact ⟨e2.symm, e1⟩
 | false =>
  obtain ⟨pre, ⟨rest, rfl⟩, e1, e2⟩ := h2 rfl
  rw [nodesP_stop W (deep - 1) rest pre left e2]
  exact ⟨e2.symm, e1⟩
theorem bad_false {f : Fact} {left deep : Int} (h : badP f left deep = false) (hd : 0 ≤ deep) (hl : left ≤ 1000) : (0 ≤ left ∧ left ≤ 1000) ∧ 0 < deep := by
 simp only [badP, Bool.or_eq_false_iff, decide_eq_false_iff_not, beq_eq_false_iff_ne, ne_eq] at h
 omega
theorem node_bad {W : FW} {f : Fact} {left deep : Int} (h : badP f (left - 1) deep = true) : nodeP W f left deep = (false, left - 1) := by rw [nodeP_eq, if_pos h]
theorem node_leaf {W : FW} {f : Fact} {left deep : Int} (h : badP f (left - 1) deep = false) (h1 : leafP f = true) : nodeP W f left deep = (argP W f && leafOkP W f, left - 1) := by rw [nodeP_eq, if_neg (by simp [h]), if_pos h1]
theorem node_notPlain {W : FW} {f : Fact} {left deep : Int} (h : badP f (left - 1) deep = false) (h1 : leafP f = false) (h2 : plainP f = false) : nodeP W f left deep = (false, left - 1) := by rw [nodeP_eq, if_neg (by simp [h]), if_neg (by simp [h1]), if_neg (by simp [h2])]
theorem node_plain {W : FW} {f : Fact} {left deep : Int} (h : badP f (left - 1) deep = false) (h1 : leafP f = false) (h2 : plainP f = true) : nodeP W f left deep = nodesP W f.kids (left - 1) (deep - 1) := by rw [nodeP_eq, if_neg (by simp [h]), if_neg (by simp [h1]), if_pos h2]
theorem leafOk_is {W : FW} {f : Fact} (h : f.op = 2) : leafOkP W f = ((f.n == 0) && classP W f.cls) := by rw [leafOkP, if_pos h]
theorem leafOk_not {W : FW} {f : Fact} (h : ¬ f.op = 2) : leafOkP W f = ((f.cls == 0) && decide (f.n ≥ -1000000000) && decide (f.n ≤ 1000000000)) := by rw [leafOkP, if_neg h]
theorem bif_and (a b : Bool) : (bif a then b else false) = (a && b) := by cases a <;> rfl
theorem bif_or (a b : Bool) : (bif a then true else b) = (a || b) := by cases a <;> rfl
theorem b182_step {B : Nat} {W : FW} {deep : Int} (hW : W.parents.length ≤ 60) (hd : 0 ≤ deep ∧ deep ≤ 1000) (ih : 0 < deep → NodeC B W (deep - 1)) : NodeC B W deep := by
 intro f left b Hx hl
 refine BCall.of (n := 110) Tryz.func182 rfl (by kernel_rfl) rfl rfl (fun I w0 => ?_)
 refine CW.boundA (t := 1) (i := 5) rfl rfl (fun hbk => ?_)
 refine CW.boundA (t := 1) (i := 2) rfl rfl (fun hbp => ?_)
 refine S2 ?_; refine Obx ?_; refine Obx ?_; refine Obx ?_; refine Obx ?_; refine Oas ?_; refine S5 ?_; refine Old ?_; refine Onc ?_; refine Old ?_; refine Oar ?_; refine Onc ?_
 refine Sto ?_; refine S3 ?_
 refine CW.dp mixed ?_
 refine DP.one (k := 0) (by decide +kernel) rfl ?_
 refine Old ?_
 refine OL.nil (Done.dp ?_)
 refine DP.one (k := 1) (by decide +kernel) rfl ?_
 refine Onc ?_
 refine OL.nil (Done.dp ?_)
 refine DP.one (k := 2) (by decide +kernel) rfl ?_
 refine Old ?_
 refine OL.nil (Done.dp ?_)
 refine DP.one (k := 3) (by decide +kernel) rfl ?_
 refine Ocm ?_
 refine OL.nil (Done.dp ?_)
 refine DP.one (k := 4) (by decide +kernel) rfl ?_
 refine Omv ?_
 refine OL.nil (Done.dp ?_)
 refine DP.one (k := 5) (by decide +kernel) rfl ?_
 refine Pld ?_
 refine OL.nil (Done.dp ?_)
 refine DP.one (k := 6) (by decide +kernel) rfl ?_
 refine Pcm ?_
 refine OL.nil (Done.dp ?_)
 refine DP.one (k := 7) (by decide +kernel) rfl ?_
 refine Opk ?_
 refine OL.nil (Done.dp ?_)
 refine DP.one (k := 8) (by decide +kernel) rfl ?_
 refine Omv ?_
 refine OL.nil (Done.dp ?_)
 refine DP.one (k := 9) (by decide +kernel) rfl ?_
 refine Pfa ?_
 refine OL.nil (Done.dp ?_)
 refine DP.one (k := 10) (by decide +kernel) rfl ?_
 refine Pld ?_
 refine OL.nil (Done.dp ?_)
 refine DP.one (k := 11) (by decide +kernel) rfl ?_
 refine Pcm ?_
 refine OL.nil (Done.dp ?_)
 refine DP.one (k := 12) (by decide +kernel) rfl ?_
 refine Opk ?_
 refine OL.nil (Done.dp ?_)
 refine DP.one (k := 13) (by decide +kernel) rfl ?_
 refine Omv ?_
 refine OL.nil (Done.dp ?_)
 refine DP.one (k := 14) (by decide +kernel) rfl ?_
 refine Pfa ?_
 refine OL.nil (Done.dp ?_)
 refine DP.one (k := 15) (by decide +kernel) rfl ?_
 refine Pld ?_
 refine OL.nil (Done.dp ?_)
 refine DP.one (k := 16) (by decide +kernel) rfl ?_
 refine Pcm ?_
 refine OL.nil (Done.dp ?_)
 refine DP.one (k := 17) (by decide +kernel) rfl ?_
 refine Opk ?_
 refine OL.nil (Done.dp ?_)
 refine DP.one (k := 18) (by decide +kernel) rfl ?_
 refine Omv ?_
 refine OL.nil (Done.dp ?_)
 refine DP.anyC 19 25 110 rfl (by decide +kernel) rfl rfl (by decide +kernel) ?_
 refine AD.guardC rfl rfl rfl rfl rfl (fun hg => (by first | exact POp.fa rfl rfl rfl rfl | exact POp.faP rfl rfl rfl rfl)) ?_
 refine AD.guardC rfl rfl rfl rfl rfl (fun hg => (by first | exact POp.ld1 rfl rfl (gd hg) rfl | (apply POp.ld1H rfl rfl (gd hg); (case hm => repeat (first | exact .head _ | refine .tail _ ?_)); (case hy => rfl)))) ?_
 refine AD.guardC rfl rfl rfl rfl rfl (fun hg => (by first | exact POp.lenM rfl rfl (gd hg) | exact POp.lenA rfl rfl (gd hg) | exact POp.lenV rfl rfl (gd hg) | exact POp.len' rfl rfl (gd hg))) ?_
 refine AD.guardC rfl rfl rfl rfl rfl (fun hg => (by first | exact POp.fa rfl rfl rfl rfl | exact POp.faP rfl rfl rfl rfl)) ?_
 refine AD.guardC rfl rfl rfl rfl rfl (fun hg => (by first | exact POp.ld1 rfl rfl (gd hg) rfl | (apply POp.ld1H rfl rfl (gd hg); (case hm => repeat (first | exact .head _ | refine .tail _ ?_)); (case hy => rfl)))) ?_
 refine AD.guardC rfl rfl rfl rfl rfl (fun hg => POp.call (.mk' rfl rfl rfl rfl (by first | rfl | ((repeat (first | exact hg | rfl | refine Bool.and_eq_true_iff.2 ⟨?_, ?_⟩)); done) | simp_all [strip, constAV])) ((p210 _))) ?_
 refine AD.nil ?_
 refine DP.tailC 25 (by decide +kernel) rfl ?_
 refine Pcm ?_; refine Opk ?_; refine S2 ?_
 refine CW.cond rfl (fun h0 => ?_) (fun h0 => ?_)
 ·
  have hbad : badP f (left - 1) deep = true := by simpa only [badP, bif_or, kidsP] using h0
  have hn := node_bad (W := W) hbad
  refine S2 ?_; refine Oas ?_; refine S4 ?_
  refine Done.retR (rs := [.tmp 8]) rfl (.tmp rfl (.nil)) (AVleL.refl _) (by repeat (first | exact List.Sublist.refl _ | refine List.Sublist.cons _ ?_)) ?_
  exact ⟨retB (by rw [hn]), by rw [hn]; rfl⟩
 ·
  have hbad : badP f (left - 1) deep = false := by simpa only [badP, bif_or, kidsP] using h0
  obtain ⟨hl1, hd1⟩ := bad_false hbad hd.1 (by omega)
  refine S6 ?_; refine Ola ?_
  refine OL.popC rfl rfl rfl (POp.call (.mk' rfl rfl rfl rfl rfl) ((p134 _))) ?_
  refine Ont ?_; refine Oas ?_; refine S2 ?_
  refine CW.cond rfl (fun h1 => ?_) (fun h1 => ?_)
  ·
   have hleaf : leafP f = false := by simpa only [leafP, Bool.not_eq_true'] using h1
   refine S2 ?_; refine Ofa ?_; refine Old ?_; refine Ocm ?_; refine Omv ?_; refine Pfa ?_; refine Pld ?_; refine Pln ?_; refine Pcm ?_; refine Opk ?_; refine Omv ?_; refine Pfa ?_
   refine Pld ?_; refine Pcm ?_; refine Opk ?_; refine Omv ?_; refine Pfa ?_; refine Pld ?_; refine Pcm ?_; refine Opk ?_; refine S2 ?_
   refine CW.cond rfl (fun h2 => ?_) (fun h2 => ?_)
   ·
    have hplain : plainP f = false := by rw [plainP, Bool.not_eq_false']; simpa only [bif_or] using h2
    have hn := node_notPlain (W := W) hbad hleaf hplain
    refine S2 ?_; refine Oas ?_; refine S5 ?_
    refine Done.retR (rs := [.tmp 8]) rfl (.tmp rfl (.nil)) (AVleL.refl _) (by repeat (first | exact List.Sublist.refl _ | refine List.Sublist.cons _ ?_)) ?_
    exact ⟨retB (by rw [hn]), by rw [hn]; rfl⟩
   ·
    have hplain : plainP f = true := by rw [plainP, Bool.not_eq_true']; simpa only [bif_or] using h2
    have hn := node_plain (W := W) hbad hleaf hplain
    refine S5 ?_; refine Ofa ?_; refine Old ?_; refine Omf ?_
    refine OL.bcallC rfl rfl rfl (.mk' rfl rfl rfl rfl rfl) (b180 f.kids (nodesCb ⟨hd1, hd.2⟩ (ih hd1) (left - 1) hl1 b _) [.blk b 3 [.i (left - 1)]] Hx ⟨rfl, rfl⟩) ?_
    rintro _ _ ⟨bb, H1, rfl, rfl, e1, e2⟩
    obtain ⟨e3, e4⟩ := nodes_end e1 e2
    subst e4
    refine Oas ?_; refine S3 ?_
    refine Done.retR (rs := [.tmp 8]) rfl (.tmp rfl (.nil)) (AVleL.refl _) (by repeat (first | exact List.Sublist.refl _ | refine List.Sublist.cons _ ?_)) ?_
    exact ⟨retB (by rw [hn]; exact e3), by rw [hn]; rfl⟩
  ·
   have hleaf : leafP f = true := by simpa only [leafP, Bool.not_eq_false'] using h1
   have hn := node_leaf (W := W) hbad hleaf
   refine S2 ?_; refine Ofa ?_; refine Old ?_; refine Ocm ?_; refine Omv ?_; refine Pfa ?_; refine Pld ?_; refine Pcm ?_; refine Opk ?_; refine Omv ?_; refine Pld ?_; refine Pfa ?_
   refine Pld ?_
   refine OL.guardC rfl rfl rfl rfl rfl rfl (fun hg => POp.call (.mk' rfl rfl rfl rfl (by first | rfl | ((repeat (first | exact hg | rfl | refine Bool.and_eq_true_iff.2 ⟨?_, ?_⟩)); done) | simp_all [strip, constAV])) ((p126 _ _))) ?_
   refine Pnt ?_; refine Opk ?_; refine Oas ?_; refine S2 ?_
   refine CW.cond rfl (fun h3 => ?_) (fun h3 => ?_)
   ·
    have harg : argP W f = false := by rw [argP, Bool.not_eq_false']; simpa only [bif_or] using h3
    refine S2 ?_; refine Oas ?_; refine S5 ?_
    refine Done.retR (rs := [.tmp 8]) rfl (.tmp rfl (.nil)) (AVleL.refl _) (by repeat (first | exact List.Sublist.refl _ | refine List.Sublist.cons _ ?_)) ?_
    exact ⟨retB (by rw [hn, harg]; rfl), by rw [hn]; rfl⟩
   ·
    have harg : argP W f = true := by rw [argP, Bool.not_eq_true']; simpa only [bif_or] using h3
    refine S2 ?_; refine Ofa ?_; refine Old ?_; refine Ocm ?_; refine Oas ?_; refine S2 ?_
    refine CW.cond rfl (fun h4 => ?_) (fun h4 => ?_)
    ·
     replace h4 := nm h4
     refine S2 ?_; refine Ofa ?_; refine Old ?_; refine Ocm ?_; refine Omv ?_; refine Pld ?_; refine Pfa ?_; refine Pld ?_
     refine OL.guardC rfl rfl rfl rfl rfl rfl (fun hg => POp.call (.mk' rfl rfl rfl rfl (by first | rfl | ((repeat (first | exact hg | rfl | refine Bool.and_eq_true_iff.2 ⟨?_, ?_⟩)); done) | simp_all [strip, constAV])) ((p106 _ _ (by assumption)))) ?_
     refine Opk ?_; refine Oas ?_; refine S5 ?_
     refine Done.retR (rs := [.tmp 8]) rfl (.tmp rfl (.nil)) (AVleL.refl _) (by repeat (first | exact List.Sublist.refl _ | refine List.Sublist.cons _ ?_)) ?_
     exact ⟨retB (by rw [hn, harg, leafOk_is h4, bif_and]; rfl), by rw [hn]; rfl⟩
    ·
     replace h4 := nm h4
     refine S2 ?_; refine Ofa ?_; refine Old ?_; refine Ocm ?_; refine Omv ?_; refine Pfa ?_; refine Pld ?_; refine Pcm ?_; refine Opk ?_; refine Omv ?_; refine Pfa ?_; refine Pld ?_
     refine Pcm ?_; refine Opk ?_; refine Oas ?_; refine S5 ?_
     refine Done.retR (rs := [.tmp 8]) rfl (.tmp rfl (.nil)) (AVleL.refl _) (by repeat (first | exact List.Sublist.refl _ | refine List.Sublist.cons _ ?_)) ?_
     exact ⟨retB (by rw [hn, harg, leafOk_not h4, bif_and, bif_and]; rfl), by rw [hn]; rfl⟩
theorem nodeC_all {B : Nat} {W : FW} (hW : W.parents.length ≤ 60) : ∀ (n : Nat), n ≤ 1000 → NodeC B W n
 | 0, h => b182_step hW ⟨by omega, by omega⟩ (fun h => by omega)
 | n + 1, h => b182_step hW ⟨by omega, by omega⟩ (fun _ => by
  have e : ((n + 1 : Nat) : Int) - 1 = (n : Int) := by omega
  rw [e]; exact nodeC_all hW n (by omega))
theorem p180 {f : Fn} {fs cs : List AV} {p : Fact → Bool} (hg : PredOk Tryz.prog (.fn f fs cs) AV.fact p) (l : List Fact) : PCall Tryz.prog 180 [.sl 6 (encFs l), .fn f fs cs] (.b (l.all p)) := by
 intro H
 have h0 : fnOk Tryz.prog 180 = true := (b180 (B := 0) l (hg.cb l) [] H ⟨rfl, by simp⟩).1
 refine ⟨h0, fun B I w vs hw hh hvs => ((b180 (B := B) l (hg.cb l) [] H ⟨rfl, by simp⟩).2 I w vs hw hh hvs).mono fun e w' hr => hr.mono (fun y H' hy => ?_) fun _ h => h⟩
 obtain ⟨b, H1, rfl, rfl, h1, h2⟩ := hy
 cases b with
 | true =>
  obtain ⟨rfl, h⟩ := h1 rfl
  exact ⟨congrArg AV.b (List.all_eq_true.2 h).symm, rfl⟩
 | false =>
  obtain ⟨pre, ⟨rest, rfl⟩, rfl, q, x, rfl, h⟩ := h2 rfl
  refine ⟨congrArg AV.b ?_, rfl⟩
  symm
  rw [List.all_eq_false]
  exact ⟨x, by simp, by simp [h]⟩
theorem p181 (W : FW) (hW : W.parents.length ≤ 60) (f : Fact) : PCall Tryz.prog 181 [AV.fact f, .ptr [Wptr W]] (.b (formedP W f)) := by
 intro H
 refine ACall.mk' (n := 8) Tryz.func181 rfl (by kernel_rfl) rfl rfl (fun B I w0 => ?_)
 refine S2 ?_; refine Obx ?_; refine Oas ?_; refine S4 ?_
 refine OL.alC rfl rfl rfl rfl (fun b0 => ?_)
 refine Sto ?_; refine S4 ?_; refine Old ?_; refine Ola ?_
 refine OL.bcallC rfl rfl rfl (.mk' rfl rfl rfl rfl rfl) (nodeC_all hW 12 (by omega) f 24 b0 H ⟨by omega, by omega⟩) ?_
 rintro _ _ ⟨rfl, rfl⟩
 refine Oas ?_; refine S3 ?_
 refine r1 3 (H) ?_
 exact ⟨retB rfl, rfl⟩
theorem p131 (W : FW) (hW : W.parents.length ≤ 60) (l : List Fact) : PCall Tryz.prog 131 [Wptr W, AV.facts l] (.b (l.all (formedP W))) := by
 intro H
 refine ACall.mk' (n := 8) Tryz.func131 rfl (by kernel_rfl) rfl rfl (fun B I w0 => ?_)
 refine S2 ?_; refine Obx ?_; refine Oas ?_; refine S4 ?_; refine Omv ?_; refine Omf ?_
 refine OL.popC rfl rfl rfl (POp.call (.mk' rfl rfl rfl rfl rfl) (p180 (.of (p181 W hW)) l)) ?_
 refine Oas ?_; refine S3 ?_
 refine r1 4 (H) ?_
 exact ⟨by first | rfl | exact retI (by simp_all) | exact retB (by simp_all) | simp_all, rfl⟩
theorem up_get {W : FW} {U : List Nat} {i : Nat} (h : i < U.length) : (Wcells W ++ U.map fun s => AV.set s)[2 + i]? = some (AV.set (U.getD i 0)) := by
 show ([AV.intss W.parents, AV.ints W.owner] ++ _)[2 + i]? = _
 rw [List.getElem?_append_right (by simp)]
 simp [List.getElem?_map, List.getElem?_eq_getElem h, List.getD_eq_getElem?_getD]
theorem up_set {W : FW} {U : List Nat} {i s : Nat} (h : i < U.length) : (Wcells W ++ U.map fun s => AV.set s).take (2 + i) ++ [AV.set s] ++ (Wcells W ++ U.map fun s => AV.set s).drop (2 + i + 1) = Wcells W ++ (U.set i s).map fun s => AV.set s := by
 have e : Wcells W = [AV.intss W.parents, AV.ints W.owner] := rfl
 have e1 : (Wcells W ++ U.map fun s => AV.set s).take (2 + i) = Wcells W ++ (U.take i).map fun s => AV.set s := by
  rw [e, List.take_append, List.map_take]
  simp [List.take_of_length_le]
 have e2 : (Wcells W ++ U.map fun s => AV.set s).drop (2 + i + 1) = (U.drop (i + 1)).map fun s => AV.set s := by
  rw [show 2 + i + 1 = (i + 1) + 2 from by omega, List.map_drop]
  rfl
 rw [e1, e2, List.append_assoc, List.append_assoc]
 congr 1
 rw [List.set_eq_take_append_cons_drop, if_pos h]
 simp
def idxP (l : List Int) (v : Int) : Int := match l.findIdx? (fun x => x == v) with | some i => (i : Int) | none => -1
theorem idxP_at {l : List Int} {v : Int} {k : Nat} (hk : k < l.length) (hp : ∀ x ∈ l.take k, x ≠ v) (h : v = l.getD k default) : (k : Int) = idxP l v := by
 have e : l.findIdx? (fun x => x == v) = some k := by
  rw [List.findIdx?_eq_some_iff_getElem]
  refine ⟨hk, ?_, fun j hj => ?_⟩
  ·rw [h, List.getD_eq_getElem?_getD, List.getElem?_eq_getElem hk]; simp
  ·have := hp (l[j]'(by omega)) (by rw [List.mem_take_iff_getElem]; exact ⟨j, by omega, rfl⟩)
   simpa using this
 rw [idxP, e]
theorem idxP_none {l : List Int} {v : Int} (hp : ∀ x ∈ l, x ≠ v) : (-1 : Int) = idxP l v := by
 have e : l.findIdx? (fun x => x == v) = none := by
  rw [List.findIdx?_eq_none_iff]
  intro x hx; simpa using hp x hx
 rw [idxP, e]
theorem idxP_contains (l : List Int) (v : Int) : decide (idxP l v ≥ 0) = l.contains v := by
 unfold idxP
 cases h : l.findIdx? (fun x => x == v) with
 | none =>
  rw [List.findIdx?_eq_none_iff] at h
  symm; simp
  intro hx; have := h v hx; simp at this
 | some i =>
  rw [List.findIdx?_eq_some_iff_getElem] at h
  obtain ⟨hi, h1, _⟩ := h
  symm; simp
  have : l[i] = v := by simpa using h1
  rw [← this]; exact List.getElem_mem hi
theorem ne_step {l : List Int} {v : Int} {k : Nat} (hk : k < l.length) (hp : ∀ x ∈ l.take k, x ≠ v) (h : v ≠ l.getD k default) : ∀ x ∈ l.take (k + 1), x ≠ v := by
 rw [← take_getD hk]
 intro x hx
 rcases List.mem_append.1 hx with hx | hx
 ·exact hp x hx
 ·simp at hx; rw [hx]; intro e; apply h; simp [e]
theorem p100 (l : List Int) (v : Int) : PCall Tryz.prog 100 [AV.ints l, .i v] (.i (idxP l v)) := by
 intro H
 refine ACall.mk' (n := 19) Tryz.func100 rfl (by kernel_rfl) rfl rfl (fun B I w0 => ?_)
 refine CW.boundM (t := 0) rfl (fun hb0 => ?_)
 refine S2 ?_; refine Oas ?_; refine S5 ?_; refine Omv ?_; refine Oln ?_; refine Omv ?_; refine S3 ?_
 refine lj (fun m st => ∃ k : Nat, st = ⟨[(8, .i k), (7, .i l.length), (0, AV.ints l), (1, .i v)], H⟩ ∧ m = l.length - k ∧ k ≤ l.length ∧ ∀ x ∈ l.take k, x ≠ v) (⟨0, rfl, rfl, by simp, by simp⟩) ?_
 rintro m _ ⟨k, rfl, rfl, hk, hp⟩
 refine S2 ?_; refine Ocm ?_; refine S3 ?_
 refine CW.cond rfl (fun h0 => ?_) (fun h0 => ?_)
 ·
  replace h0 := nm h0
  refine S6 ?_; refine Omv ?_; refine Oas ?_; refine S4 ?_; refine Omv ?_; refine Omv ?_; refine Omv ?_; refine Oix ?_; refine Old ?_; refine Ocm ?_; refine S2 ?_
  refine CW.cond rfl (fun h1 => ?_) (fun h1 => ?_)
  ·
   replace h1 := nm h1
   refine S2 ?_; refine Omv ?_; refine Oas ?_; refine S8 ?_
   refine r1 4 (H) ?_
   exact ⟨retI (idxP_at (by omega) hp h1), rfl⟩
  ·
   replace h1 := nm h1
   refine S4 ?_; refine Oar ?_; refine Omv ?_; refine S1 ?_
   exact ag (⟨k + 1, rfl, rfl, by omega, ne_step (by omega) hp h1⟩)
 ·
  replace h0 := nm h0
  refine S7 ?_; refine Oas ?_; refine S3 ?_
  refine r1 4 (H) ?_
  exact ⟨retI (idxP_none (by have e : k = l.length := (by omega); rw [e, List.take_length] at hp; exact hp)), rfl⟩
theorem p33 (l : List Int) (v : Int) : PCall Tryz.prog 33 [AV.ints l, .i v] (.b (l.contains v)) := by
 intro H
 refine ACall.mk' (n := 9) Tryz.func33 rfl (by kernel_rfl) rfl rfl (fun B I w0 => ?_)
 refine S2 ?_; refine Oas ?_; refine S4 ?_; refine Omv ?_; refine Omv ?_
 refine OL.popC rfl rfl rfl (POp.call (.mk' rfl rfl rfl rfl rfl) ((p100 _ _))) ?_
 refine Ocm ?_; refine Oas ?_; refine S3 ?_
 refine r1 4 (H) ?_
 exact ⟨retB (idxP_contains _ _), rfl⟩
def U0 (k : Nat) : List Nat := [1, 3, 5].take k ++ List.replicate (63 - k) 0
theorem U0_set {k : Nat} (h : k < 3) : (U0 k).set k (1 ||| 2 ^ (k : Int).toNat) = U0 (k + 1) := by
 have : k = 0 ∨ k = 1 ∨ k = 2 := by omega
 rcases this with rfl | rfl | rfl <;> rfl
theorem U0_len {k : Nat} (h : k ≤ 3) : (U0 k).length = 63 := by simp [U0]; omega
theorem up_set' {W : FW} {U U' : List Nat} {i s : Nat} (h : i < U.length) (hU : U.set i s = U') : (Wcells W ++ U.map fun s => AV.set s).take (2 + i) ++ [AV.set s] ++ (Wcells W ++ U.map fun s => AV.set s).drop (2 + i + 1) = Wcells W ++ U'.map fun s => AV.set s := hU ▸ up_set h
theorem up_fit {W : FW} {U : List Nat} {i off : Nat} (ho : off = 2 + i) (h : i < U.length) : Nat.ble (off + 1) (Wcells W ++ U.map fun s => AV.set s).length = true := by
 subst ho
 rw [Nat.ble_eq]
 simp [Wcells]; omega
theorem world_big {W : FW} (h : (bif decide ((W.parents.length : Int) > 60) then true else decide ((W.owner.length : Int) > 40)) = true) : worldP W = false := by
 rw [bif_or] at h
 simp only [Bool.or_eq_true, decide_eq_true_eq] at h
 unfold worldP
 rcases h with h | h
 ·have : decide (W.parents.length ≤ 60) = false := by simp; omega
  simp [this]
 ·have : decide (W.owner.length ≤ 40) = false := by simp; omega
  simp [this]
theorem world_small {W : FW} (h : (bif decide ((W.parents.length : Int) > 60) then true else decide ((W.owner.length : Int) > 40)) = false) : W.parents.length ≤ 60 ∧ W.owner.length ≤ 40 := by
 rw [bif_or] at h
 simp only [Bool.or_eq_false_iff, decide_eq_false_iff_not] at h
 omega
theorem world_val {W : FW} (h : W.parents.length ≤ 60 ∧ W.owner.length ≤ 40) : worldP W = (parentssP 0 W.parents && W.owner.all (ownP W)) := by
 simp [worldP, h.1, h.2]
theorem parents_step {l : List (List Int)} {k : Nat} (hk : k < l.length) : parentssP k (l.drop k) = (parentsP k [] (l.getD k default) && parentssP (k + 1) (l.drop (k + 1))) := by
 rw [List.drop_eq_getElem_cons hk, parentssP, List.getD_eq_getElem?_getD, List.getElem?_eq_getElem hk]; rfl
theorem ups_step {l : List (List Int)} {k : Nat} (U : List Nat) (hk : k < l.length) : upsFrom (l.drop k) k U = upsFrom (l.drop (k + 1)) (k + 1) (U.set (3 + k) (upFold U k (l.getD k default))) := by
 rw [List.drop_eq_getElem_cons hk, upsFrom, List.getD_eq_getElem?_getD, List.getElem?_eq_getElem hk]; rfl
theorem parent_step {i : Nat} {l : List Int} {j : Nat} (hj : j < l.length) : parentsP i (l.take j) (l.drop j) = (!(decide (l.getD j default < 3) || decide (l.getD j default ≥ 3 + i) || (l.take j).contains (l.getD j default)) && parentsP i (l.take (j + 1)) (l.drop (j + 1))) := by
 rw [List.drop_eq_getElem_cons hj, parentsP, ← take_getD hj, List.getD_eq_getElem?_getD, List.getElem?_eq_getElem hj]; rfl
theorem getD_lt {α : Type} [Inhabited α] {l : List α} {j : Nat} (h : j < l.length) : l.getD j default = l[j] := by rw [List.getD_eq_getElem?_getD, List.getElem?_eq_getElem h]; rfl
theorem up_get' {W : FW} {U : List Nat} {i off : Nat} (ho : off = 2 + i) (h : i < U.length) : (Wcells W ++ U.map fun s => AV.set s)[off]? = some (AV.set (U.getD i 0)) := ho ▸ up_get h
theorem up_setO {W : FW} {U U' : List Nat} {i s off : Nat} (ho : off = 2 + i) (h : i < U.length) (hU : U.set i s = U') : (Wcells W ++ U.map fun s => AV.set s).take off ++ [AV.set s] ++ (Wcells W ++ U.map fun s => AV.set s).drop (off + 1) = Wcells W ++ U'.map fun s => AV.set s := ho ▸ up_set' h hU
theorem fold_step {U : List Nat} {l : List Int} {j s : Nat} (hj : j < l.length) : (l.drop j).foldl (fun s (p : Int) => s ||| U.getD p.toNat 0) s = (l.drop (j + 1)).foldl (fun s (p : Int) => s ||| U.getD p.toNat 0) (s ||| U.getD (l.getD j default).toNat 0) := by
 rw [List.drop_eq_getElem_cons hj, List.foldl_cons, getD_lt hj]
theorem parent_ok {k j : Nat} {l : List Int} {r : Bool} (hj : j < l.length) (hp : parentsP k (l.take j) (l.drop j) = r) (h : (bif bif decide (l.getD j default < 3) then true else decide (3 + (k : Int) ≤ l.getD j default) then true else (l.take j).contains (l.getD j default)) = false) :
  3 ≤ l.getD j default ∧ l.getD j default < 3 + k ∧ parentsP k (l.take (j + 1)) (l.drop (j + 1)) = r := by
 rw [bif_or, bif_or] at h
 have h0 := h
 simp only [Bool.or_eq_false_iff, decide_eq_false_iff_not] at h0
 refine ⟨by omega, by omega, ?_⟩
 rw [parent_step hj] at hp
 have e : (decide (l.getD j default < 3) || decide (l.getD j default ≥ 3 + (k : Int)) || (l.take j).contains (l.getD j default)) = false := h
 rw [e] at hp
 simpa using hp
theorem parent_no {k j : Nat} {l : List Int} {r : Bool} (hj : j < l.length) (hp : parentsP k (l.take j) (l.drop j) = r) (h : (bif bif decide (l.getD j default < 3) then true else decide (3 + (k : Int) ≤ l.getD j default) then true else (l.take j).contains (l.getD j default)) = true) : r = false := by
 rw [bif_or, bif_or] at h
 rw [parent_step hj] at hp
 have e : (decide (l.getD j default < 3) || decide (l.getD j default ≥ 3 + (k : Int)) || (l.take j).contains (l.getD j default)) = true := h
 rw [e] at hp
 simpa using hp.symm
theorem world_parent_no {W : FW} {k : Nat} (hW : W.parents.length ≤ 60 ∧ W.owner.length ≤ 40) (hk : k < W.parents.length) (hpar : parentssP k (W.parents.drop k) = parentssP 0 W.parents) (h : parentsP k [] (W.parents.getD k default) = false) : worldP W = false := by
 rw [parents_step hk, h] at hpar
 rw [world_val hW, ← hpar]; rfl
theorem u_get {U : List Nat} (hU : ∀ x ∈ U, x < 18446744073709551616) (i : Nat) : U.getD i 0 < 18446744073709551616 := by
 rw [List.getD_eq_getElem?_getD]
 by_cases h : i < U.length
 ·rw [List.getElem?_eq_getElem h]; exact hU _ (List.getElem_mem h)
 ·rw [List.getElem?_eq_none (by omega)]; decide
theorem u_set {U : List Nat} (hU : ∀ x ∈ U, x < 18446744073709551616) {i s : Nat} (hs : s < 18446744073709551616) : ∀ x ∈ U.set i s, x < 18446744073709551616 := by
 intro x hx
 rcases List.mem_or_eq_of_mem_set hx with h | h
 ·exact hU x h
 ·exact h ▸ hs
theorem or64 {s t : Nat} (hs : s < 18446744073709551616) (ht : t < 18446744073709551616) : s ||| t < 18446744073709551616 := Nat.or_lt_two_pow (n := 64) hs ht
theorem pow64 {k : Nat} (h : k < 64) : 2 ^ k < 18446744073709551616 := Nat.pow_lt_pow_right (a := 2) (n := 64) (by omega) h
theorem p105 (W : FW) : PCall Tryz.prog 105 [AV.world W] (.tup [if worldP W then Wptr W else .one, .b (worldP W)]) := by
 intro H
 refine ACall.mk' (n := 91) Tryz.func105 rfl (by kernel_rfl) rfl rfl (fun B I w0 => ?_)
 refine CW.boundA (t := 0) (i := 0) rfl rfl (fun hb0 => ?_)
 refine CW.boundA (t := 0) (i := 1) rfl rfl (fun hb1 => ?_)
 refine S2 ?_; refine Obx ?_; refine Oas ?_; refine Oas ?_; refine S5 ?_; refine Ofa ?_; refine Old ?_; refine Oln ?_; refine Ocm ?_; refine Omv ?_; refine Pfa ?_; refine Pld ?_
 refine Pln ?_; refine Pcm ?_; refine Opk ?_; refine S2 ?_
 refine CW.cond rfl (fun h0 => ?_) (fun h0 => ?_)
 ·
  have hw : worldP W = false := world_big h0
  refine S2 ?_; refine Oas ?_; refine Oas ?_; refine S4 ?_
  refine Done.retR (rs := [.tmp 2, .tmp 3]) (H' := H) rfl (.tmp rfl (.tmp rfl (.nil))) (.cons (AVle.one rfl (fun _ h => by cases h)) (.cons (AVle.refl _) .nil)) (by repeat (first | exact List.Sublist.refl _ | refine List.Sublist.cons _ ?_)) ?_
  exact ⟨by rw [hw]; rfl, rfl⟩
 ·
  have hW := world_small h0
  refine S4 ?_; refine Ola ?_; refine Obd ?_
  refine OL.boxC rfl rfl rfl rfl rfl rfl rfl (fun b0 => ?_)
  refine Oas ?_; refine S5 ?_; refine Omv ?_; refine S3 ?_
  refine lj (fun m st => ∃ k : Nat, st = ⟨[(24, .i k), (4, .p b0 0), (1, .ptr (Wcells W))], .blk b0 138 (Wcells W ++ (U0 k).map fun s => AV.set s) :: H⟩ ∧ m = 3 - k ∧ k ≤ 3) (⟨0, rfl, rfl, by omega⟩) ?_
  rintro m _ ⟨k, rfl, rfl, hk⟩
  refine S2 ?_; refine Ocm ?_; refine S3 ?_
  refine CW.cond rfl (fun h1 => ?_) (fun h1 => ?_)
  ·
   replace h1 := nm h1
   refine S6 ?_; refine Omv ?_; refine Oas ?_; refine S2 ?_
   refine CW.dp mixed ?_
   refine DP.anyC 0 6 91 rfl (by decide +kernel) rfl rfl (by decide +kernel) ?_
   refine Amv ?_; refine Amv ?_; refine Amv ?_
   refine AD.popC rfl rfl rfl (POp.call (.mk' rfl rfl rfl rfl rfl) (p151 1 k (by omega) (by omega))) ?_
   refine Anc ?_; refine Afa ?_
   refine AD.nil ?_
   refine DP.tailC 6 (by decide +kernel) rfl ?_
   refine Oia ?_
   apply OL.stoC rfl rfl rfl rfl rfl rfl rfl rfl rfl rfl
   (case hu => repeat (first | exact Upd.head _ _ _ | apply Upd.tail)); (case hfit => exact up_fit (i := k) (by simp) (by rw [U0_len hk]; omega)); (case hds => exact up_setO (i := k) (by simp) (by rw [U0_len hk]; omega) (U0_set (by omega)))
   refine S4 ?_; refine Oar ?_; refine Omv ?_; refine S1 ?_
   exact ag (⟨k + 1, rfl, rfl, by omega⟩)
  ·
   replace h1 := nm h1
   obtain rfl : k = 3 := by omega
   refine S8 ?_; refine Ofa ?_; refine Old ?_; refine Oln ?_; refine Omv ?_; refine S3 ?_
   refine lj (fun m st => ∃ (k : Nat) (U : List Nat), st = ⟨[(38, .i k), (37, .i W.parents.length), (36, AV.intss W.parents), (4, .p b0 0), (1, .ptr (Wcells W))], .blk b0 138 (Wcells W ++ U.map fun s => AV.set s) :: H⟩ ∧ m = W.parents.length - k ∧ k ≤ W.parents.length ∧ U.length = 63 ∧ (∀ x ∈ U, x < 18446744073709551616) ∧ upsFrom (W.parents.drop k) k U = upsP W ∧ parentssP k (W.parents.drop k) = parentssP 0 W.parents) (⟨0, U0 3, rfl, rfl, by omega, rfl, by decide, rfl, rfl⟩) ?_
   rintro m _ ⟨k, U, rfl, rfl, hk, hlen, hU, hup, hpar⟩
   refine S2 ?_; refine Ocm ?_; refine S3 ?_
   refine CW.cond rfl (fun h2 => ?_) (fun h2 => ?_)
   ·
    replace h2 := nm h2
    refine S6 ?_; refine Omv ?_; refine Oix ?_; refine Old ?_; refine Oas ?_; refine Oas ?_; refine S4 ?_; refine Omv ?_; refine Oar ?_
    refine OL.popC rfl rfl rfl (POp.call (.mk' rfl rfl rfl rfl rfl) (p151 1 (3 + k) (by omega) (by omega))) ?_
    refine Oas ?_; refine S4 ?_
    refine CW.boundM (t := 7) rfl (fun hbl => ?_)
    refine S1 ?_; refine Omv ?_; refine Oln ?_; refine Omv ?_; refine S3 ?_
    refine lj (fun m st => ∃ (j s : Nat), st = ⟨[(48, .i j), (47, .i (W.parents.getD k default).length), (46, AV.ints (W.parents.getD k default)), (8, AV.set s), (6, .i k), (7, AV.ints (W.parents.getD k default)), (38, .i k), (37, .i W.parents.length), (36, AV.intss W.parents), (4, .p b0 0), (1, .ptr (Wcells W))], .blk b0 138 (Wcells W ++ U.map fun s => AV.set s) :: H⟩ ∧ m = (W.parents.getD k default).length - j ∧ j ≤ (W.parents.getD k default).length ∧ s < 18446744073709551616 ∧ ((W.parents.getD k default).drop j).foldl (fun s (p : Int) => s ||| U.getD p.toNat 0) s = upFold U k (W.parents.getD k default) ∧ parentsP k ((W.parents.getD k default).take j) ((W.parents.getD k default).drop j) = parentsP k [] (W.parents.getD k default)) (⟨0, 1 ||| 2 ^ ((3 : Int) + k).toNat, rfl, rfl, by omega, or64 (by omega) (pow64 (by omega)), by rw [show ((3 : Int) + k).toNat = 3 + k from by omega]; rfl, rfl⟩) ?_
    rintro m _ ⟨j, s, rfl, rfl, hj, hs, hf, hp⟩
    refine S2 ?_; refine Ocm ?_; refine S3 ?_
    refine CW.cond rfl (fun h3 => ?_) (fun h3 => ?_)
    ·
     replace h3 := nm h3
     refine S6 ?_; refine Omv ?_; refine Oix ?_; refine Old ?_; refine Oas ?_; refine Oas ?_; refine S5 ?_; refine Omv ?_; refine Ocm ?_; refine Omv ?_; refine Pmv ?_; refine Pmv ?_
     refine Par ?_; refine Pcm ?_; refine Opk ?_; refine Omv ?_; refine Pmv ?_; refine Pmv ?_
     refine OL.guardC rfl rfl rfl rfl rfl rfl (fun hg => POp.slTo rfl rfl (by first | rfl | exact hg | simp_all) rfl (by first | rfl | exact hg | simp_all) (by omega)) ?_
     refine Pmv ?_
     refine OL.guardC rfl rfl rfl rfl rfl rfl (fun hg => POp.call (.mk' rfl rfl rfl rfl (by first | rfl | ((repeat (first | exact hg | rfl | refine Bool.and_eq_true_iff.2 ⟨?_, ?_⟩)); done) | simp_all [strip, constAV])) (p33 _ _)) ?_
     refine Opk ?_; refine S2 ?_
     refine CW.cond rfl (fun h4 => ?_) (fun h4 => ?_)
     ·
      replace h4 := nm h4
      have hw : worldP W = false := world_parent_no hW (by omega) hpar (parent_no (by omega) hp h4)
      refine S2 ?_; refine Oas ?_; refine Oas ?_; refine S14 ?_
      refine Done.retR (rs := [.tmp 2, .tmp 3]) (H' := H) rfl (.tmp rfl (.tmp rfl (.nil))) (.cons (AVle.one rfl (fun _ h => by cases h)) (.cons (AVle.refl _) .nil)) (by repeat (first | exact List.Sublist.refl _ | refine List.Sublist.cons _ ?_)) ?_
      exact ⟨by rw [hw]; rfl, rfl⟩
     ·
      replace h4 := nm h4
      obtain ⟨hp0, hp1, hp2⟩ := parent_ok (by omega) hp h4
      refine S3 ?_; refine Omv ?_; refine Omv ?_; refine Omv ?_; refine Onc ?_; refine Ofa ?_; refine Oia ?_
      refine OL.popC rfl rfl rfl ((by first | exact POp.ld1 rfl rfl rfl rfl | (apply POp.ld1H rfl rfl rfl; (case hm => repeat (first | exact .head _ | refine .tail _ ?_)); (case hy => exact up_get' (i := ((W.parents.getD k default).getD j default).toNat) (by omega) (by omega))))) ?_
      refine OL.popC rfl rfl rfl (POp.bits rfl rfl rfl rfl rfl (bit_or _ _ hs (u_get hU _))) ?_
      refine Oas ?_; refine S4 ?_; refine Oar ?_; refine Omv ?_; refine S1 ?_
      exact ag (⟨j + 1, s ||| U.getD ((W.parents.getD k default).getD j default).toNat 0, rfl, rfl, by omega, or64 hs (u_get hU _), by rw [← fold_step (by omega)]; exact hf, hp2⟩)
    ·
     replace h3 := nm h3
     obtain rfl : j = (W.parents.getD k default).length := by omega
     rw [List.drop_length, List.foldl_nil] at hf
     rw [List.drop_length, List.take_length, parentsP] at hp
     subst hf
     refine S6 ?_; refine Omv ?_; refine Omv ?_; refine Oar ?_; refine Omv ?_; refine Onc ?_; refine Ofa ?_; refine Oia ?_
     apply OL.stoC rfl rfl rfl rfl rfl rfl rfl rfl rfl rfl
     (case hu => repeat (first | exact Upd.head _ _ _ | apply Upd.tail)); (case hfit => exact up_fit (i := 3 + k) (by omega) (by omega)); (case hds => exact up_setO (i := 3 + k) (by omega) (by omega) rfl)
     refine S4 ?_; refine Oar ?_; refine Omv ?_; refine S1 ?_
     exact ag (⟨k + 1, U.set (3 + k) (upFold U k (W.parents.getD k default)), rfl, rfl, by omega, by simp [hlen], u_set hU hs, by rw [← ups_step U (by omega)]; exact hup, by rw [parents_step (by omega), ← hp] at hpar; simpa using hpar⟩)
   ·
    replace h2 := nm h2
    obtain rfl : k = W.parents.length := by omega
    rw [List.drop_length, upsFrom] at hup
    subst hup
    rw [List.drop_length, parentssP] at hpar
    refine S6 ?_
    refine CW.freezeP (d := 4) rfl (by repeat (first | exact Del.head _ _ | apply Del.tail)) ?_
    refine S1 ?_; refine Omv ?_; refine Ofa ?_; refine Old ?_; refine Omv ?_; refine Omf ?_
    refine OL.popC rfl rfl rfl (POp.call (.mk' rfl rfl rfl rfl rfl) (p152 (.of (fun x => p153 W x hW.1)) W.owner)) ?_
    refine Oas ?_; refine Oas ?_; refine S3 ?_
    refine Done.retR (rs := [.tmp 2, .tmp 3]) (H' := H) rfl (.tmp rfl (.tmp rfl (.nil))) (.cons (AVle.ite1 (c := worldP W = true) rfl (fun _ h => by cases h)) (.cons (AVle.refl _) .nil)) (by repeat (first | exact List.Sublist.refl _ | refine List.Sublist.cons _ ?_)) ?_
    exact ⟨by rw [world_val hW, ← hpar]; rfl, rfl⟩
theorem p105t {W : FW} (h : worldP W = true) : PCall Tryz.prog 105 [AV.world W] (.tup [Wptr W, .b true]) := by have := p105 W; rwa [if_pos h, h] at this
theorem p105f {W : FW} (h : worldP W = false) : PCall Tryz.prog 105 [AV.world W] (.tup [.one, .b false]) := by have := p105 W; rwa [if_neg (by simp [h]), h] at this
theorem world_len {W : FW} (h : worldP W = true) : W.parents.length ≤ 60 := by simp [worldP] at h; exact h.1.1.1
theorem world_own {W : FW} (h : worldP W = true) : W.owner.length ≤ 40 := by simp [worldP] at h; exact h.1.1.2
theorem p80t {W : FW} (h : worldP W = true) (l : List Fact) : PCall Tryz.prog 80 [AV.world W, AV.facts l] (.tup [Wptr W, .b (l.all (formedP W))]) := by
 intro H
 refine ACall.mk' (n := 20) Tryz.func80 rfl (by kernel_rfl) rfl rfl (fun B I w0 => ?_)
 have hW := world_len h
 refine S2 ?_; refine Obx ?_; refine Oas ?_; refine Oas ?_; refine S4 ?_; refine Ola ?_
 refine OL.popC rfl rfl rfl (POp.call (.mk' rfl rfl rfl rfl rfl) (p105t h)) ?_
 refine Omv ?_; refine Oex ?_; refine Oex ?_; refine Oas ?_; refine Oas ?_; refine S4 ?_; refine Omv ?_; refine Omv ?_; refine Omv ?_; refine Pmv ?_; refine Pmv ?_
 refine OL.guardC rfl rfl rfl rfl rfl rfl (fun hg => POp.call (.mk' rfl rfl rfl rfl (by first | rfl | ((repeat (first | exact hg | rfl | refine Bool.and_eq_true_iff.2 ⟨?_, ?_⟩)); done) | simp_all [strip, constAV])) (p131 W hW l)) ?_
 refine Opk ?_; refine Oas ?_; refine Oas ?_; refine S3 ?_
 refine Done.retR (rs := [.tmp 4, .tmp 5]) (H' := H) rfl (.tmp rfl (.tmp rfl (.nil))) (AVleL.refl _) (by repeat (first | exact List.Sublist.refl _ | refine List.Sublist.cons _ ?_)) ?_
 exact ⟨by first | rfl | exact retI (by simp_all) | exact retB (by simp_all) | simp_all, rfl⟩
theorem p80f {W : FW} (h : worldP W = false) (l : List Fact) : PCall Tryz.prog 80 [AV.world W, AV.facts l] (.tup [.one, .b false]) := by
 intro H
 refine ACall.mk' (n := 20) Tryz.func80 rfl (by kernel_rfl) rfl rfl (fun B I w0 => ?_)
 refine S2 ?_; refine Obx ?_; refine Oas ?_; refine Oas ?_; refine S4 ?_; refine Ola ?_
 refine OL.popC rfl rfl rfl (POp.call (.mk' rfl rfl rfl rfl rfl) (p105f h)) ?_
 refine Omv ?_; refine Oex ?_; refine Oex ?_; refine Oas ?_; refine Oas ?_; refine S4 ?_; refine Omv ?_; refine Omv ?_; refine Omv ?_; refine Pmv ?_; refine Pmv ?_
 refine OL.guardC (x := .b false) rfl rfl rfl rfl rfl rfl (fun hg => absurd hg (by simp)) ?_
 refine Opk ?_; refine Oas ?_; refine Oas ?_; refine S3 ?_
 refine Done.retR (rs := [.tmp 4, .tmp 5]) (H' := H) rfl (.tmp rfl (.tmp rfl (.nil))) (AVleL.refl _) (by repeat (first | exact List.Sublist.refl _ | refine List.Sublist.cons _ ?_)) ?_
 exact ⟨by first | rfl | exact retI (by simp_all) | exact retB (by simp_all) | simp_all, rfl⟩
theorem one_map {α : Type} {enc : α → List AV} (h : ∀ x, allOne (enc x) = true) (l : List α) : (l.map enc).all allOne = true := by
 rw [List.all_eq_true]; intro x hx
 obtain ⟨a, _, rfl⟩ := List.mem_map.1 hx; exact h a
theorem one_facts (l : List Fact) : (encFs l).all allOne = true := by rw [encFs_map]; exact one_map (fun _ => rfl) l
theorem len_facts (l : List Fact) : (encFs l).length = l.length := by rw [encFs_map, List.length_map]
theorem p32 (l : List Int) (hl : l.length ≤ 1000000) : PCall Tryz.prog 32 [AV.ints l] (AV.ints l) := by
 intro H
 refine ACall.mk' (n := 8) Tryz.func32 rfl (by kernel_rfl) rfl rfl (fun B I w0 => ?_)
 refine S2 ?_; refine Oas ?_; refine S5 ?_; refine Omv ?_
 refine OL.isNilC rfl rfl rfl rfl rfl rfl rfl (AVle.refl _) rfl rfl (fun n4 hn4 => ?_)
 refine S2 ?_
 refine CW.cond rfl (fun h0 => ?_) (fun h0 => ?_)
 ·
  replace h0 := nm h0
  refine S2 ?_; refine Oas ?_; refine S4 ?_
  refine Done.retR (rs := [.tmp 2]) (H' := H) rfl (.tmp rfl (.nil)) (.cons (AVle.nil 1) .nil) (by repeat (first | exact List.Sublist.refl _ | refine List.Sublist.cons _ ?_)) ?_
  exact ⟨by show AV.sl 1 [] = AV.sl 1 _; rw [hn4 h0], rfl⟩
 ·
  replace h0 := nm h0
  refine S4 ?_; refine Or0 ?_; refine Omv ?_
  refine OL.popC rfl rfl rfl (POp.appendI rfl rfl rfl (AVle.refl _) rfl rfl (AVle.refl _) (one_map (fun _ => rfl) l) (by simp; omega) (by simp; omega)) ?_
  refine Oas ?_; refine S3 ?_
  refine r1 2 (H) ?_
  exact ⟨by first | rfl | exact retI (by simp_all) | exact retB (by simp_all) | simp_all, rfl⟩
theorem p192 (l : List Fact) (hl : l.length ≤ 1000000) : PCall Tryz.prog 192 [AV.facts l] (AV.facts l) := by
 intro H
 refine ACall.mk' (n := 8) Tryz.func192 rfl (by kernel_rfl) rfl rfl (fun B I w0 => ?_)
 refine S2 ?_; refine Oas ?_; refine S5 ?_; refine Omv ?_
 refine OL.isNilC rfl rfl rfl rfl rfl rfl rfl (AVle.refl _) rfl rfl (fun n4 hn4 => ?_)
 refine S2 ?_
 refine CW.cond rfl (fun h0 => ?_) (fun h0 => ?_)
 ·
  replace h0 := nm h0
  refine S2 ?_; refine Oas ?_; refine S4 ?_
  refine Done.retR (rs := [.tmp 2]) (H' := H) rfl (.tmp rfl (.nil)) (.cons (AVle.nil 6) .nil) (by repeat (first | exact List.Sublist.refl _ | refine List.Sublist.cons _ ?_)) ?_
  exact ⟨by show AV.sl 6 [] = AV.sl 6 _; rw [hn4 h0], rfl⟩
 ·
  replace h0 := nm h0
  refine S4 ?_; refine Or0 ?_; refine Omv ?_
  refine OL.popC rfl rfl rfl (POp.appendI rfl rfl rfl (AVle.refl _) rfl rfl (AVle.refl _) (one_facts l) (by simp [len_facts]; omega) (by simp [len_facts]; omega)) ?_
  refine Oas ?_; refine S3 ?_
  refine r1 2 (H) ?_
  exact ⟨by first | rfl | exact retI (by simp_all) | exact retB (by simp_all) | simp_all, rfl⟩
def notF (f : Fact) : Fact := .mk 5 0 [] 0 0 [f]
def andF (a b : Fact) : Fact := .mk 6 0 [] 0 0 [a, b]
def orF (a b : Fact) : Fact := .mk 7 0 [] 0 0 [a, b]
def trueF : Fact := .mk 1 0 [] 0 0 []
theorem p140 (f : Fact) : PCall Tryz.prog 140 [AV.fact f] (AV.fact (notF f)) := by
 intro H
 refine ACall.mk' (n := 6) Tryz.func140 rfl (by kernel_rfl) rfl rfl (fun B I w0 => ?_)
 refine S2 ?_; refine Obx ?_
 refine OL.alC rfl rfl rfl rfl (fun b0 => ?_)
 refine S4 ?_; refine Ola ?_
 refine OL.popC rfl rfl rfl (POp.row rfl rfl (by first | rfl | simp_all [strip]) rfl rfl rfl rfl rfl rfl) ?_
 refine Obd ?_; refine Sto ?_; refine S3 ?_
 refine Done.retR (rs := [.cell 2 29]) (H' := H) rfl ((by first | exact .cellA inferInstance rfl (by repeat (first | exact .head _ | refine .tail _ ?_)) rfl rfl (.nil) | exact .ptrA inferInstance rfl rfl (.nil))) (.cons (AVle.agg (.cons (.refl _) (.cons (.refl _) (.cons (AVle.nil 1) (.cons (.refl _) (.cons (.refl _) (.cons (AVle_facts [f] rfl) .nil))))))) .nil) (by repeat (first | exact List.Sublist.refl _ | refine List.Sublist.cons _ ?_)) ?_
 exact ⟨by first | rfl | exact retI (by simp_all) | exact retB (by simp_all) | simp_all, rfl⟩
theorem p143 (a b : Fact) : PCall Tryz.prog 143 [AV.fact a, AV.fact b] (AV.fact (andF a b)) := by
 intro H
 refine ACall.mk' (n := 9) Tryz.func143 rfl (by kernel_rfl) rfl rfl (fun B I w0 => ?_)
 refine S2 ?_; refine Obx ?_; refine Obx ?_
 refine OL.alC rfl rfl rfl rfl (fun b0 => ?_)
 refine S4 ?_; refine Ola ?_; refine Ola ?_
 refine OL.popC rfl rfl rfl (POp.row rfl rfl (by first | rfl | simp_all [strip]) rfl rfl rfl rfl rfl rfl) ?_
 refine Obd ?_; refine Sto ?_; refine S3 ?_
 refine Done.retR (rs := [.cell 4 29]) (H' := H) rfl ((by first | exact .cellA inferInstance rfl (by repeat (first | exact .head _ | refine .tail _ ?_)) rfl rfl (.nil) | exact .ptrA inferInstance rfl rfl (.nil))) (.cons (AVle.agg (.cons (.refl _) (.cons (.refl _) (.cons (AVle.nil 1) (.cons (.refl _) (.cons (.refl _) (.cons (AVle_facts [a, b] rfl) .nil))))))) .nil) (by repeat (first | exact List.Sublist.refl _ | refine List.Sublist.cons _ ?_)) ?_
 exact ⟨by first | rfl | exact retI (by simp_all) | exact retB (by simp_all) | simp_all, rfl⟩
theorem same_iff (a b : Fact) : (a == b) = (a.op == b.op && a.arg == b.arg && a.cls == b.cls && a.n == b.n && a.path == b.path && a.kids == b.kids) := by
 rw [Bool.eq_iff_iff]
 simp only [Bool.and_eq_true, beq_iff_eq]
 constructor
 ·rintro rfl; simp
 ·rintro ⟨⟨⟨⟨⟨h1, h2⟩, h3⟩, h4⟩, h5⟩, h6⟩; exact Fact.ext' h1 h2 h5 h3 h4 h6
theorem ftake_succ {la lb : List Fact} {k : Nat} (hl : la.length = lb.length) (hk : k < la.length) (hp : la.take k = lb.take k) (h : la.getD k default = lb.getD k default) : la.take (k + 1) = lb.take (k + 1) := by
 rw [← take_getD hk, ← take_getD (by omega), hp, h]
theorem fne_of {la lb : List Fact} {k : Nat} (h : (la.getD k default == lb.getD k default) = false) : false = (la == lb) := by
 symm; rw [beq_eq_false_iff_ne] at h ⊢
 intro e; exact h (by rw [e])
theorem feq_end {la lb : List Fact} {k : Nat} (hk : k ≤ la.length) (h1 : (la.length : Int) ≤ k) (h0 : (la.length : Int) = lb.length) (hp : la.take k = lb.take k) : true = (la == lb) := by
 have e1 : k = la.length := by omega
 subst e1
 have e2 : la.length = lb.length := by omega
 rw [List.take_length, e2, List.take_length] at hp
 simp [hp]
theorem flen_ne {la lb : List Fact} (h : ¬ (la.length : Int) = lb.length) : false = (la == lb) := by
 symm; rw [beq_eq_false_iff_ne]; intro e; exact h (by rw [e])
theorem getD_mem {α : Type} [Inhabited α] {l : List α} {k : Nat} (h : k < l.length) : l.getD k default ∈ l := by rw [getD_lt h]; exact List.getElem_mem h
theorem p108 {f : Fn} {fs cs : List AV} (la lb : List Fact) (hg : ∀ x ∈ la, ∀ y B H, VCall B Tryz.prog (.fn f fs cs) [AV.fact x, AV.fact y] H (fun z H' => z = .b (x == y) ∧ H' = H) (fun _ => False)) :
  PCall Tryz.prog 108 [AV.facts la, AV.facts lb, .fn f fs cs] (.b (la == lb)) := by
 intro H
 refine ACall.mk' (n := 32) Tryz.func108 rfl (by kernel_rfl) rfl rfl (fun B I w0 => ?_)
 refine CW.boundM (t := 0) rfl (fun hb0 => ?_)
 refine CW.boundM (t := 1) rfl (fun hb1 => ?_)
 refine S2 ?_; refine Oas ?_; refine S5 ?_; refine Omv ?_; refine Oln ?_; refine Omv ?_; refine Oln ?_; refine Ocm ?_; refine S2 ?_
 refine CW.cond rfl (fun h0 => ?_) (fun h0 => ?_)
 ·
  replace h0 := nm h0
  refine S2 ?_; refine Oas ?_; refine S4 ?_
  refine r1 6 (H) ?_
  exact ⟨retB (flen_ne h0), rfl⟩
 ·
  replace h0 := nm h0
  refine S5 ?_; refine Omv ?_; refine Oln ?_; refine Omv ?_; refine S3 ?_
  refine lj (fun m st => ∃ k : Nat, st = ⟨[(17, .i k), (16, .i la.length), (15, AV.facts la), (0, AV.facts la), (1, AV.facts lb), (2, .fn f fs cs)], H⟩ ∧ m = la.length - k ∧ k ≤ la.length ∧ la.take k = lb.take k) (⟨0, rfl, rfl, by omega, rfl⟩) ?_
  rintro m _ ⟨k, rfl, rfl, hk, hp⟩
  refine S2 ?_; refine Ocm ?_; refine S3 ?_
  refine CW.cond rfl (fun h1 => ?_) (fun h1 => ?_)
  ·
   replace h1 := nm h1
   refine S6 ?_; refine Omv ?_; refine Oix ?_; refine Ola ?_
   refine OL.alC rfl rfl rfl rfl (fun b0 => ?_)
   refine Oas ?_; refine Sto ?_; refine S4 ?_; refine Omv ?_; refine Omv ?_; refine Oix ?_; refine Ola ?_
   refine OL.alC rfl rfl rfl rfl (fun b1 => ?_)
   refine Sto ?_; refine S4 ?_; refine Omv ?_; refine Ola ?_; refine Ola ?_
   refine OL.vcallC rfl rfl rfl rfl rfl rfl rfl rfl (.cons (.refl _) (.cons (.refl _) .nil)) (hg (la.getD k default) (getD_mem (by omega)) (lb.getD k default) B _) ?_
   rintro _ _ ⟨rfl, rfl⟩
   refine Ont ?_; refine S2 ?_
   refine CW.cond rfl (fun h2 => ?_) (fun h2 => ?_)
   ·
    have h2 : (la.getD k default == lb.getD k default) = false := by simpa only [Bool.not_eq_true'] using h2
    refine S2 ?_; refine Oas ?_; refine S8 ?_
    refine r1 6 (H) ?_
    exact ⟨retB (fne_of h2), rfl⟩
   ·
    have h2 : (la.getD k default == lb.getD k default) = true := by simpa only [Bool.not_eq_false'] using h2
    refine S4 ?_; refine Oar ?_; refine Omv ?_; refine S1 ?_
    exact ag (⟨k + 1, rfl, rfl, by omega, ftake_succ (by omega) (by omega) hp (by simpa using h2)⟩)
  ·
   replace h1 := nm h1
   refine S7 ?_; refine Oas ?_; refine S3 ?_
   refine r1 6 (H) ?_
   exact ⟨retB (feq_end hk h1 h0 hp), rfl⟩
theorem p146_step (a : Fact) (ih : ∀ k ∈ a.kids, ∀ y, PCall Tryz.prog 146 [AV.fact k, AV.fact y] (.b (k == y))) (b : Fact) : PCall Tryz.prog 146 [AV.fact a, AV.fact b] (.b (a == b)) := by
 intro H
 refine ACall.mk' (n := 45) Tryz.func146 rfl (by kernel_rfl) rfl rfl (fun B I w0 => ?_)
 refine S2 ?_; refine Obx ?_; refine Obx ?_; refine Oas ?_; refine S4 ?_; refine Ofa ?_; refine Old ?_; refine Ofa ?_; refine Old ?_; refine Ocm ?_; refine Omv ?_; refine Pfa ?_
 refine Pld ?_; refine Pfa ?_; refine Pld ?_; refine Pcm ?_; refine Opk ?_; refine Omv ?_; refine Pfa ?_; refine Pld ?_; refine Pfa ?_; refine Pld ?_; refine Pcm ?_; refine Opk ?_
 refine Omv ?_; refine Pfa ?_; refine Pld ?_; refine Pfa ?_; refine Pld ?_; refine Pcm ?_; refine Opk ?_; refine Omv ?_; refine Pfa ?_; refine Pld ?_; refine Pfa ?_; refine Pld ?_
 refine OL.guardC rfl rfl rfl rfl rfl rfl (fun hg => POp.call (.mk' rfl rfl rfl rfl (by first | rfl | ((repeat (first | exact hg | rfl | refine Bool.and_eq_true_iff.2 ⟨?_, ?_⟩)); done) | simp_all [strip, constAV])) (p41 a.path b.path)) ?_
 refine Opk ?_; refine Omv ?_; refine Pfa ?_; refine Pld ?_; refine Pfa ?_; refine Pld ?_
 refine OL.guardC rfl rfl rfl rfl rfl rfl (fun hg => POp.call (.mk' rfl rfl rfl rfl (by first | rfl | ((repeat (first | exact hg | rfl | refine Bool.and_eq_true_iff.2 ⟨?_, ?_⟩)); done) | simp_all [strip, constAV])) (p108 a.kids b.kids (fun x hx y B H => VCall.fn (ih x hx y H)))) ?_
 refine Opk ?_; refine Oas ?_; refine S3 ?_
 refine r1 4 (H) ?_
 exact ⟨retB (by rw [same_iff]; simp only [bif_and]), rfl⟩
theorem p146 (a b : Fact) : PCall Tryz.prog 146 [AV.fact a, AV.fact b] (.b (a == b)) := Fact.ind1 (P := fun a => ∀ b, PCall Tryz.prog 146 [AV.fact a, AV.fact b] (.b (a == b))) (fun a ih b => p146_step a ih b) a b
theorem facts_snoc (l : List Fact) (f : Fact) : encFs l ++ [Fcells f] = encFs (l ++ [f]) := by rw [encFs_map, encFs_map]; simp
theorem p96_step (f : Fact) (hs : smallB f = true) (ih : ∀ k ∈ f.kids, PCall Tryz.prog 96 [AV.fact k] (AV.fact k)) : PCall Tryz.prog 96 [AV.fact f] (AV.fact f) := by
 intro H
 refine ACall.mk' (n := 28) Tryz.func96 rfl (by kernel_rfl) rfl rfl (fun B I w0 => ?_)
 have hpl := small_path hs
 have hkl := small_kids hs
 refine S2 ?_
 refine OL.boxC rfl rfl rfl rfl rfl rfl rfl (fun b0 => ?_)
 refine OL.alC rfl rfl rfl rfl (fun b1 => ?_)
 refine S4 ?_; refine Ofa ?_; refine Old ?_
 refine OL.popC rfl rfl rfl (POp.call (.mk' rfl rfl rfl rfl rfl) (p32 f.path (by omega))) ?_
 refine Ofa ?_; refine Sto ?_; refine S4 ?_; refine Ofa ?_; refine Old ?_; refine Oas ?_; refine S4 ?_; refine Ofa ?_; refine Sto ?_; refine S4 ?_
 refine CW.ownNilB 29 6 5 (.tail _ _ _ _ _ (.head _ _ _)) rfl rfl ?_
 refine S1 ?_; refine Omv ?_; refine Oln ?_; refine Omv ?_; refine S3 ?_
 refine lj (fun m st => ∃ (k : Nat) (v : Value), st = ⟨[(15, .i k), (14, .i f.kids.length), (13, AV.facts f.kids), (1, .p b0 0), (2, .p b1 0)], .own 29 6 v :: .blk b1 29 [.val (.int .i64 0), .val (.int .i64 0), .val (.slice none 0 0), .val (.int .i64 0), .val (.int .i64 0), .val (.slice none 0 0)] :: .blk b0 29 [.i f.op, .i f.arg, AV.ints f.path, .i f.cls, .i f.n, .as (.sl 6 (encFs (f.kids.take k))) v] :: H⟩ ∧ m = f.kids.length - k ∧ k ≤ f.kids.length) (⟨0, .slice none 0 0, rfl, rfl, by omega⟩) ?_
 rintro m _ ⟨k, v, rfl, rfl, hk⟩
 refine S2 ?_; refine Ocm ?_; refine S3 ?_
 refine CW.cond rfl (fun h0 => ?_) (fun h0 => ?_)
 ·
  replace h0 := nm h0
  refine S6 ?_; refine Oix ?_; refine Ola ?_
  refine OL.alC rfl rfl rfl rfl (fun b2 => ?_)
  refine Sto ?_; refine S2 ?_
  refine CW.dp mixed ?_
  refine DP.anyC 0 5 28 rfl (by decide +kernel) rfl rfl (by decide +kernel) ?_
  refine Afa ?_; refine Ald ?_; refine Ala ?_
  refine AD.popC rfl rfl rfl (POp.call (.mk' rfl rfl rfl rfl rfl) (ih (f.kids.getD k default) (getD_mem (by omega)))) ?_
  refine AD.popC rfl rfl rfl (POp.row rfl rfl (by first | rfl | simp_all [strip]) rfl rfl rfl rfl rfl rfl) ?_
  refine AD.nil ?_
  refine DP.tailC 5 (by decide +kernel) rfl ?_
  refine OL.appendC rfl rfl rfl rfl rfl rfl rfl rfl (AVle.refl _) (rfl) (fun v => by repeat (first | exact Upd.head _ _ _ | apply Upd.tail)) (by show (List.length (encFs _) + 1) * 80 ≤ _; rw [len_facts, List.length_take]; omega) (by show List.length (encFs _) + 1 ≤ _; rw [len_facts, List.length_take]; omega) (fun v24 => ?_)
  refine Ofa ?_
  apply OL.stoC rfl rfl rfl rfl rfl rfl rfl rfl rfl rfl
  (case hu => repeat (first | exact Upd.head _ _ _ | apply Upd.tail)); (case hfit => rfl); (case hds => exact congrArg (fun x => [AV.i f.op, .i f.arg, AV.ints f.path, .i f.cls, .i f.n, .as (.sl 6 x) v24]) ((facts_snoc _ _).trans (by rw [take_getD (by omega)])))
  refine S4 ?_; refine Oar ?_; refine Omv ?_; refine S1 ?_
  exact ag (⟨k + 1, v24, rfl, rfl, by omega⟩)
 ·
  replace h0 := nm h0
  obtain rfl : k = f.kids.length := by omega
  refine S7 ?_; refine Ola ?_; refine Sto ?_; refine S3 ?_
  refine Done.retR (rs := [.cell 2 29]) (H' := H) rfl ((by first | exact .cellA inferInstance rfl (by repeat (first | exact .head _ | refine .tail _ ?_)) rfl rfl (.nil) | exact .ptrA inferInstance rfl rfl (.nil))) (.cons (AVle.agg (.cons (.refl _) (.cons (.refl _) (.cons (.refl _) (.cons (.refl _) (.cons (.refl _) (.cons (AVle.asL _ _) .nil))))))) .nil) (by repeat (first | exact List.Sublist.refl _ | refine List.Sublist.cons _ ?_)) ?_
  exact ⟨by rw [List.take_length]; rfl, rfl⟩
theorem p96 (f : Fact) (hs : smallB f = true) : PCall Tryz.prog 96 [AV.fact f] (AV.fact f) := Fact.ind1 (P := fun f => smallB f = true → PCall Tryz.prog 96 [AV.fact f] (AV.fact f)) (fun f ih hs => p96_step f hs (fun k hk => ih k hk (small_kid hs k hk))) f hs
def litF (l : FLit) : Fact := if l.neg then notF l.f else l.f
theorem p83 (l : FLit) (hs : smallB l.f = true) : PCall Tryz.prog 83 [AV.lit l] (AV.fact (litF l)) := by
 intro H
 refine ACall.mk' (n := 12) Tryz.func83 rfl (by kernel_rfl) rfl rfl (fun B I w0 => ?_)
 refine S2 ?_; refine Obx ?_
 refine OL.alC rfl rfl rfl rfl (fun b0 => ?_)
 refine S5 ?_; refine Ofa ?_; refine Old ?_; refine S2 ?_
 refine CW.cond rfl (fun h0 => ?_) (fun h0 => ?_)
 ·
  replace h0 := nm h0
  refine S2 ?_; refine Ofa ?_; refine Ola ?_
  refine OL.popC rfl rfl rfl (POp.call (.mk' rfl rfl rfl rfl rfl) (p96 l.f hs)) ?_
  refine OL.popC rfl rfl rfl (POp.call (.mk' rfl rfl rfl rfl rfl) ((p140 _))) ?_
  refine Sto ?_; refine S4 ?_
  refine Done.retR (rs := [.cell 2 29]) (H' := H) rfl ((by first | exact .cellA inferInstance rfl (by repeat (first | exact .head _ | refine .tail _ ?_)) rfl rfl (.nil) | exact .ptrA inferInstance rfl rfl (.nil))) (AVleL.refl _) (by repeat (first | exact List.Sublist.refl _ | refine List.Sublist.cons _ ?_)) ?_
  exact ⟨by rw [litF, if_pos h0]; rfl, rfl⟩
 ·
  replace h0 := nm h0
  refine S4 ?_; refine Ofa ?_; refine Ola ?_
  refine OL.popC rfl rfl rfl (POp.call (.mk' rfl rfl rfl rfl rfl) (p96 l.f hs)) ?_
  refine Sto ?_; refine S3 ?_
  refine Done.retR (rs := [.cell 2 29]) (H' := H) rfl ((by first | exact .cellA inferInstance rfl (by repeat (first | exact .head _ | refine .tail _ ?_)) rfl rfl (.nil) | exact .ptrA inferInstance rfl rfl (.nil))) (AVleL.refl _) (by repeat (first | exact List.Sublist.refl _ | refine List.Sublist.cons _ ?_)) ?_
  exact ⟨by rw [litF, if_neg (by simp [h0])]; rfl, rfl⟩
theorem p185 (y x : FLit) : PCall Tryz.prog 185 [AV.lit y, .ptr (Lcells x)] (.b (x.neg == y.neg && x.f == y.f)) := by
 intro H
 refine ACall.mk' (n := 16) Tryz.func185 rfl (by kernel_rfl) rfl rfl (fun B I w0 => ?_)
 refine S2 ?_; refine Obx ?_; refine Oas ?_; refine S4 ?_; refine Ofa ?_; refine Old ?_; refine Ofa ?_; refine Old ?_; refine Oeb ?_; refine Omv ?_; refine Pfa ?_; refine Pla ?_
 refine Pfa ?_; refine Pla ?_
 refine OL.guardC rfl rfl rfl rfl rfl rfl (fun hg => POp.call (.mk' rfl rfl rfl rfl (by first | rfl | ((repeat (first | exact hg | rfl | refine Bool.and_eq_true_iff.2 ⟨?_, ?_⟩)); done) | simp_all [strip, constAV])) (p146 x.f y.f)) ?_
 refine Opk ?_; refine Oas ?_; refine S3 ?_
 refine r1 3 (H) ?_
 exact ⟨by first | rfl | exact retI (by simp_all) | exact retB (by simp_all) | simp_all, rfl⟩
theorem b212 {B : Nat} {f : Fn} {fs cs : List AV} {F : List Ent → Prop} {J Jx : List FLit → List Ent → Prop} (l : List FLit) (hg : FindOk B Tryz.prog (.fn f fs cs) AV.lit l F J Jx) (H Hx : List Ent) (hF : F Hx) (hJ : J [] H) :
  BCall B Tryz.prog 212 [.sl 7 (l.map Lcells), .fn f fs cs] (H ++ Hx) (FoundAt J Jx l Hx) (fun _ => False) := by
 refine BCall.of (n := 19) Tryz.func212 rfl (by kernel_rfl) rfl rfl (fun I w0 => ?_)
 refine CW.boundM (t := 0) rfl (fun hb0 => ?_)
 refine S2 ?_; refine Oas ?_; refine S5 ?_; refine Omv ?_; refine Oln ?_; refine Omv ?_; refine S3 ?_
 refine lj (fun m st => ∃ (k : Nat) (H1 : List Ent), st = ⟨[(8, .i k), (7, .i l.length), (0, .sl 7 (l.map Lcells)), (1, .fn f fs cs)], H1 ++ Hx⟩ ∧ m = l.length - k ∧ k ≤ l.length ∧ J (l.take k) H1) (⟨0, H, rfl, rfl, by simp, hJ⟩) ?_
 rintro m _ ⟨k, H1, rfl, rfl, hk, hJ1⟩
 refine S2 ?_; refine Ocm ?_; refine S3 ?_
 refine CW.cond rfl (fun h0 => ?_) (fun h0 => ?_)
 ·
  replace h0 := nm h0
  refine S6 ?_; refine Omv ?_; refine Oas ?_; refine S4 ?_; refine Omv ?_; refine Omv ?_; refine Omv ?_; refine Oix ?_; refine Ola ?_
  refine OL.vcallC rfl rfl rfl rfl rfl rfl rfl rfl (AVleL.refl _) (hg (l.take k) (l.getD k default) H1 Hx (by rw [take_getD (by omega)]; exact List.take_prefix _ _) hF hJ1) ?_
  rintro _ _ ⟨b, H2, rfl, rfl, hb1, hb2⟩
  rw [take_getD (by omega)] at hb1 hb2
  refine S2 ?_
  refine CW.cond rfl (fun h1 => ?_) (fun h1 => ?_)
  ·
   replace h1 := nm h1
   refine S2 ?_; refine Omv ?_; refine Oas ?_; refine S8 ?_
   refine Done.retR (rs := [.tmp 4]) rfl (.tmp rfl (.nil)) (AVleL.refl _) (by repeat (first | exact List.Sublist.refl _ | refine List.Sublist.cons _ ?_)) ?_
   exact ⟨H2, rfl, .inr ⟨l.take k, l.getD k default, l.drop (k + 1), split_getD (by omega), retI (by rw [List.length_take, Nat.min_eq_left (by omega)]), by rw [take_getD (by omega)]; exact hb2 h1⟩⟩
  ·
   replace h1 := nm h1
   refine S4 ?_; refine Oar ?_; refine Omv ?_; refine S1 ?_
   exact ag (⟨k + 1, H2, rfl, rfl, by omega, hb1 h1⟩)
 ·
  replace h0 := nm h0
  refine S7 ?_; refine Oas ?_; refine S3 ?_
  refine Done.retR (rs := [.tmp 4]) rfl (.tmp rfl (.nil)) (AVleL.refl _) (by repeat (first | exact List.Sublist.refl _ | refine List.Sublist.cons _ ?_)) ?_
  exact ⟨H1, rfl, .inl ⟨rfl, by have e : k = l.length := (by omega); rw [e, List.take_length] at hJ1; exact hJ1⟩⟩
theorem q212 {Hm : List Ent} {f : Fn} {fs cs : List AV} {p : FLit → Bool} {l : List FLit} (hg : PredOn Tryz.prog Hm (.fn f fs cs) AV.lit l p) : QCallIn Tryz.prog Hm 212 [.sl 7 (l.map Lcells), .fn f fs cs] (fun y => ∃ n : Int, y = .i n ∧ decide (n ≥ 0) = l.any p) :=
 find_pure (by kernel_rfl) (fun B F J Jx h H Hx hF hJ => b212 l h H Hx hF hJ) hg
theorem pi184 {Hm : List Ent} {f : Fn} {fs cs : List AV} {p : FLit → Bool} {l : List FLit} (hg : PredOn Tryz.prog Hm (.fn f fs cs) AV.lit l p) : PCallIn Tryz.prog Hm 184 [.sl 7 (l.map Lcells), .fn f fs cs] (.b (l.any p)) := by
 intro H hm
 refine ACall.mk' (n := 9) Tryz.func184 rfl (by kernel_rfl) rfl rfl (fun B I w0 => ?_)
 refine S2 ?_; refine Oas ?_; refine S4 ?_; refine Omv ?_; refine Omv ?_
 refine OL.qcallIn rfl rfl rfl (.mk' rfl rfl rfl rfl rfl) (q212 hg) hm (fun y hy => ?_)
 obtain ⟨n, rfl, hn⟩ := hy
 refine Ocm ?_; refine Oas ?_; refine S3 ?_
 refine r1 4 (H) ?_
 exact ⟨retB hn, rfl⟩
theorem p184 {f : Fn} {fs cs : List AV} {p : FLit → Bool} (hg : PredOk Tryz.prog (.fn f fs cs) AV.lit p) (l : List FLit) : PCall Tryz.prog 184 [.sl 7 (l.map Lcells), .fn f fs cs] (.b (l.any p)) := (pi184 (hg.on l)).pure
theorem a183 (l : List FLit) (hl : l.length ≤ 1000000) (H : List Ent) : ACall Tryz.prog 183 [AV.lits l] H (fun y H' => ∃ v, y = .as (AV.lits l) v ∧ H' = .own 118 7 v :: H) (fun _ => False) := by
 refine ACall.mk' (n := 8) Tryz.func183 rfl (by kernel_rfl) rfl rfl (fun B I w0 => ?_)
 refine S2 ?_; refine Oas ?_; refine S5 ?_; refine Omv ?_
 refine OL.isNilC rfl rfl rfl rfl rfl rfl rfl (AVle.refl _) rfl rfl (fun n4 hn4 => ?_)
 refine S2 ?_
 refine CW.cond rfl (fun h0 => ?_) (fun h0 => ?_)
 ·
  replace h0 := nm h0
  refine S2 ?_; refine Oas ?_; refine S4 ?_
  refine Done.ownNil 2 118 7 rfl ?_
  refine r1 2 (_) ?_
  exact ⟨_, congrArg (fun x => AV.as x _) (show AV.sl 7 [] = AV.sl 7 _ by rw [hn4 h0]), rfl⟩
 ·
  replace h0 := nm h0
  refine S4 ?_
  refine OL.row0Own rfl rfl rfl rfl (fun v5 => ?_)
  refine Omv ?_
  refine OL.appendC rfl rfl rfl rfl rfl rfl rfl rfl (AVle.refl _) (one_map (fun _ => rfl) l) (fun v => by repeat (first | exact Upd.head _ _ _ | apply Upd.tail)) (by simp; omega) (by simp; omega) (fun v7 => ?_)
  refine Oas ?_; refine S3 ?_
  refine r1 2 (_) ?_
  exact ⟨_, rfl, rfl⟩
def joinStep (out : List FLit) (x : FLit) : List FLit := if out.any (fun y => x.neg == y.neg && x.f == y.f) then out else out ++ [x]
def joinedP (a b : List FLit) : List FLit := b.foldl joinStep a
theorem joinStep_len (out : List FLit) (x : FLit) : (joinStep out x).length ≤ out.length + 1 := by unfold joinStep; split <;> simp
theorem join_take {a b : List FLit} {k : Nat} (h : k < b.length) : joinedP a (b.take (k + 1)) = joinStep (joinedP a (b.take k)) (b.getD k default) := by
 rw [← take_getD h, joinedP, List.foldl_append]; rfl
theorem joined_len (a : List FLit) : ∀ b : List FLit, (joinedP a b).length ≤ a.length + b.length := by
 intro b
 induction b generalizing a with
 | nil => simp [joinedP]
 | cons x b ih =>
  have := ih (joinStep a x)
  have h2 := joinStep_len a x
  show (joinedP (joinStep a x) b).length ≤ _
  simp only [List.length_cons]; omega
theorem p137 (a b : List FLit) (ha : a.length ≤ 100000) (hb : b.length ≤ 100000) : PCall Tryz.prog 137 [AV.lits a, AV.lits b] (AV.lits (joinedP a b)) := by
 intro H
 refine ACall.mk' (n := 26) Tryz.func137 rfl (by kernel_rfl) rfl rfl (fun B I w0 => ?_)
 refine S2 ?_; refine Oas ?_; refine S4 ?_; refine Omv ?_
 refine OL.bcallC rfl rfl rfl (.mk' rfl rfl rfl rfl rfl) ((a183 a (by omega) H).b) ?_
 rintro _ _ ⟨v, rfl, rfl⟩
 refine Oas ?_; refine S5 ?_; refine Omv ?_; refine Oln ?_; refine Omv ?_; refine S3 ?_
 refine lj (fun m st => ∃ (k : Nat) (v : Value) (els : List (List AV)), st = ⟨[(12, .i k), (11, .i b.length), (10, AV.lits b), (5, .as (.sl 7 els) v)], .own 118 7 v :: H⟩ ∧ m = b.length - k ∧ k ≤ b.length ∧ els = (joinedP a (b.take k)).map Lcells) (⟨0, v, _, rfl, rfl, by omega, rfl⟩) ?_
 rintro m _ ⟨k, v, _, rfl, rfl, hk, rfl⟩
 refine S2 ?_; refine Ocm ?_; refine S3 ?_
 refine CW.cond rfl (fun h0 => ?_) (fun h0 => ?_)
 ·
  replace h0 := nm h0
  refine S6 ?_; refine Oix ?_; refine Ola ?_
  refine OL.alC rfl rfl rfl rfl (fun b0 => ?_)
  refine Sto ?_; refine S3 ?_
  refine CW.freezeP (d := 7) rfl (by repeat (first | exact Del.head _ _ | apply Del.tail)) ?_
  refine S1 ?_; refine Omv ?_; refine Omf ?_
  refine OL.popC rfl rfl rfl (POp.callLe (.mk' rfl rfl rfl rfl rfl) (.cons (AVle.asL _ _) (.cons (.refl _) .nil)) (p184 (.of (fun y => p185 y (b.getD k default))) (joinedP a (b.take k)))) ?_
  refine Ont ?_; refine S2 ?_
  refine CW.cond rfl (fun h1 => ?_) (fun h1 => ?_)
  ·
   have e : joinedP a (b.take (k + 1)) = joinedP a (b.take k) ++ [b.getD k default] := by rw [join_take (by omega), joinStep, if_neg (by simpa only [Bool.not_eq_true', Bool.not_eq_true] using h1)]
   have hj := joined_len a (b.take k)
   rw [List.length_take] at hj
   refine S1 ?_; refine Omv ?_; refine Ola ?_
   refine OL.popC rfl rfl rfl (POp.row rfl rfl (by first | rfl | simp_all [strip]) rfl rfl rfl rfl rfl rfl) ?_
   refine OL.appendC rfl rfl rfl rfl rfl rfl rfl rfl (AVle.refl _) (rfl) (fun v => by repeat (first | exact Upd.head _ _ _ | apply Upd.tail)) (by show (List.length (List.map _ _) + 1) * 88 ≤ _; rw [List.length_map]; omega) (by show List.length (List.map _ _) + 1 ≤ _; rw [List.length_map]; omega) (fun v23 => ?_)
   refine Oas ?_; refine S4 ?_; refine Oar ?_; refine Omv ?_; refine S1 ?_
   exact ag (⟨k + 1, v23, _, rfl, rfl, by omega, (by rw [e, List.map_append])⟩)
  ·
   have e : joinedP a (b.take (k + 1)) = joinedP a (b.take k) := by rw [join_take (by omega), joinStep, if_pos (by simpa only [Bool.not_eq_false'] using h1)]
   refine S4 ?_; refine Oar ?_; refine Omv ?_; refine S1 ?_
   exact ag (⟨k + 1, v, _, rfl, rfl, by omega, by rw [e]⟩)
 ·
  replace h0 := nm h0
  obtain rfl : k = b.length := by omega
  refine S7 ?_; refine Omv ?_; refine Oas ?_; refine S3 ?_
  refine Done.retR (rs := [.tmp 4]) (H' := H) rfl (.tmp rfl (.nil)) (.cons (AVle.asL _ _) .nil) (by repeat (first | exact List.Sublist.refl _ | refine List.Sublist.cons _ ?_)) ?_
  exact ⟨by rw [List.take_length]; rfl, rfl⟩
end Go.Proofs.YtiljpbljebfhnaaGreat
