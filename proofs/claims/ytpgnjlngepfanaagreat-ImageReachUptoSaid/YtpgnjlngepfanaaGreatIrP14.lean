/- Part 14 of the proof: contracts of functions of the program and what they need. No condition beyond those that each theorem names. -/
import Derived.Test.YtpgnjlngepfanaaGreatIrP13
import Derived.DeepKeys4
import Derived.Test.YtpgnjlngepfanaaGreatProg
import Derived.KernelRfl
import Derived.ProofKit
import Derived.Test.YtpgnjlngepfanaaGreatRows
set_option linter.unusedVariables false
set_option linter.unusedSimpArgs false
set_option maxRecDepth 10000
namespace Go.Proofs.YtpgnjlngepfanaaGreat
open Go.Eng
open Go.Eng.Fc
open Go.Eng.Bd
open Go.ChangeShapes Go.WideShapes
instance : HasTy Tryz.prog 3 (false, 1) := ⟨by kernel_rfl⟩
instance : HasTy Tryz.prog 4 (false, 1) := ⟨by kernel_rfl⟩
instance : HasTy Tryz.prog 5 (false, 1) := ⟨by kernel_rfl⟩
instance : HasTy Tryz.prog 22 (false, 1) := ⟨by kernel_rfl⟩
instance : HasTy Tryz.prog 23 (false, 1) := ⟨by kernel_rfl⟩
instance : HasTy Tryz.prog 24 (false, 1) := ⟨by kernel_rfl⟩
instance : HasTy Tryz.prog 25 (false, 1) := ⟨by kernel_rfl⟩
instance : HasTy Tryz.prog 27 (true, 6) := ⟨by kernel_rfl⟩
instance : HasTy Tryz.prog 28 (false, 1) := ⟨by kernel_rfl⟩
instance : HasTy Tryz.prog 29 (false, 1) := ⟨by kernel_rfl⟩
instance : HasTy Tryz.prog 30 (false, 1) := ⟨by kernel_rfl⟩
instance : HasTy Tryz.prog 48 (false, 1) := ⟨by kernel_rfl⟩
instance : HasTy Tryz.prog 58 (false, 1) := ⟨by kernel_rfl⟩
instance : HasTy Tryz.prog 60 (true, 2) := ⟨by kernel_rfl⟩
instance : HasTy Tryz.prog 65 (true, 2) := ⟨by kernel_rfl⟩
instance : HasTy Tryz.prog 77 (false, 1) := ⟨by kernel_rfl⟩
instance : HasTy Tryz.prog 79 (true, 3) := ⟨by kernel_rfl⟩
instance : HasTy Tryz.prog 86 (false, 1) := ⟨by kernel_rfl⟩
instance : HasTy Tryz.prog 89 (false, 1) := ⟨by kernel_rfl⟩
instance : HasTy Tryz.prog 104 (false, 1) := ⟨by kernel_rfl⟩
instance : HasTy Tryz.prog 110 (false, 1) := ⟨by kernel_rfl⟩
instance : HasTy Tryz.prog 114 (true, 3) := ⟨by kernel_rfl⟩
instance : HasTy Tryz.prog 119 (true, 3) := ⟨by kernel_rfl⟩
instance : HasTy Tryz.prog 121 (false, 1) := ⟨by kernel_rfl⟩
instance : HasTy Tryz.prog 124 (false, 1) := ⟨by kernel_rfl⟩
instance : HasTy Tryz.prog 143 (true, 2) := ⟨by kernel_rfl⟩
instance : HasTy Tryz.prog 144 (false, 1) := ⟨by kernel_rfl⟩
instance : HasTy Tryz.prog 146 (true, 3) := ⟨by kernel_rfl⟩
instance : HasTy Tryz.prog 149 (false, 1) := ⟨by kernel_rfl⟩
instance : HasTy Tryz.prog 151 (true, 2) := ⟨by kernel_rfl⟩
instance : HasTy Tryz.prog 162 (false, 1) := ⟨by kernel_rfl⟩
instance : HasTy Tryz.prog 163 (false, 1) := ⟨by kernel_rfl⟩
instance : HasTy Tryz.prog 164 (false, 1) := ⟨by kernel_rfl⟩
instance : HasTy Tryz.prog 166 (true, 6) := ⟨by kernel_rfl⟩
instance : HasTy Tryz.prog 168 (true, 9) := ⟨by kernel_rfl⟩
instance : HasTy Tryz.prog 176 (true, 0) := ⟨by kernel_rfl⟩
instance : HasTy Tryz.prog 220 (false, 1) := ⟨by kernel_rfl⟩
instance : HasTy Tryz.prog 228 (true, 2) := ⟨by kernel_rfl⟩
instance : HasTy Tryz.prog 253 (true, 0) := ⟨by kernel_rfl⟩
instance : HasTy Tryz.prog 257 (false, 1) := ⟨by kernel_rfl⟩
instance : HasTy Tryz.prog 260 (false, 1) := ⟨by kernel_rfl⟩
instance : HasTy Tryz.prog 261 (false, 1) := ⟨by kernel_rfl⟩
instance : HasTy Tryz.prog 269 (false, 1) := ⟨by kernel_rfl⟩
instance : HasTy Tryz.prog 275 (false, 1) := ⟨by kernel_rfl⟩
instance : HasTy Tryz.prog 276 (false, 1) := ⟨by kernel_rfl⟩
instance : HasTy Tryz.prog 282 (false, 1) := ⟨by kernel_rfl⟩
instance : HasTy Tryz.prog 303 (true, 1) := ⟨by kernel_rfl⟩
instance : HasTy Tryz.prog 306 (false, 1) := ⟨by kernel_rfl⟩
instance : HasTy Tryz.prog 314 (false, 1) := ⟨by kernel_rfl⟩
instance : HasFld Tryz.prog 27 0 0 := ⟨by kernel_rfl⟩
instance : HasFld Tryz.prog 27 1 1 := ⟨by kernel_rfl⟩
instance : HasFld Tryz.prog 27 2 2 := ⟨by kernel_rfl⟩
instance : HasFld Tryz.prog 27 3 3 := ⟨by kernel_rfl⟩
instance : HasFld Tryz.prog 27 4 4 := ⟨by kernel_rfl⟩
instance : HasFld Tryz.prog 27 5 5 := ⟨by kernel_rfl⟩
instance : HasFld Tryz.prog 32 0 0 := ⟨by kernel_rfl⟩
instance : HasFld Tryz.prog 32 1 6 := ⟨by kernel_rfl⟩
instance : HasFld Tryz.prog 32 2 7 := ⟨by kernel_rfl⟩
instance : HasFld Tryz.prog 32 3 8 := ⟨by kernel_rfl⟩
instance : HasFld Tryz.prog 32 4 9 := ⟨by kernel_rfl⟩
instance : HasFld Tryz.prog 32 5 10 := ⟨by kernel_rfl⟩
instance : HasFld Tryz.prog 60 0 0 := ⟨by kernel_rfl⟩
instance : HasFld Tryz.prog 60 1 1 := ⟨by kernel_rfl⟩
instance : HasFld Tryz.prog 65 0 0 := ⟨by kernel_rfl⟩
instance : HasFld Tryz.prog 65 1 1 := ⟨by kernel_rfl⟩
instance : HasFld Tryz.prog 79 0 0 := ⟨by kernel_rfl⟩
instance : HasFld Tryz.prog 79 1 1 := ⟨by kernel_rfl⟩
instance : HasFld Tryz.prog 79 2 2 := ⟨by kernel_rfl⟩
instance : HasFld Tryz.prog 97 0 0 := ⟨by kernel_rfl⟩
instance : HasFld Tryz.prog 99 0 0 := ⟨by kernel_rfl⟩
instance : HasFld Tryz.prog 114 0 0 := ⟨by kernel_rfl⟩
instance : HasFld Tryz.prog 114 1 1 := ⟨by kernel_rfl⟩
instance : HasFld Tryz.prog 114 2 2 := ⟨by kernel_rfl⟩
instance : HasFld Tryz.prog 119 0 0 := ⟨by kernel_rfl⟩
instance : HasFld Tryz.prog 119 1 1 := ⟨by kernel_rfl⟩
instance : HasFld Tryz.prog 119 2 2 := ⟨by kernel_rfl⟩
instance : HasFld Tryz.prog 123 0 0 := ⟨by kernel_rfl⟩
instance : HasFld Tryz.prog 123 1 1 := ⟨by kernel_rfl⟩
instance : HasFld Tryz.prog 135 0 0 := ⟨by kernel_rfl⟩
instance : HasFld Tryz.prog 135 1 1 := ⟨by kernel_rfl⟩
instance : HasFld Tryz.prog 135 2 2 := ⟨by kernel_rfl⟩
instance : HasFld Tryz.prog 143 0 0 := ⟨by kernel_rfl⟩
instance : HasFld Tryz.prog 143 1 1 := ⟨by kernel_rfl⟩
instance : HasFld Tryz.prog 146 0 0 := ⟨by kernel_rfl⟩
instance : HasFld Tryz.prog 146 1 1 := ⟨by kernel_rfl⟩
instance : HasFld Tryz.prog 146 2 2 := ⟨by kernel_rfl⟩
instance : HasFld Tryz.prog 151 0 0 := ⟨by kernel_rfl⟩
instance : HasFld Tryz.prog 151 1 1 := ⟨by kernel_rfl⟩
instance : HasFld Tryz.prog 166 0 0 := ⟨by kernel_rfl⟩
instance : HasFld Tryz.prog 166 1 1 := ⟨by kernel_rfl⟩
instance : HasFld Tryz.prog 166 2 2 := ⟨by kernel_rfl⟩
instance : HasFld Tryz.prog 166 3 3 := ⟨by kernel_rfl⟩
instance : HasFld Tryz.prog 166 4 4 := ⟨by kernel_rfl⟩
instance : HasFld Tryz.prog 166 5 5 := ⟨by kernel_rfl⟩
instance : HasFld Tryz.prog 168 0 0 := ⟨by kernel_rfl⟩
instance : HasFld Tryz.prog 168 1 1 := ⟨by kernel_rfl⟩
instance : HasFld Tryz.prog 168 2 2 := ⟨by kernel_rfl⟩
instance : HasFld Tryz.prog 168 3 8 := ⟨by kernel_rfl⟩
instance : HasFld Tryz.prog 177 0 0 := ⟨by kernel_rfl⟩
instance : HasFld Tryz.prog 228 0 0 := ⟨by kernel_rfl⟩
instance : HasFld Tryz.prog 228 1 1 := ⟨by kernel_rfl⟩
instance : HasFld Tryz.prog 278 0 0 := ⟨by kernel_rfl⟩
instance : HasFld Tryz.prog 278 1 1 := ⟨by kernel_rfl⟩
instance : HasFld Tryz.prog 278 2 2 := ⟨by kernel_rfl⟩
instance : HasFld Tryz.prog 309 0 0 := ⟨by kernel_rfl⟩
instance : HasFld Tryz.prog 309 1 2 := ⟨by kernel_rfl⟩
instance : HasSl Tryz.prog 22 3 := ⟨by kernel_rfl⟩
instance : HasSl Tryz.prog 23 1 := ⟨by kernel_rfl⟩
instance : HasSl Tryz.prog 24 9 := ⟨by kernel_rfl⟩
instance : HasSl Tryz.prog 25 3 := ⟨by kernel_rfl⟩
instance : HasSl Tryz.prog 28 2 := ⟨by kernel_rfl⟩
instance : HasSl Tryz.prog 29 2 := ⟨by kernel_rfl⟩
instance : HasSl Tryz.prog 30 1 := ⟨by kernel_rfl⟩
instance : HasSl Tryz.prog 44 1 := ⟨by kernel_rfl⟩
instance : HasSl Tryz.prog 77 2 := ⟨by kernel_rfl⟩
instance : HasSl Tryz.prog 102 1 := ⟨by kernel_rfl⟩
instance : HasSl Tryz.prog 110 3 := ⟨by kernel_rfl⟩
instance : HasSl Tryz.prog 115 3 := ⟨by kernel_rfl⟩
instance : HasSl Tryz.prog 149 1 := ⟨by kernel_rfl⟩
instance : HasSl Tryz.prog 164 6 := ⟨by kernel_rfl⟩
instance : HasSl Tryz.prog 222 1 := ⟨by kernel_rfl⟩
instance : HasSl Tryz.prog 275 1 := ⟨by kernel_rfl⟩
instance : HasSl Tryz.prog 300 1 := ⟨by kernel_rfl⟩
instance : HasArr Tryz.prog 303 (1, 1) := ⟨by kernel_rfl⟩
instance : HasArr Tryz.prog 307 (63, 1) := ⟨by kernel_rfl⟩
instance : HasZero Tryz.prog 3 [.int .i64 0] := ⟨by kernel_rfl⟩
instance : HasZero Tryz.prog 4 [.bool false] := ⟨by kernel_rfl⟩
instance : HasZero Tryz.prog 23 [.slice none 0 0] := ⟨by kernel_rfl⟩
instance : HasZero Tryz.prog 27 [.slice none 0 0, .int .i64 0, .slice none 0 0, .slice none 0 0, .slice none 0 0, .int .i64 0] := ⟨by kernel_rfl⟩
instance : HasZero Tryz.prog 28 [.slice none 0 0] := ⟨by kernel_rfl⟩
instance : HasZero Tryz.prog 29 [.slice none 0 0] := ⟨by kernel_rfl⟩
instance : HasZero Tryz.prog 30 [.slice none 0 0] := ⟨by kernel_rfl⟩
instance : HasZero Tryz.prog 60 [.int .i64 0, .int .i64 0] := ⟨by kernel_rfl⟩
instance : HasZero Tryz.prog 65 [.int .i64 0, .slice none 0 0] := ⟨by kernel_rfl⟩
instance : HasZero Tryz.prog 79 [.slice none 0 0, .slice none 0 0, .slice none 0 0] := ⟨by kernel_rfl⟩
instance : HasZero Tryz.prog 86 [.nilFunc] := ⟨by kernel_rfl⟩
instance : HasZero Tryz.prog 104 [.pointer none] := ⟨by kernel_rfl⟩
instance : HasZero Tryz.prog 110 [.slice none 0 0] := ⟨by kernel_rfl⟩
instance : HasZero Tryz.prog 114 [.int .i64 0, .slice none 0 0, .bool false] := ⟨by kernel_rfl⟩
instance : HasZero Tryz.prog 119 [.int .u8 0, .slice none 0 0, .bool false] := ⟨by kernel_rfl⟩
instance : HasZero Tryz.prog 124 [.pointer none] := ⟨by kernel_rfl⟩
instance : HasZero Tryz.prog 143 [.int .i64 0, .int .i64 0] := ⟨by kernel_rfl⟩
instance : HasZero Tryz.prog 146 [.int .i64 0, .int .i64 0, .slice none 0 0] := ⟨by kernel_rfl⟩
instance : HasZero Tryz.prog 151 [.slice none 0 0, .slice none 0 0] := ⟨by kernel_rfl⟩
instance : HasZero Tryz.prog 166 [.int .i64 0, .int .i64 0, .slice none 0 0, .int .i64 0, .int .i64 0, .slice none 0 0] := ⟨by kernel_rfl⟩
instance : HasZero Tryz.prog 168 [.int .i64 0, .int .i64 0, .int .i64 0, .int .i64 0, .slice none 0 0, .int .i64 0, .int .i64 0, .slice none 0 0, .int .i64 0] := ⟨by kernel_rfl⟩
instance : HasZero Tryz.prog 176 [] := ⟨by kernel_rfl⟩
instance : HasZero Tryz.prog 228 [.int .i64 0, .int .i64 0] := ⟨by kernel_rfl⟩
instance : HasZero Tryz.prog 253 [] := ⟨by kernel_rfl⟩
instance : HasZero Tryz.prog 260 [.nilFunc] := ⟨by kernel_rfl⟩
instance : HasZero Tryz.prog 303 [.int .u64 0] := ⟨by kernel_rfl⟩
instance : HasZero Tryz.prog 314 [.int .u64 0] := ⟨by kernel_rfl⟩
instance : IsB Tryz.prog 4 := ⟨by kernel_rfl⟩
instance : HasInt Tryz.prog 3 .i64 := ⟨by kernel_rfl⟩
instance : HasInt Tryz.prog 5 .u8 := ⟨by kernel_rfl⟩
instance : HasInt Tryz.prog 48 .i64 := ⟨by kernel_rfl⟩
instance : HasInt Tryz.prog 68 .u16 := ⟨by kernel_rfl⟩
instance : HasInt Tryz.prog 212 .u64 := ⟨by kernel_rfl⟩
instance : HasInt Tryz.prog 279 .u32 := ⟨by kernel_rfl⟩
instance : HasInt Tryz.prog 282 .u64 := ⟨by kernel_rfl⟩
instance : HasInt Tryz.prog 314 .u64 := ⟨by kernel_rfl⟩
instance : HasBuild Tryz.prog 27 ([.slice none 0 0, .int .i64 0, .slice none 0 0, .slice none 0 0, .slice none 0 0, .int .i64 0], [(0, 1), (1, 1), (2, 1), (3, 1), (4, 1), (5, 1)]) := ⟨by kernel_rfl⟩
instance : HasBuild Tryz.prog 60 ([.int .i64 0, .int .i64 0], [(0, 1), (1, 1)]) := ⟨by kernel_rfl⟩
instance : HasBuild Tryz.prog 65 ([.int .i64 0, .slice none 0 0], [(0, 1), (1, 1)]) := ⟨by kernel_rfl⟩
instance : HasBuild Tryz.prog 79 ([.slice none 0 0, .slice none 0 0, .slice none 0 0], [(0, 1), (1, 1), (2, 1)]) := ⟨by kernel_rfl⟩
instance : HasBuild Tryz.prog 97 ([.slice none 0 0], [(0, 1)]) := ⟨by kernel_rfl⟩
instance : HasBuild Tryz.prog 99 ([.slice none 0 0], [(0, 1)]) := ⟨by kernel_rfl⟩
instance : HasBuild Tryz.prog 114 ([.int .i64 0, .slice none 0 0, .bool false], [(0, 1), (1, 1), (2, 1)]) := ⟨by kernel_rfl⟩
instance : HasBuild Tryz.prog 119 ([.int .u8 0, .slice none 0 0, .bool false], [(0, 1), (1, 1), (2, 1)]) := ⟨by kernel_rfl⟩
instance : HasBuild Tryz.prog 123 ([.slice none 0 0, .map none], [(0, 1), (1, 1)]) := ⟨by kernel_rfl⟩
instance : HasBuild Tryz.prog 135 ([.slice none 0 0, .int .i64 0, .bool false], [(0, 1), (1, 1), (2, 1)]) := ⟨by kernel_rfl⟩
instance : HasBuild Tryz.prog 143 ([.int .i64 0, .int .i64 0], [(0, 1), (1, 1)]) := ⟨by kernel_rfl⟩
instance : HasBuild Tryz.prog 146 ([.int .i64 0, .int .i64 0, .slice none 0 0], [(0, 1), (1, 1), (2, 1)]) := ⟨by kernel_rfl⟩
instance : HasBuild Tryz.prog 151 ([.slice none 0 0, .slice none 0 0], [(0, 1), (1, 1)]) := ⟨by kernel_rfl⟩
instance : HasBuild Tryz.prog 166 ([.int .i64 0, .int .i64 0, .slice none 0 0, .int .i64 0, .int .i64 0, .slice none 0 0], [(0, 1), (1, 1), (2, 1), (3, 1), (4, 1), (5, 1)]) := ⟨by kernel_rfl⟩
instance : HasBuild Tryz.prog 168 ([.int .i64 0, .int .i64 0, .int .i64 0, .int .i64 0, .slice none 0 0, .int .i64 0, .int .i64 0, .slice none 0 0, .int .i64 0], [(0, 1), (1, 1), (2, 6), (8, 1)]) := ⟨by kernel_rfl⟩
instance : HasBuild Tryz.prog 176 ([], []) := ⟨by kernel_rfl⟩
instance : HasBuild Tryz.prog 177 ([.slice none 0 0], [(0, 1)]) := ⟨by kernel_rfl⟩
instance : HasBuild Tryz.prog 228 ([.int .i64 0, .int .i64 0], [(0, 1), (1, 1)]) := ⟨by kernel_rfl⟩
instance : HasBuild Tryz.prog 234 ([], []) := ⟨by kernel_rfl⟩
instance : HasBuild Tryz.prog 253 ([], []) := ⟨by kernel_rfl⟩
instance : HasBuild Tryz.prog 278 ([.slice none 0 0, .slice none 0 0, .map none], [(0, 1), (1, 1), (2, 1)]) := ⟨by kernel_rfl⟩
instance : HasBuild Tryz.prog 303 ([.int .u64 0], [(0, 1)]) := ⟨by kernel_rfl⟩
instance : HasBuild Tryz.prog 309 ([.slice none 0 0, .slice none 0 0, .int .u64 0, .int .u64 0, .int .u64 0, .int .u64 0, .int .u64 0, .int .u64 0, .int .u64 0, .int .u64 0, .int .u64 0, .int .u64 0, .int .u64 0, .int .u64 0, .int .u64 0, .int .u64 0, .int .u64 0, .int .u64 0, .int .u64 0, .int .u64 0, .int .u64 0, .int .u64 0, .int .u64 0, .int .u64 0, .int .u64 0, .int .u64 0, .int .u64 0, .int .u64 0, .int .u64 0, .int .u64 0, .int .u64 0, .int .u64 0, .int .u64 0, .int .u64 0, .int .u64 0, .int .u64 0, .int .u64 0, .int .u64 0, .int .u64 0, .int .u64 0, .int .u64 0, .int .u64 0, .int .u64 0, .int .u64 0, .int .u64 0, .int .u64 0, .int .u64 0, .int .u64 0, .int .u64 0, .int .u64 0, .int .u64 0, .int .u64 0, .int .u64 0, .int .u64 0, .int .u64 0, .int .u64 0, .int .u64 0, .int .u64 0, .int .u64 0, .int .u64 0, .int .u64 0, .int .u64 0, .int .u64 0, .int .u64 0, .int .u64 0], [(0, 2), (2, 63)]) := ⟨by kernel_rfl⟩
instance : HasRow Tryz.prog 22 (3, [.slice none 0 0, .slice none 0 0, .slice none 0 0]) := ⟨by kernel_rfl⟩
instance : HasRow Tryz.prog 23 (1, [.int .i64 0]) := ⟨by kernel_rfl⟩
instance : HasRow Tryz.prog 24 (9, [.int .i64 0, .int .i64 0, .int .i64 0, .int .i64 0, .slice none 0 0, .int .i64 0, .int .i64 0, .slice none 0 0, .int .i64 0]) := ⟨by kernel_rfl⟩
instance : HasRow Tryz.prog 25 (3, [.int .i64 0, .int .i64 0, .slice none 0 0]) := ⟨by kernel_rfl⟩
instance : HasRow Tryz.prog 28 (2, [.int .i64 0, .slice none 0 0]) := ⟨by kernel_rfl⟩
instance : HasRow Tryz.prog 29 (2, [.int .i64 0, .int .i64 0]) := ⟨by kernel_rfl⟩
instance : HasRow Tryz.prog 30 (1, [.int .u8 0]) := ⟨by kernel_rfl⟩
instance : HasRow Tryz.prog 44 (1, [.int .i64 0]) := ⟨by kernel_rfl⟩
instance : HasRow Tryz.prog 77 (2, [.int .i64 0, .int .i64 0]) := ⟨by kernel_rfl⟩
instance : HasRow Tryz.prog 102 (1, [.pointer none]) := ⟨by kernel_rfl⟩
instance : HasRow Tryz.prog 110 (3, [.int .i64 0, .slice none 0 0, .bool false]) := ⟨by kernel_rfl⟩
instance : HasRow Tryz.prog 115 (3, [.int .u8 0, .slice none 0 0, .bool false]) := ⟨by kernel_rfl⟩
instance : HasRow Tryz.prog 149 (1, [.slice none 0 0]) := ⟨by kernel_rfl⟩
instance : HasRow Tryz.prog 164 (6, [.int .i64 0, .int .i64 0, .slice none 0 0, .int .i64 0, .int .i64 0, .slice none 0 0]) := ⟨by kernel_rfl⟩
instance : HasRow Tryz.prog 222 (1, [.int .i64 0]) := ⟨by kernel_rfl⟩
instance : HasRow Tryz.prog 275 (1, [.int .u64 0]) := ⟨by kernel_rfl⟩
instance : HasApp Tryz.prog 22 (79, 3, 72) := ⟨by kernel_rfl⟩
instance : HasApp Tryz.prog 23 (3, 1, 8) := ⟨by kernel_rfl⟩
instance : HasApp Tryz.prog 24 (168, 9, 104) := ⟨by kernel_rfl⟩
instance : HasApp Tryz.prog 25 (146, 3, 40) := ⟨by kernel_rfl⟩
instance : HasApp Tryz.prog 28 (65, 2, 32) := ⟨by kernel_rfl⟩
instance : HasApp Tryz.prog 29 (60, 2, 16) := ⟨by kernel_rfl⟩
instance : HasApp Tryz.prog 30 (5, 1, 1) := ⟨by kernel_rfl⟩
instance : HasApp Tryz.prog 44 (48, 1, 8) := ⟨by kernel_rfl⟩
instance : HasApp Tryz.prog 77 (143, 2, 16) := ⟨by kernel_rfl⟩
instance : HasApp Tryz.prog 102 (104, 1, 8) := ⟨by kernel_rfl⟩
instance : HasApp Tryz.prog 110 (114, 3, 40) := ⟨by kernel_rfl⟩
instance : HasApp Tryz.prog 115 (119, 3, 40) := ⟨by kernel_rfl⟩
instance : HasApp Tryz.prog 149 (23, 1, 24) := ⟨by kernel_rfl⟩
instance : HasApp Tryz.prog 164 (166, 6, 80) := ⟨by kernel_rfl⟩
instance : HasApp Tryz.prog 275 (303, 1, 8) := ⟨by kernel_rfl⟩
theorem mixed : Tryz.prog.follows .mixedOrders = true := by kernel_rfl
section
variable {H : Type} {enc : TypeId × Value → H} {w : World} {base : Nat} {spare : Nat → Bool} {held : Bool} {sz : DataW H → Nat}
theorem rd_int (hB : Bulk sz) (n : Nat) : ReadsB enc Tryz.prog w base spare held sz n 3 (fun q : Int => [AV.i q]) (fun _ _ => True) := (reads_int Tryz.underlying3).b
theorem rd_ints (hB : Bulk sz) (n : Nat) : ReadsB enc Tryz.prog w base spare held sz n 23 (fun l : List Int => [AV.ints l]) (fun (l : List _) (b : Nat) => l.length ≤ b) := fun fuel hf cs x h => by
 obtain ⟨l, hl, hq⟩ := readsB_slice (n := n) hB (k := 1) (Q := fun _ _ => True) (fun y a b => fun _ _ => trivial) Tryz.underlying23 (by kernel_rfl) (by omega) (fun _ => rfl) (rd_int hB n) fuel (by omega) cs x h
 exact ⟨l, hl, hq.1⟩
theorem rd_FormOp (hB : Bulk sz) (n : Nat) : ReadsB enc Tryz.prog w base spare held sz n 144 (fun q : Int => [AV.i q]) (fun _ _ => True) := (reads_int Tryz.underlying144).b
theorem rd_FormKind (hB : Bulk sz) (n : Nat) : ReadsB enc Tryz.prog w base spare held sz n 162 (fun q : Int => [AV.i q]) (fun _ _ => True) := (reads_int Tryz.underlying162).b
theorem rd_MeanKind (hB : Bulk sz) (n : Nat) : ReadsB enc Tryz.prog w base spare held sz n 58 (fun q : Int => [AV.i q]) (fun _ _ => True) := (reads_int Tryz.underlying58).b
theorem rd_init (hB : Bulk sz) (n : Nat) : ReadsB enc Tryz.prog w base spare held sz n 143 (initA) (fun _ _ => True) := fun fuel hf cs x h => by
 obtain ⟨xs, m, rfl, hx, hl, hn, hg⟩ := DataW.trod_struct Tryz.underlying143 h
 have hl : cs.length = 2 := hl.trans (by kernel_rfl)
 have h0 := hg 0 _ rfl
 have h1 := hg 1 _ rfl
 rw [List.getElem?_eq_getElem (by rw [hn]; decide)] at h0 h1
 obtain ⟨y0, r0, q0⟩ := rd_int hB m m (Nat.le_refl _) _ _ h0
 obtain ⟨y1, r1, q1⟩ := rd_int hB m m (Nat.le_refl _) _ _ h1
 refine ⟨⟨y0, y1⟩, ?_, trivial⟩
 have := (relL_join (a := 0) (n := 1) (m := 1) r0 r1)
 rwa [List.drop_zero, List.take_of_length_le (by omega)] at this
theorem rd_inits (hB : Bulk sz) (n : Nat) : ReadsB enc Tryz.prog w base spare held sz n 77 (fun l : List (Int × Int) => [AV.sl 2 (l.map initA)]) (fun _ _ => True) := fun fuel hf cs x h => by
 obtain ⟨l, hl, _⟩ := readsB_slice (n := n) hB (k := 2) (Q := fun _ _ => True) (fun y a b => fun _ _ => trivial) Tryz.underlying77 (by kernel_rfl) (by omega) (fun _ => rfl) (rd_init hB n) fuel (by omega) cs x h
 exact ⟨l, hl, trivial⟩
theorem rd_cls (hB : Bulk sz) (n : Nat) : ReadsB enc Tryz.prog w base spare held sz n 79 (clsA) (fun (c : Cls) (b : Nat) => c.parents.length ≤ b) := fun fuel hf cs x h => by
 obtain ⟨xs, m, rfl, hx, hl, hn, hg⟩ := DataW.trod_struct Tryz.underlying79 h
 have hl : cs.length = 3 := hl.trans (by kernel_rfl)
 have h0 := hg 0 _ rfl
 have h1 := hg 1 _ rfl
 have h2 := hg 2 _ rfl
 rw [List.getElem?_eq_getElem (by rw [hn]; decide)] at h0 h1 h2
 obtain ⟨y0, r0, q0⟩ := rd_ints hB m m (Nat.le_refl _) _ _ h0
 obtain ⟨y1, r1, q1⟩ := rd_ints hB m m (Nat.le_refl _) _ _ h1
 obtain ⟨y2, r2, q2⟩ := rd_inits hB m m (Nat.le_refl _) _ _ h2
 have hz0 : sz (xs[0]'(by rw [hn]; decide)).1 ≤ sz x.1 := by rw [hx]; exact hB.ag _ _ (List.mem_map.2 ⟨_, List.getElem_mem _, rfl⟩)
 replace q0 : (fun (l : List _) (b : Nat) => l.length ≤ b) y0 (sz x.1) := (fun h1 h2 => Nat.le_trans h2 h1) hz0 q0
 have hz1 : sz (xs[1]'(by rw [hn]; decide)).1 ≤ sz x.1 := by rw [hx]; exact hB.ag _ _ (List.mem_map.2 ⟨_, List.getElem_mem _, rfl⟩)
 replace q1 : (fun (l : List _) (b : Nat) => l.length ≤ b) y1 (sz x.1) := (fun h1 h2 => Nat.le_trans h2 h1) hz1 q1
 refine ⟨⟨y0, y1, y2⟩, ?_, q0⟩
 have := (relL_join (a := 0) (n := 2) (m := 1) (relL_join (a := 0) (n := 1) (m := 1) r0 r1) r2)
 rwa [List.drop_zero, List.take_of_length_le (by omega)] at this
theorem rd_clss (hB : Bulk sz) (n : Nat) : ReadsB enc Tryz.prog w base spare held sz n 22 (fun l : List Cls => [AV.sl 3 (l.map clsA)]) (fun (l : List Cls) (b : Nat) => l.length ≤ b ∧ ∀ c ∈ l, c.parents.length ≤ b) := fun fuel hf cs x h => by
 obtain ⟨l, hl, hq⟩ := readsB_slice (n := n) hB (k := 3) (Q := fun (c : Cls) (b : Nat) => c.parents.length ≤ b) (fun y a b => fun h1 h2 => Nat.le_trans h2 h1) Tryz.underlying22 (by kernel_rfl) (by omega) (fun _ => rfl) (rd_cls hB n) fuel (by omega) cs x h
 exact ⟨l, hl, hq⟩
theorem rd_factN : ∀ n : Nat, Reads enc Tryz.prog w base spare held n 166 Fcells
 | 0, fuel, hf, cs, x, h => by
  obtain ⟨xs, m, rfl, _⟩ := DataW.trod_struct Tryz.underlying166 h
  omega
 | n + 1, fuel, hf, cs, x, h => by
  obtain ⟨xs, m, rfl, _, hl, hn, hg⟩ := DataW.trod_struct Tryz.underlying166 h
  have hl : cs.length = 6 := hl.trans (by kernel_rfl)
  have h0 := hg 0 _ rfl
  have h1 := hg 1 _ rfl
  have h2 := hg 2 _ rfl
  have h3 := hg 3 _ rfl
  have h4 := hg 4 _ rfl
  have h5 := hg 5 _ rfl
  rw [List.getElem?_eq_getElem (by rw [hn]; decide)] at h0 h1 h2 h3 h4 h5
  have hi : Reads enc Tryz.prog w base spare held m 3 (fun q : Int => [AV.i q]) := reads_int Tryz.underlying3
  obtain ⟨y0, r0⟩ := reads_int (n := m) Tryz.underlying163 m (Nat.le_refl _) _ _ h0
  obtain ⟨y1, r1⟩ := hi m (Nat.le_refl _) _ _ h1
  obtain ⟨y2, r2⟩ := reads_slice (n := m) (k := 1) Tryz.underlying23 (by kernel_rfl) (by omega) (fun _ => rfl) hi m (by omega) _ _ h2
  obtain ⟨y3, r3⟩ := hi m (Nat.le_refl _) _ _ h3
  obtain ⟨y4, r4⟩ := hi m (Nat.le_refl _) _ _ h4
  obtain ⟨y5, r5⟩ := reads_slice (n := n) (k := 6) Tryz.underlying164 (by kernel_rfl) (by omega) (fun _ => rfl) (rd_factN n) m (by omega) _ _ h5
  refine ⟨.mk y0 y1 y2 y3 y4 y5, ?_⟩
  have r5 : RelL (allI w) w [AV.sl 6 (y5.map Fcells)] _ := r5
  rw [← encFs_map] at r5
  have := relL_join (a := 0) (n := 5) (m := 1) (relL_join (a := 0) (n := 4) (m := 1) (relL_join (a := 0) (n := 3) (m := 1) (relL_join (a := 0) (n := 2) (m := 1) (relL_join (a := 0) (n := 1) (m := 1) r0 r1) r2) r3) r4) r5
  rwa [List.drop_zero, List.take_of_length_le (by omega)] at this
theorem rd_fact (hB : Bulk sz) (n : Nat) : ReadsB enc Tryz.prog w base spare held sz n 166 Fcells (fun _ _ => True) := (rd_factN n).b
theorem rd_mth (hB : Bulk sz) (n : Nat) : ReadsB enc Tryz.prog w base spare held sz n 168 (mthA) (fun _ _ => True) := fun fuel hf cs x h => by
 obtain ⟨xs, m, rfl, hx, hl, hn, hg⟩ := DataW.trod_struct Tryz.underlying168 h
 have hl : cs.length = 9 := hl.trans (by kernel_rfl)
 have h0 := hg 0 _ rfl
 have h1 := hg 1 _ rfl
 have h2 := hg 2 _ rfl
 have h3 := hg 3 _ rfl
 rw [List.getElem?_eq_getElem (by rw [hn]; decide)] at h0 h1 h2 h3
 obtain ⟨y0, r0, q0⟩ := rd_FormKind hB m m (Nat.le_refl _) _ _ h0
 obtain ⟨y1, r1, q1⟩ := rd_int hB m m (Nat.le_refl _) _ _ h1
 obtain ⟨y2, r2, q2⟩ := rd_fact hB m m (Nat.le_refl _) _ _ h2
 obtain ⟨y3, r3, q3⟩ := rd_int hB m m (Nat.le_refl _) _ _ h3
 refine ⟨⟨y0, y1, y2, y3⟩, ?_, trivial⟩
 have := (relL_join (a := 0) (n := 8) (m := 1) (relL_join (a := 0) (n := 2) (m := 6) (relL_join (a := 0) (n := 1) (m := 1) r0 r1) r2) r3)
 rwa [List.drop_zero, List.take_of_length_le (by omega)] at this
theorem rd_mths (hB : Bulk sz) (n : Nat) : ReadsB enc Tryz.prog w base spare held sz n 24 (fun l : List Mth => [AV.sl 9 (l.map mthA)]) (fun _ _ => True) := fun fuel hf cs x h => by
 obtain ⟨l, hl, _⟩ := readsB_slice (n := n) hB (k := 9) (Q := fun _ _ => True) (fun y a b => fun _ _ => trivial) Tryz.underlying24 (by kernel_rfl) (by omega) (fun _ => rfl) (rd_mth hB n) fuel (by omega) cs x h
 exact ⟨l, hl, trivial⟩
theorem rd_nd (hB : Bulk sz) (n : Nat) : ReadsB enc Tryz.prog w base spare held sz n 146 (ndA) (fun _ _ => True) := fun fuel hf cs x h => by
 obtain ⟨xs, m, rfl, hx, hl, hn, hg⟩ := DataW.trod_struct Tryz.underlying146 h
 have hl : cs.length = 3 := hl.trans (by kernel_rfl)
 have h0 := hg 0 _ rfl
 have h1 := hg 1 _ rfl
 have h2 := hg 2 _ rfl
 rw [List.getElem?_eq_getElem (by rw [hn]; decide)] at h0 h1 h2
 obtain ⟨y0, r0, q0⟩ := rd_FormOp hB m m (Nat.le_refl _) _ _ h0
 obtain ⟨y1, r1, q1⟩ := rd_int hB m m (Nat.le_refl _) _ _ h1
 obtain ⟨y2, r2, q2⟩ := rd_ints hB m m (Nat.le_refl _) _ _ h2
 have hz2 : sz (xs[2]'(by rw [hn]; decide)).1 ≤ sz x.1 := by rw [hx]; exact hB.ag _ _ (List.mem_map.2 ⟨_, List.getElem_mem _, rfl⟩)
 replace q2 : (fun (l : List _) (b : Nat) => l.length ≤ b) y2 (sz x.1) := (fun h1 h2 => Nat.le_trans h2 h1) hz2 q2
 refine ⟨⟨y0, y1, y2⟩, ?_, trivial⟩
 have := (relL_join (a := 0) (n := 2) (m := 1) (relL_join (a := 0) (n := 1) (m := 1) r0 r1) r2)
 rwa [List.drop_zero, List.take_of_length_le (by omega)] at this
theorem rd_nds (hB : Bulk sz) (n : Nat) : ReadsB enc Tryz.prog w base spare held sz n 25 (fun l : List Nd => [AV.sl 3 (l.map ndA)]) (fun _ _ => True) := fun fuel hf cs x h => by
 obtain ⟨l, hl, _⟩ := readsB_slice (n := n) hB (k := 3) (Q := fun _ _ => True) (fun y a b => fun _ _ => trivial) Tryz.underlying25 (by kernel_rfl) (by omega) (fun _ => rfl) (rd_nd hB n) fuel (by omega) cs x h
 exact ⟨l, hl, trivial⟩
theorem rd_prog (hB : Bulk sz) (n : Nat) : ReadsB enc Tryz.prog w base spare held sz n 27 (progC) (fun (p : Prog) (b : Nat) => p.classes.length ≤ b ∧ ∀ c ∈ p.classes, c.parents.length ≤ b) := fun fuel hf cs x h => by
 obtain ⟨xs, m, rfl, hx, hl, hn, hg⟩ := DataW.trod_struct Tryz.underlying27 h
 have hl : cs.length = 6 := hl.trans (by kernel_rfl)
 have h0 := hg 0 _ rfl
 have h1 := hg 1 _ rfl
 have h2 := hg 2 _ rfl
 have h3 := hg 3 _ rfl
 have h4 := hg 4 _ rfl
 have h5 := hg 5 _ rfl
 rw [List.getElem?_eq_getElem (by rw [hn]; decide)] at h0 h1 h2 h3 h4 h5
 obtain ⟨y0, r0, q0⟩ := rd_clss hB m m (Nat.le_refl _) _ _ h0
 obtain ⟨y1, r1, q1⟩ := rd_int hB m m (Nat.le_refl _) _ _ h1
 obtain ⟨y2, r2, q2⟩ := rd_ints hB m m (Nat.le_refl _) _ _ h2
 obtain ⟨y3, r3, q3⟩ := rd_mths hB m m (Nat.le_refl _) _ _ h3
 obtain ⟨y4, r4, q4⟩ := rd_nds hB m m (Nat.le_refl _) _ _ h4
 obtain ⟨y5, r5, q5⟩ := rd_int hB m m (Nat.le_refl _) _ _ h5
 have hz0 : sz (xs[0]'(by rw [hn]; decide)).1 ≤ sz x.1 := by rw [hx]; exact hB.ag _ _ (List.mem_map.2 ⟨_, List.getElem_mem _, rfl⟩)
 replace q0 : (fun (l : List Cls) (b : Nat) => l.length ≤ b ∧ ∀ c ∈ l, c.parents.length ≤ b) y0 (sz x.1) := (fun h1 h2 => ⟨Nat.le_trans h2.1 h1, fun c hc => Nat.le_trans (h2.2 c hc) h1⟩) hz0 q0
 have hz2 : sz (xs[2]'(by rw [hn]; decide)).1 ≤ sz x.1 := by rw [hx]; exact hB.ag _ _ (List.mem_map.2 ⟨_, List.getElem_mem _, rfl⟩)
 replace q2 : (fun (l : List _) (b : Nat) => l.length ≤ b) y2 (sz x.1) := (fun h1 h2 => Nat.le_trans h2 h1) hz2 q2
 refine ⟨⟨y0, y1, y2, y3, y4, y5⟩, ?_, q0⟩
 have := (relL_join (a := 0) (n := 5) (m := 1) (relL_join (a := 0) (n := 4) (m := 1) (relL_join (a := 0) (n := 3) (m := 1) (relL_join (a := 0) (n := 2) (m := 1) (relL_join (a := 0) (n := 1) (m := 1) r0 r1) r2) r3) r4) r5)
 rwa [List.drop_zero, List.take_of_length_le (by omega)] at this
theorem rd_val (hB : Bulk sz) (n : Nat) : ReadsB enc Tryz.prog w base spare held sz n 60 (initA) (fun _ _ => True) := fun fuel hf cs x h => by
 obtain ⟨xs, m, rfl, hx, hl, hn, hg⟩ := DataW.trod_struct Tryz.underlying60 h
 have hl : cs.length = 2 := hl.trans (by kernel_rfl)
 have h0 := hg 0 _ rfl
 have h1 := hg 1 _ rfl
 rw [List.getElem?_eq_getElem (by rw [hn]; decide)] at h0 h1
 obtain ⟨y0, r0, q0⟩ := rd_MeanKind hB m m (Nat.le_refl _) _ _ h0
 obtain ⟨y1, r1, q1⟩ := rd_int hB m m (Nat.le_refl _) _ _ h1
 refine ⟨⟨y0, y1⟩, ?_, trivial⟩
 have := (relL_join (a := 0) (n := 1) (m := 1) r0 r1)
 rwa [List.drop_zero, List.take_of_length_le (by omega)] at this
theorem rd_vals (hB : Bulk sz) (n : Nat) : ReadsB enc Tryz.prog w base spare held sz n 29 (fun l : List (Int × Int) => [AV.mvs l]) (fun _ _ => True) := fun fuel hf cs x h => by
 obtain ⟨l, hl, _⟩ := readsB_slice (n := n) hB (k := 2) (Q := fun _ _ => True) (fun y a b => fun _ _ => trivial) Tryz.underlying29 (by kernel_rfl) (by omega) (fun _ => rfl) (rd_val hB n) fuel (by omega) cs x h
 exact ⟨l, hl, trivial⟩
theorem rd_th (hB : Bulk sz) (n : Nat) : ReadsB enc Tryz.prog w base spare held sz n 65 (thA) (fun _ _ => True) := fun fuel hf cs x h => by
 obtain ⟨xs, m, rfl, hx, hl, hn, hg⟩ := DataW.trod_struct Tryz.underlying65 h
 have hl : cs.length = 2 := hl.trans (by kernel_rfl)
 have h0 := hg 0 _ rfl
 have h1 := hg 1 _ rfl
 rw [List.getElem?_eq_getElem (by rw [hn]; decide)] at h0 h1
 obtain ⟨y0, r0, q0⟩ := rd_int hB m m (Nat.le_refl _) _ _ h0
 obtain ⟨y1, r1, q1⟩ := rd_vals hB m m (Nat.le_refl _) _ _ h1
 refine ⟨⟨y0, y1⟩, ?_, trivial⟩
 have := (relL_join (a := 0) (n := 1) (m := 1) r0 r1)
 rwa [List.drop_zero, List.take_of_length_le (by omega)] at this
theorem rd_ths (hB : Bulk sz) (n : Nat) : ReadsB enc Tryz.prog w base spare held sz n 28 (fun l : List Th => [AV.ths l]) (fun _ _ => True) := fun fuel hf cs x h => by
 obtain ⟨l, hl, _⟩ := readsB_slice (n := n) hB (k := 2) (Q := fun _ _ => True) (fun y a b => fun _ _ => trivial) Tryz.underlying28 (by kernel_rfl) (by omega) (fun _ => rfl) (rd_th hB n) fuel (by omega) cs x h
 exact ⟨l, hl, trivial⟩
theorem rd_byte (hB : Bulk sz) (n : Nat) : ReadsB enc Tryz.prog w base spare held sz n 5 (fun q : Go.Eng.Im.U8 => [Go.Eng.Im.u8 q]) (fun _ _ => True) := fun fuel _ cs x h => by
 obtain ⟨q, rfl, _, hw⟩ := DataW.trod_int Tryz.underlying5 h
 simp [Lit.wf, IntKind.min, IntKind.max, IntKind.signed, IntKind.bits] at hw
 exact ⟨⟨q.toNat, by omega⟩, .cons _ _ _ _ (by rw [Go.Eng.Im.u8, Int.toNat_of_nonneg (by omega)]; exact .val _) .nil, trivial⟩
theorem rd_bytes (hB : Bulk sz) (n : Nat) : ReadsB enc Tryz.prog w base spare held sz n 30 (fun l : List Go.Eng.Im.U8 => [Go.Eng.Im.u8s l]) (fun (l : List _) (b : Nat) => l.length ≤ b) := fun fuel hf cs x h => by
 obtain ⟨l, hl, hq⟩ := readsB_slice (n := n) hB (k := 1) (Q := fun _ _ => True) (fun y a b => fun _ _ => trivial) Tryz.underlying30 (by kernel_rfl) (by omega) (fun _ => rfl) (rd_byte hB n) fuel (by omega) cs x h
 exact ⟨l, hl, hq.1⟩
theorem rd_given (hB : Bulk sz) (n : Nat) : ReadsB enc Tryz.prog w base spare held sz n 32 (Gcells) (fun (g : Gv) (b : Nat) => (g.p.classes.length ≤ b ∧ ∀ c ∈ g.p.classes, c.parents.length ≤ b) ∧ g.bytes.length ≤ b) := fun fuel hf cs x h => by
 obtain ⟨xs, m, rfl, hx, hl, hn, hg⟩ := DataW.trod_struct Tryz.underlying32 h
 have hl : cs.length = 11 := hl.trans (by kernel_rfl)
 have h0 := hg 0 _ rfl
 have h1 := hg 1 _ rfl
 have h2 := hg 2 _ rfl
 have h3 := hg 3 _ rfl
 have h4 := hg 4 _ rfl
 have h5 := hg 5 _ rfl
 rw [List.getElem?_eq_getElem (by rw [hn]; decide)] at h0 h1 h2 h3 h4 h5
 obtain ⟨y0, r0, q0⟩ := rd_prog hB m m (Nat.le_refl _) _ _ h0
 obtain ⟨y1, r1, q1⟩ := rd_ths hB m m (Nat.le_refl _) _ _ h1
 obtain ⟨y2, r2, q2⟩ := rd_vals hB m m (Nat.le_refl _) _ _ h2
 obtain ⟨y3, r3, q3⟩ := rd_ths hB m m (Nat.le_refl _) _ _ h3
 obtain ⟨y4, r4, q4⟩ := rd_vals hB m m (Nat.le_refl _) _ _ h4
 obtain ⟨y5, r5, q5⟩ := rd_bytes hB m m (Nat.le_refl _) _ _ h5
 have hz0 : sz (xs[0]'(by rw [hn]; decide)).1 ≤ sz x.1 := by rw [hx]; exact hB.ag _ _ (List.mem_map.2 ⟨_, List.getElem_mem _, rfl⟩)
 replace q0 : (fun (p : Prog) (b : Nat) => p.classes.length ≤ b ∧ ∀ c ∈ p.classes, c.parents.length ≤ b) y0 (sz x.1) := (fun h1 h2 => ⟨Nat.le_trans h2.1 h1, fun c hc => Nat.le_trans (h2.2 c hc) h1⟩) hz0 q0
 have hz5 : sz (xs[5]'(by rw [hn]; decide)).1 ≤ sz x.1 := by rw [hx]; exact hB.ag _ _ (List.mem_map.2 ⟨_, List.getElem_mem _, rfl⟩)
 replace q5 : (fun (l : List _) (b : Nat) => l.length ≤ b) y5 (sz x.1) := (fun h1 h2 => Nat.le_trans h2 h1) hz5 q5
 refine ⟨⟨y0, y1, y2, y3, y4, y5⟩, ?_, ⟨q0, q5⟩⟩
 have := (relL_join (a := 0) (n := 10) (m := 1) (relL_join (a := 0) (n := 9) (m := 1) (relL_join (a := 0) (n := 8) (m := 1) (relL_join (a := 0) (n := 7) (m := 1) (relL_join (a := 0) (n := 6) (m := 1) r0 r1) r2) r3) r4) r5)
 rwa [List.drop_zero, List.take_of_length_le (by omega)] at this
end
section
variable {H : Type} {enc : TypeId × Value → H} {w : World} {v : Value} {d : DataW H} {ps : List MemPlace} {base base' : Nat} {r : Reach} {sz : DataW H → Nat}
theorem given_of (hB : Bulk sz) (h : DataW.Trod enc Tryz.prog w base (fun _ => true) true 32 v d ps) : ∃ g : Gv, Rel (allI w) w (AV.given g) v ∧ ((g.p.classes.length ≤ sz d ∧ ∀ c ∈ g.p.classes, c.parents.length ≤ sz d) ∧ g.bytes.length ≤ sz d) := by
 obtain ⟨fuel, h⟩ := h
 obtain ⟨g, hg, hq⟩ := rd_given hB fuel fuel (Nat.le_refl _) _ _ h
 exact ⟨g, rel_agg hg (by simp), hq⟩
end
theorem bulk_pos {H : Type} (d : DataW H) : 1 ≤ Rows.uptoBulk d := by
 cases d with
 | lit l => cases l <;> simp [Rows.uptoBulk]
 | _ => simp [Rows.uptoBulk]
theorem bulk_len {H : Type} : ∀ l : List (DataW H), l.length ≤ Rows.uptoBulkAll l
 | [] => by simp
 | d :: r => by
  have h1 := bulk_pos d
  have h2 := bulk_len r
  simp only [Rows.uptoBulkAll, List.length_cons]; omega
theorem bulk_el {H : Type} : ∀ l : List (DataW H), ∀ e ∈ l, Rows.uptoBulk e ≤ Rows.uptoBulkAll l
 | d :: r, e, he => by
  simp only [Rows.uptoBulkAll]
  rcases List.mem_cons.1 he with rfl | he
  ·omega
  ·have := bulk_el r e he; omega
theorem bulk {H : Type} : Bulk (Rows.uptoBulk (H := H)) :=
 ⟨fun es sp => by have := bulk_len es; simp only [Rows.uptoBulk]; omega, fun es sp e he => by have := bulk_el es e he; simp only [Rows.uptoBulk]; omega, fun ps e he => by have := bulk_el ps e he; simp only [Rows.uptoBulk]; omega⟩
end Go.Proofs.YtpgnjlngepfanaaGreat
