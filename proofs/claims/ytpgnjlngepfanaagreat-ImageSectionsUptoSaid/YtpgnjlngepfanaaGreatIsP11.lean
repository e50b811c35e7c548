/- Part 11 of the proof: contracts of functions of the program and what they need. No condition beyond those that each theorem names. -/
import Derived.Test.YtpgnjlngepfanaaGreatIsP10
import Derived.DeepKeys4
import Derived.Test.YtpgnjlngepfanaaGreatProg
import Derived.KernelRfl
import Derived.Tactics
import Derived.Tactics2
import Derived.Laws.Pointers
import Derived.TacticsInMore
import Derived.RegionIn
import Derived.RecoverIn
namespace Go.Proofs.YtpgnjlngepfanaaGreat
open Go.Eng
instance : HasTy Tryz.prog 3 (false, 1) := ⟨by kernel_rfl⟩
instance : HasTy Tryz.prog 4 (false, 1) := ⟨by kernel_rfl⟩
instance : HasTy Tryz.prog 5 (false, 1) := ⟨by kernel_rfl⟩
instance : HasTy Tryz.prog 22 (false, 1) := ⟨by kernel_rfl⟩
instance : HasTy Tryz.prog 23 (false, 1) := ⟨by kernel_rfl⟩
instance : HasTy Tryz.prog 24 (false, 1) := ⟨by kernel_rfl⟩
instance : HasTy Tryz.prog 25 (false, 1) := ⟨by kernel_rfl⟩
instance : HasTy Tryz.prog 27 (true, 6) := ⟨by kernel_rfl⟩
instance : HasTy Tryz.prog 28 (false, 1) := ⟨by kernel_rfl⟩
instance : HasTy Tryz.prog 29 (false, 1) := ⟨by kernel_rfl⟩
instance : HasTy Tryz.prog 30 (false, 1) := ⟨by kernel_rfl⟩
instance : HasTy Tryz.prog 48 (false, 1) := ⟨by kernel_rfl⟩
instance : HasTy Tryz.prog 58 (false, 1) := ⟨by kernel_rfl⟩
instance : HasTy Tryz.prog 60 (true, 2) := ⟨by kernel_rfl⟩
instance : HasTy Tryz.prog 65 (true, 2) := ⟨by kernel_rfl⟩
instance : HasTy Tryz.prog 77 (false, 1) := ⟨by kernel_rfl⟩
instance : HasTy Tryz.prog 79 (true, 3) := ⟨by kernel_rfl⟩
instance : HasTy Tryz.prog 86 (false, 1) := ⟨by kernel_rfl⟩
instance : HasTy Tryz.prog 89 (false, 1) := ⟨by kernel_rfl⟩
instance : HasTy Tryz.prog 104 (false, 1) := ⟨by kernel_rfl⟩
instance : HasTy Tryz.prog 110 (false, 1) := ⟨by kernel_rfl⟩
instance : HasTy Tryz.prog 114 (true, 3) := ⟨by kernel_rfl⟩
instance : HasTy Tryz.prog 119 (true, 3) := ⟨by kernel_rfl⟩
instance : HasTy Tryz.prog 121 (false, 1) := ⟨by kernel_rfl⟩
instance : HasTy Tryz.prog 124 (false, 1) := ⟨by kernel_rfl⟩
instance : HasTy Tryz.prog 143 (true, 2) := ⟨by kernel_rfl⟩
instance : HasTy Tryz.prog 144 (false, 1) := ⟨by kernel_rfl⟩
instance : HasTy Tryz.prog 146 (true, 3) := ⟨by kernel_rfl⟩
instance : HasTy Tryz.prog 149 (false, 1) := ⟨by kernel_rfl⟩
instance : HasTy Tryz.prog 151 (true, 2) := ⟨by kernel_rfl⟩
instance : HasTy Tryz.prog 162 (false, 1) := ⟨by kernel_rfl⟩
instance : HasTy Tryz.prog 163 (false, 1) := ⟨by kernel_rfl⟩
instance : HasTy Tryz.prog 164 (false, 1) := ⟨by kernel_rfl⟩
instance : HasTy Tryz.prog 166 (true, 6) := ⟨by kernel_rfl⟩
instance : HasTy Tryz.prog 168 (true, 9) := ⟨by kernel_rfl⟩
instance : HasTy Tryz.prog 176 (true, 0) := ⟨by kernel_rfl⟩
instance : HasTy Tryz.prog 220 (false, 1) := ⟨by kernel_rfl⟩
instance : HasTy Tryz.prog 228 (true, 2) := ⟨by kernel_rfl⟩
instance : HasTy Tryz.prog 253 (true, 0) := ⟨by kernel_rfl⟩
instance : HasTy Tryz.prog 257 (false, 1) := ⟨by kernel_rfl⟩
instance : HasTy Tryz.prog 260 (false, 1) := ⟨by kernel_rfl⟩
instance : HasTy Tryz.prog 261 (false, 1) := ⟨by kernel_rfl⟩
instance : HasTy Tryz.prog 269 (false, 1) := ⟨by kernel_rfl⟩
instance : HasTy Tryz.prog 275 (false, 1) := ⟨by kernel_rfl⟩
instance : HasTy Tryz.prog 276 (false, 1) := ⟨by kernel_rfl⟩
instance : HasTy Tryz.prog 282 (false, 1) := ⟨by kernel_rfl⟩
instance : HasTy Tryz.prog 303 (true, 1) := ⟨by kernel_rfl⟩
instance : HasTy Tryz.prog 306 (false, 1) := ⟨by kernel_rfl⟩
instance : HasTy Tryz.prog 314 (false, 1) := ⟨by kernel_rfl⟩
instance : HasFld Tryz.prog 27 0 0 := ⟨by kernel_rfl⟩
instance : HasFld Tryz.prog 27 1 1 := ⟨by kernel_rfl⟩
instance : HasFld Tryz.prog 27 2 2 := ⟨by kernel_rfl⟩
instance : HasFld Tryz.prog 27 3 3 := ⟨by kernel_rfl⟩
instance : HasFld Tryz.prog 27 4 4 := ⟨by kernel_rfl⟩
instance : HasFld Tryz.prog 27 5 5 := ⟨by kernel_rfl⟩
instance : HasFld Tryz.prog 32 0 0 := ⟨by kernel_rfl⟩
instance : HasFld Tryz.prog 32 1 6 := ⟨by kernel_rfl⟩
instance : HasFld Tryz.prog 32 2 7 := ⟨by kernel_rfl⟩
instance : HasFld Tryz.prog 32 3 8 := ⟨by kernel_rfl⟩
instance : HasFld Tryz.prog 32 4 9 := ⟨by kernel_rfl⟩
instance : HasFld Tryz.prog 32 5 10 := ⟨by kernel_rfl⟩
instance : HasFld Tryz.prog 60 0 0 := ⟨by kernel_rfl⟩
instance : HasFld Tryz.prog 60 1 1 := ⟨by kernel_rfl⟩
instance : HasFld Tryz.prog 65 0 0 := ⟨by kernel_rfl⟩
instance : HasFld Tryz.prog 65 1 1 := ⟨by kernel_rfl⟩
instance : HasFld Tryz.prog 79 0 0 := ⟨by kernel_rfl⟩
instance : HasFld Tryz.prog 79 1 1 := ⟨by kernel_rfl⟩
instance : HasFld Tryz.prog 79 2 2 := ⟨by kernel_rfl⟩
instance : HasFld Tryz.prog 97 0 0 := ⟨by kernel_rfl⟩
instance : HasFld Tryz.prog 99 0 0 := ⟨by kernel_rfl⟩
instance : HasFld Tryz.prog 114 0 0 := ⟨by kernel_rfl⟩
instance : HasFld Tryz.prog 114 1 1 := ⟨by kernel_rfl⟩
instance : HasFld Tryz.prog 114 2 2 := ⟨by kernel_rfl⟩
instance : HasFld Tryz.prog 119 0 0 := ⟨by kernel_rfl⟩
instance : HasFld Tryz.prog 119 1 1 := ⟨by kernel_rfl⟩
instance : HasFld Tryz.prog 119 2 2 := ⟨by kernel_rfl⟩
instance : HasFld Tryz.prog 123 0 0 := ⟨by kernel_rfl⟩
instance : HasFld Tryz.prog 123 1 1 := ⟨by kernel_rfl⟩
instance : HasFld Tryz.prog 135 0 0 := ⟨by kernel_rfl⟩
instance : HasFld Tryz.prog 135 1 1 := ⟨by kernel_rfl⟩
instance : HasFld Tryz.prog 135 2 2 := ⟨by kernel_rfl⟩
instance : HasFld Tryz.prog 143 0 0 := ⟨by kernel_rfl⟩
instance : HasFld Tryz.prog 143 1 1 := ⟨by kernel_rfl⟩
instance : HasFld Tryz.prog 146 0 0 := ⟨by kernel_rfl⟩
instance : HasFld Tryz.prog 146 1 1 := ⟨by kernel_rfl⟩
instance : HasFld Tryz.prog 146 2 2 := ⟨by kernel_rfl⟩
instance : HasFld Tryz.prog 151 0 0 := ⟨by kernel_rfl⟩
instance : HasFld Tryz.prog 151 1 1 := ⟨by kernel_rfl⟩
instance : HasFld Tryz.prog 166 0 0 := ⟨by kernel_rfl⟩
instance : HasFld Tryz.prog 166 1 1 := ⟨by kernel_rfl⟩
instance : HasFld Tryz.prog 166 2 2 := ⟨by kernel_rfl⟩
instance : HasFld Tryz.prog 166 3 3 := ⟨by kernel_rfl⟩
instance : HasFld Tryz.prog 166 4 4 := ⟨by kernel_rfl⟩
instance : HasFld Tryz.prog 166 5 5 := ⟨by kernel_rfl⟩
instance : HasFld Tryz.prog 168 0 0 := ⟨by kernel_rfl⟩
instance : HasFld Tryz.prog 168 1 1 := ⟨by kernel_rfl⟩
instance : HasFld Tryz.prog 168 2 2 := ⟨by kernel_rfl⟩
instance : HasFld Tryz.prog 168 3 8 := ⟨by kernel_rfl⟩
instance : HasFld Tryz.prog 177 0 0 := ⟨by kernel_rfl⟩
instance : HasFld Tryz.prog 228 0 0 := ⟨by kernel_rfl⟩
instance : HasFld Tryz.prog 228 1 1 := ⟨by kernel_rfl⟩
instance : HasFld Tryz.prog 278 0 0 := ⟨by kernel_rfl⟩
instance : HasFld Tryz.prog 278 1 1 := ⟨by kernel_rfl⟩
instance : HasFld Tryz.prog 278 2 2 := ⟨by kernel_rfl⟩
instance : HasFld Tryz.prog 309 0 0 := ⟨by kernel_rfl⟩
instance : HasFld Tryz.prog 309 1 2 := ⟨by kernel_rfl⟩
instance : HasSl Tryz.prog 22 3 := ⟨by kernel_rfl⟩
instance : HasSl Tryz.prog 23 1 := ⟨by kernel_rfl⟩
instance : HasSl Tryz.prog 24 9 := ⟨by kernel_rfl⟩
instance : HasSl Tryz.prog 25 3 := ⟨by kernel_rfl⟩
instance : HasSl Tryz.prog 28 2 := ⟨by kernel_rfl⟩
instance : HasSl Tryz.prog 29 2 := ⟨by kernel_rfl⟩
instance : HasSl Tryz.prog 30 1 := ⟨by kernel_rfl⟩
instance : HasSl Tryz.prog 44 1 := ⟨by kernel_rfl⟩
instance : HasSl Tryz.prog 77 2 := ⟨by kernel_rfl⟩
instance : HasSl Tryz.prog 102 1 := ⟨by kernel_rfl⟩
instance : HasSl Tryz.prog 110 3 := ⟨by kernel_rfl⟩
instance : HasSl Tryz.prog 115 3 := ⟨by kernel_rfl⟩
instance : HasSl Tryz.prog 149 1 := ⟨by kernel_rfl⟩
instance : HasSl Tryz.prog 164 6 := ⟨by kernel_rfl⟩
instance : HasSl Tryz.prog 222 1 := ⟨by kernel_rfl⟩
instance : HasSl Tryz.prog 275 1 := ⟨by kernel_rfl⟩
instance : HasSl Tryz.prog 300 1 := ⟨by kernel_rfl⟩
instance : HasArr Tryz.prog 303 (1, 1) := ⟨by kernel_rfl⟩
instance : HasArr Tryz.prog 307 (63, 1) := ⟨by kernel_rfl⟩
instance : HasZero Tryz.prog 3 [.int .i64 0] := ⟨by kernel_rfl⟩
instance : HasZero Tryz.prog 4 [.bool false] := ⟨by kernel_rfl⟩
instance : HasZero Tryz.prog 23 [.slice none 0 0] := ⟨by kernel_rfl⟩
instance : HasZero Tryz.prog 27 [.slice none 0 0, .int .i64 0, .slice none 0 0, .slice none 0 0, .slice none 0 0, .int .i64 0] := ⟨by kernel_rfl⟩
instance : HasZero Tryz.prog 28 [.slice none 0 0] := ⟨by kernel_rfl⟩
instance : HasZero Tryz.prog 29 [.slice none 0 0] := ⟨by kernel_rfl⟩
instance : HasZero Tryz.prog 30 [.slice none 0 0] := ⟨by kernel_rfl⟩
instance : HasZero Tryz.prog 60 [.int .i64 0, .int .i64 0] := ⟨by kernel_rfl⟩
instance : HasZero Tryz.prog 65 [.int .i64 0, .slice none 0 0] := ⟨by kernel_rfl⟩
instance : HasZero Tryz.prog 79 [.slice none 0 0, .slice none 0 0, .slice none 0 0] := ⟨by kernel_rfl⟩
instance : HasZero Tryz.prog 86 [.nilFunc] := ⟨by kernel_rfl⟩
instance : HasZero Tryz.prog 104 [.pointer none] := ⟨by kernel_rfl⟩
instance : HasZero Tryz.prog 110 [.slice none 0 0] := ⟨by kernel_rfl⟩
instance : HasZero Tryz.prog 114 [.int .i64 0, .slice none 0 0, .bool false] := ⟨by kernel_rfl⟩
instance : HasZero Tryz.prog 119 [.int .u8 0, .slice none 0 0, .bool false] := ⟨by kernel_rfl⟩
instance : HasZero Tryz.prog 124 [.pointer none] := ⟨by kernel_rfl⟩
instance : HasZero Tryz.prog 143 [.int .i64 0, .int .i64 0] := ⟨by kernel_rfl⟩
instance : HasZero Tryz.prog 146 [.int .i64 0, .int .i64 0, .slice none 0 0] := ⟨by kernel_rfl⟩
instance : HasZero Tryz.prog 151 [.slice none 0 0, .slice none 0 0] := ⟨by kernel_rfl⟩
instance : HasZero Tryz.prog 166 [.int .i64 0, .int .i64 0, .slice none 0 0, .int .i64 0, .int .i64 0, .slice none 0 0] := ⟨by kernel_rfl⟩
instance : HasZero Tryz.prog 168 [.int .i64 0, .int .i64 0, .int .i64 0, .int .i64 0, .slice none 0 0, .int .i64 0, .int .i64 0, .slice none 0 0, .int .i64 0] := ⟨by kernel_rfl⟩
instance : HasZero Tryz.prog 176 [] := ⟨by kernel_rfl⟩
instance : HasZero Tryz.prog 228 [.int .i64 0, .int .i64 0] := ⟨by kernel_rfl⟩
instance : HasZero Tryz.prog 253 [] := ⟨by kernel_rfl⟩
instance : HasZero Tryz.prog 260 [.nilFunc] := ⟨by kernel_rfl⟩
instance : HasZero Tryz.prog 303 [.int .u64 0] := ⟨by kernel_rfl⟩
instance : HasZero Tryz.prog 314 [.int .u64 0] := ⟨by kernel_rfl⟩
instance : IsB Tryz.prog 4 := ⟨by kernel_rfl⟩
instance : HasInt Tryz.prog 3 .i64 := ⟨by kernel_rfl⟩
instance : HasInt Tryz.prog 5 .u8 := ⟨by kernel_rfl⟩
instance : HasInt Tryz.prog 48 .i64 := ⟨by kernel_rfl⟩
instance : HasInt Tryz.prog 68 .u16 := ⟨by kernel_rfl⟩
instance : HasInt Tryz.prog 212 .u64 := ⟨by kernel_rfl⟩
instance : HasInt Tryz.prog 279 .u32 := ⟨by kernel_rfl⟩
instance : HasInt Tryz.prog 282 .u64 := ⟨by kernel_rfl⟩
instance : HasInt Tryz.prog 314 .u64 := ⟨by kernel_rfl⟩
instance : HasBuild Tryz.prog 27 ([.slice none 0 0, .int .i64 0, .slice none 0 0, .slice none 0 0, .slice none 0 0, .int .i64 0], [(0, 1), (1, 1), (2, 1), (3, 1), (4, 1), (5, 1)]) := ⟨by kernel_rfl⟩
instance : HasBuild Tryz.prog 60 ([.int .i64 0, .int .i64 0], [(0, 1), (1, 1)]) := ⟨by kernel_rfl⟩
instance : HasBuild Tryz.prog 65 ([.int .i64 0, .slice none 0 0], [(0, 1), (1, 1)]) := ⟨by kernel_rfl⟩
instance : HasBuild Tryz.prog 79 ([.slice none 0 0, .slice none 0 0, .slice none 0 0], [(0, 1), (1, 1), (2, 1)]) := ⟨by kernel_rfl⟩
instance : HasBuild Tryz.prog 97 ([.slice none 0 0], [(0, 1)]) := ⟨by kernel_rfl⟩
instance : HasBuild Tryz.prog 99 ([.slice none 0 0], [(0, 1)]) := ⟨by kernel_rfl⟩
instance : HasBuild Tryz.prog 114 ([.int .i64 0, .slice none 0 0, .bool false], [(0, 1), (1, 1), (2, 1)]) := ⟨by kernel_rfl⟩
instance : HasBuild Tryz.prog 119 ([.int .u8 0, .slice none 0 0, .bool false], [(0, 1), (1, 1), (2, 1)]) := ⟨by kernel_rfl⟩
instance : HasBuild Tryz.prog 123 ([.slice none 0 0, .map none], [(0, 1), (1, 1)]) := ⟨by kernel_rfl⟩
instance : HasBuild Tryz.prog 135 ([.slice none 0 0, .int .i64 0, .bool false], [(0, 1), (1, 1), (2, 1)]) := ⟨by kernel_rfl⟩
instance : HasBuild Tryz.prog 143 ([.int .i64 0, .int .i64 0], [(0, 1), (1, 1)]) := ⟨by kernel_rfl⟩
instance : HasBuild Tryz.prog 146 ([.int .i64 0, .int .i64 0, .slice none 0 0], [(0, 1), (1, 1), (2, 1)]) := ⟨by kernel_rfl⟩
instance : HasBuild Tryz.prog 151 ([.slice none 0 0, .slice none 0 0], [(0, 1), (1, 1)]) := ⟨by kernel_rfl⟩
instance : HasBuild Tryz.prog 166 ([.int .i64 0, .int .i64 0, .slice none 0 0, .int .i64 0, .int .i64 0, .slice none 0 0], [(0, 1), (1, 1), (2, 1), (3, 1), (4, 1), (5, 1)]) := ⟨by kernel_rfl⟩
instance : HasBuild Tryz.prog 168 ([.int .i64 0, .int .i64 0, .int .i64 0, .int .i64 0, .slice none 0 0, .int .i64 0, .int .i64 0, .slice none 0 0, .int .i64 0], [(0, 1), (1, 1), (2, 6), (8, 1)]) := ⟨by kernel_rfl⟩
instance : HasBuild Tryz.prog 176 ([], []) := ⟨by kernel_rfl⟩
instance : HasBuild Tryz.prog 177 ([.slice none 0 0], [(0, 1)]) := ⟨by kernel_rfl⟩
instance : HasBuild Tryz.prog 228 ([.int .i64 0, .int .i64 0], [(0, 1), (1, 1)]) := ⟨by kernel_rfl⟩
instance : HasBuild Tryz.prog 234 ([], []) := ⟨by kernel_rfl⟩
instance : HasBuild Tryz.prog 253 ([], []) := ⟨by kernel_rfl⟩
instance : HasBuild Tryz.prog 278 ([.slice none 0 0, .slice none 0 0, .map none], [(0, 1), (1, 1), (2, 1)]) := ⟨by kernel_rfl⟩
instance : HasBuild Tryz.prog 303 ([.int .u64 0], [(0, 1)]) := ⟨by kernel_rfl⟩
instance : HasBuild Tryz.prog 309 ([.slice none 0 0, .slice none 0 0, .int .u64 0, .int .u64 0, .int .u64 0, .int .u64 0, .int .u64 0, .int .u64 0, .int .u64 0, .int .u64 0, .int .u64 0, .int .u64 0, .int .u64 0, .int .u64 0, .int .u64 0, .int .u64 0, .int .u64 0, .int .u64 0, .int .u64 0, .int .u64 0, .int .u64 0, .int .u64 0, .int .u64 0, .int .u64 0, .int .u64 0, .int .u64 0, .int .u64 0, .int .u64 0, .int .u64 0, .int .u64 0, .int .u64 0, .int .u64 0, .int .u64 0, .int .u64 0, .int .u64 0, .int .u64 0, .int .u64 0, .int .u64 0, .int .u64 0, .int .u64 0, .int .u64 0, .int .u64 0, .int .u64 0, .int .u64 0, .int .u64 0, .int .u64 0, .int .u64 0, .int .u64 0, .int .u64 0, .int .u64 0, .int .u64 0, .int .u64 0, .int .u64 0, .int .u64 0, .int .u64 0, .int .u64 0, .int .u64 0, .int .u64 0, .int .u64 0, .int .u64 0, .int .u64 0, .int .u64 0, .int .u64 0, .int .u64 0, .int .u64 0], [(0, 2), (2, 63)]) := ⟨by kernel_rfl⟩
instance : HasRow Tryz.prog 22 (3, [.slice none 0 0, .slice none 0 0, .slice none 0 0]) := ⟨by kernel_rfl⟩
instance : HasRow Tryz.prog 23 (1, [.int .i64 0]) := ⟨by kernel_rfl⟩
instance : HasRow Tryz.prog 24 (9, [.int .i64 0, .int .i64 0, .int .i64 0, .int .i64 0, .slice none 0 0, .int .i64 0, .int .i64 0, .slice none 0 0, .int .i64 0]) := ⟨by kernel_rfl⟩
instance : HasRow Tryz.prog 25 (3, [.int .i64 0, .int .i64 0, .slice none 0 0]) := ⟨by kernel_rfl⟩
instance : HasRow Tryz.prog 28 (2, [.int .i64 0, .slice none 0 0]) := ⟨by kernel_rfl⟩
instance : HasRow Tryz.prog 29 (2, [.int .i64 0, .int .i64 0]) := ⟨by kernel_rfl⟩
instance : HasRow Tryz.prog 30 (1, [.int .u8 0]) := ⟨by kernel_rfl⟩
instance : HasRow Tryz.prog 44 (1, [.int .i64 0]) := ⟨by kernel_rfl⟩
instance : HasRow Tryz.prog 77 (2, [.int .i64 0, .int .i64 0]) := ⟨by kernel_rfl⟩
instance : HasRow Tryz.prog 102 (1, [.pointer none]) := ⟨by kernel_rfl⟩
instance : HasRow Tryz.prog 110 (3, [.int .i64 0, .slice none 0 0, .bool false]) := ⟨by kernel_rfl⟩
instance : HasRow Tryz.prog 115 (3, [.int .u8 0, .slice none 0 0, .bool false]) := ⟨by kernel_rfl⟩
instance : HasRow Tryz.prog 149 (1, [.slice none 0 0]) := ⟨by kernel_rfl⟩
instance : HasRow Tryz.prog 164 (6, [.int .i64 0, .int .i64 0, .slice none 0 0, .int .i64 0, .int .i64 0, .slice none 0 0]) := ⟨by kernel_rfl⟩
instance : HasRow Tryz.prog 222 (1, [.int .i64 0]) := ⟨by kernel_rfl⟩
instance : HasRow Tryz.prog 275 (1, [.int .u64 0]) := ⟨by kernel_rfl⟩
instance : HasApp Tryz.prog 22 (79, 3, 72) := ⟨by kernel_rfl⟩
instance : HasApp Tryz.prog 23 (3, 1, 8) := ⟨by kernel_rfl⟩
instance : HasApp Tryz.prog 24 (168, 9, 104) := ⟨by kernel_rfl⟩
instance : HasApp Tryz.prog 25 (146, 3, 40) := ⟨by kernel_rfl⟩
instance : HasApp Tryz.prog 28 (65, 2, 32) := ⟨by kernel_rfl⟩
instance : HasApp Tryz.prog 29 (60, 2, 16) := ⟨by kernel_rfl⟩
instance : HasApp Tryz.prog 30 (5, 1, 1) := ⟨by kernel_rfl⟩
instance : HasApp Tryz.prog 44 (48, 1, 8) := ⟨by kernel_rfl⟩
instance : HasApp Tryz.prog 77 (143, 2, 16) := ⟨by kernel_rfl⟩
instance : HasApp Tryz.prog 102 (104, 1, 8) := ⟨by kernel_rfl⟩
instance : HasApp Tryz.prog 110 (114, 3, 40) := ⟨by kernel_rfl⟩
instance : HasApp Tryz.prog 115 (119, 3, 40) := ⟨by kernel_rfl⟩
instance : HasApp Tryz.prog 149 (23, 1, 24) := ⟨by kernel_rfl⟩
instance : HasApp Tryz.prog 164 (166, 6, 80) := ⟨by kernel_rfl⟩
instance : HasApp Tryz.prog 275 (303, 1, 8) := ⟨by kernel_rfl⟩
theorem mixed : Tryz.prog.follows .mixedOrders = true := by kernel_rfl
end Go.Proofs.YtpgnjlngepfanaaGreat

set_option linter.unusedVariables false
namespace Go.Eng
abbrev AV.ints (l : List Int) : AV := .sl 1 (l.map fun n => [AV.i n])
theorem retB {a b : Bool} (h : a = b) : tupOf [AV.b a] = AV.b b := by subst h; rfl
theorem retI {a b : Int} (h : a = b) : tupOf [AV.i a] = AV.i b := by subst h; rfl
namespace Fc
inductive Fact where
 | mk (op arg : Int) (path : List Int) (cls n : Int) (kids : List Fact)
def Fact.op : Fact → Int | .mk x _ _ _ _ _ => x
def Fact.arg : Fact → Int | .mk _ x _ _ _ _ => x
def Fact.path : Fact → List Int | .mk _ _ x _ _ _ => x
def Fact.cls : Fact → Int | .mk _ _ _ x _ _ => x
def Fact.n : Fact → Int | .mk _ _ _ _ x _ => x
def Fact.kids : Fact → List Fact | .mk _ _ _ _ _ x => x
instance : Inhabited Fact := ⟨.mk 0 0 [] 0 0 []⟩
mutual
def encF : Fact → List AV
 | .mk op arg path cls n kids => [.i op, .i arg, AV.ints path, .i cls, .i n, .sl 6 (encFs kids)]
def encFs : List Fact → List (List AV)
 | [] => []
 | f :: r => encF f :: encFs r
end
def Fcells (f : Fact) : List AV := [.i f.op, .i f.arg, AV.ints f.path, .i f.cls, .i f.n, .sl 6 (encFs f.kids)]
theorem encF_eq (f : Fact) : encF f = Fcells f := by cases f; rfl
theorem encFs_map : ∀ l : List Fact, encFs l = l.map Fcells
 | [] => rfl
 | f :: r => by rw [encFs, encF_eq, encFs_map r]; rfl
instance : MapLike encFs Fcells := ⟨encFs_map⟩
abbrev AV.facts (l : List Fact) : AV := .sl 6 (encFs l)
mutual
def Fact.eqb : Fact → Fact → Bool
 | .mk a b c d e f, .mk a' b' c' d' e' f' => a == a' && b == b' && d == d' && e == e' && c == c' && Fact.eqbs f f'
def Fact.eqbs : List Fact → List Fact → Bool
 | [], [] => true
 | x :: r, y :: s => Fact.eqb x y && Fact.eqbs r s
 | _, _ => false
end
mutual
theorem Fact.eqb_iff : ∀ x y : Fact, Fact.eqb x y = true ↔ x = y
 | .mk a b c d e f, .mk a' b' c' d' e' f' => by
  rw [Fact.eqb]
  simp only [Bool.and_eq_true, beq_iff_eq, Fact.eqbs_iff f f', Fact.mk.injEq]
  constructor
  ·rintro ⟨⟨⟨⟨⟨h1, h2⟩, h3⟩, h4⟩, h5⟩, h6⟩; exact ⟨h1, h2, h5, h3, h4, h6⟩
  ·rintro ⟨h1, h2, h5, h3, h4, h6⟩; exact ⟨⟨⟨⟨⟨h1, h2⟩, h3⟩, h4⟩, h5⟩, h6⟩
theorem Fact.eqbs_iff : ∀ x y : List Fact, Fact.eqbs x y = true ↔ x = y
 | [], [] => by simp [Fact.eqbs]
 | [], _ :: _ => by simp [Fact.eqbs]
 | _ :: _, [] => by simp [Fact.eqbs]
 | x :: r, y :: s => by
  rw [Fact.eqbs]
  simp only [Bool.and_eq_true, Fact.eqb_iff x y, Fact.eqbs_iff r s, List.cons.injEq]
end
instance : BEq Fact := ⟨Fact.eqb⟩
instance : LawfulBEq Fact where
 eq_of_beq h := (Fact.eqb_iff _ _).1 h
 rfl := (Fact.eqb_iff _ _).2 rfl
instance : DecidableEq Fact := fun a b => if h : Fact.eqb a b = true then isTrue ((Fact.eqb_iff a b).1 h) else isFalse fun e => h ((Fact.eqb_iff a b).2 e)
theorem Fact.ext' {x y : Fact} (h1 : x.op = y.op) (h2 : x.arg = y.arg) (h3 : x.path = y.path) (h4 : x.cls = y.cls) (h5 : x.n = y.n) (h6 : x.kids = y.kids) : x = y := by
 cases x; cases y; simp only [Fact.op, Fact.arg, Fact.path, Fact.cls, Fact.n, Fact.kids] at *; subst_vars; rfl
structure FLit where
 f : Fact
 neg : Bool
def Lcells (l : FLit) : List AV := [.i l.f.op, .i l.f.arg, AV.ints l.f.path, .i l.f.cls, .i l.f.n, .sl 6 (encFs l.f.kids), .b l.neg]
instance : Inhabited FLit := ⟨default, false⟩
abbrev AV.lit (l : FLit) : AV := .agg (Lcells l)
structure FW where
 parents : List (List Int)
 owner : List Int
abbrev AV.set (s : Nat) : AV := .val (.int .u64 (s : Int))
end Fc
end Go.Eng

set_option linter.unusedVariables false
namespace Go.Eng.Im
abbrev U8 := Fin 256
abbrev u8 (x : U8) : AV := .val (.int .u8 (x.val : Int))
abbrev u8s (l : List U8) : AV := .sl 1 (l.map fun x => [u8 x])
def numR : Nat → Bool → List U8 → Option (Nat × List U8)
 | 0, _, _ => none
 | _ + 1, _, [] => none
 | g + 1, first, x :: r =>
  if x.val < 128 then (if first || decide (0 < x.val) then some (x.val, r) else none)
  else match numR g false r with
   | some (n, r') => some (x.val - 128 + 128 * n, r')
   | none => none
def numberR (l : List U8) : Option (Nat × List U8) := numR 5 true l
def manyR (l : List U8) : Option (Nat × List U8) :=
 match numberR l with
 | some (n, r) => if n ≤ r.length then some (n, r) else none
 | none => none
def sumStep (p : Nat × Nat) (x : U8) : Nat × Nat := ((p.1 + x.val) % 65521, (p.2 + (p.1 + x.val) % 65521) % 65521)
def sumP (l : List U8) : Nat × Nat := l.foldl sumStep (1, 0)
def byteOf (n : Nat) : U8 := ⟨n % 256, Nat.mod_lt _ (by decide)⟩
def sumR (kind : U8) (body : List U8) : List U8 :=
 let p := sumP (kind :: body)
 [byteOf (p.2 / 256), byteOf p.2, byteOf (p.1 / 256), byteOf p.1]
structure Sec where
 kind : U8
 body : List U8
 damaged : Bool
def secR : List U8 → Option (Sec × List U8)
 | [] => none
 | k :: r =>
  match manyR r with
  | some (n, r1) =>
   if 4 ≤ (r1.drop n).length then some (⟨k, r1.take n, !((r1.drop n).take 4 == sumR k (r1.take n))⟩, (r1.drop n).drop 4) else none
  | none => none
def secsR : Nat → List U8 → List Sec × Bool
 | 0, l => ([], decide (l = []))
 | _ + 1, [] => ([], true)
 | f + 1, l => match secR l with
  | some (s, r) => (s :: (secsR f r).1, (secsR f r).2)
  | none => ([], false)
def secsOf (l : List U8) : List Sec × Bool := secsR l.length l
def splitR : List U8 → Option (U8 × List Sec)
 | a :: m :: r => if a.val = 67 ∧ (m.val = 79 ∨ m.val = 80) ∧ (secsOf r).2 = true then some (m, (secsOf r).1) else none
 | _ => none
theorem numR_len : ∀ {g : Nat} {first : Bool} {l : List U8} {n : Nat} {r : List U8}, numR g first l = some (n, r) → r.length < l.length
 | 0, _, _, _, _, h => by simp [numR] at h
 | g + 1, _, [], _, _, h => by simp [numR] at h
 | g + 1, first, x :: l, n, r, h => by
  rw [numR] at h
  split at h
  ·split at h
   ·simp at h; obtain ⟨_, rfl⟩ := h; simp
   ·cases h
  ·split at h
   ·rename_i m r' h'
    simp at h; obtain ⟨_, rfl⟩ := h
    have := numR_len h'
    simp; omega
   ·cases h
theorem numR_lt : ∀ {g : Nat} {first : Bool} {l : List U8} {n : Nat} {r : List U8}, numR g first l = some (n, r) → n < 128 ^ g
 | 0, _, _, _, _, h => by simp [numR] at h
 | g + 1, _, [], _, _, h => by simp [numR] at h
 | g + 1, first, x :: l, n, r, h => by
  rw [numR] at h
  have hx := x.isLt
  have hp : 128 ^ (g + 1) = 128 ^ g * 128 := rfl
  have h0 : 0 < 128 ^ g := Nat.pow_pos (by decide)
  split at h
  ·split at h
   ·simp at h; obtain ⟨rfl, _⟩ := h; omega
   ·cases h
  ·split at h
   ·rename_i m r' h'
    simp at h; obtain ⟨rfl, _⟩ := h
    have := numR_lt h'
    omega
   ·cases h
theorem u8_and127 : ∀ x : U8, bitI .and .u8 (x.val : Int) 127 = some ((x.val % 128 : Nat) : Int) := by decide +kernel
theorem p128 (i : Nat) : (128 : Nat) ^ i = 2 ^ (7 * i) := by rw [Nat.pow_mul]
theorem p128_le {i : Nat} (hi : i < 5) : (128 : Nat) ^ i ≤ 268435456 := by
 have : i = 0 ∨ i = 1 ∨ i = 2 ∨ i = 3 ∨ i = 4 := by omega
 rcases this with rfl | rfl | rfl | rfl | rfl <;> decide
theorem sh7 {a i : Nat} (ha : a < 128) (hi : i < 5) : shI .shl .i64 (a : Int) (7 * (i : Int)) = some ((a * 128 ^ i : Nat) : Int) := by
 have e : min (7 * (i : Int)).toNat IntKind.i64.bits = 7 * i := by simp [IntKind.bits]; omega
 have hm : a * 128 ^ i ≤ 127 * 268435456 := Nat.mul_le_mul (by omega) (p128_le hi)
 show some (IntKind.i64.wrap _) = _
 rw [e]
 have e2 : (a : Int) * 2 ^ (7 * i) = ((a * 128 ^ i : Nat) : Int) := by rw [p128]; simp
 rw [e2, wrap64 (by omega)]
theorem bv64i (n : Nat) (h : n < 18446744073709551616) : (BitVec.ofInt IntKind.i64.bits (n : Int)).toNat = n := by
 simp [IntKind.bits]
 omega
theorem or7 {n a i : Nat} (hn : n < 128 ^ i) (ha : a < 128) (hi : i < 5) : bitI .or .i64 (n : Int) ((a * 128 ^ i : Nat) : Int) = some ((n + 128 ^ i * a : Nat) : Int) := by
 have hp := p128_le hi
 have hm : a * 128 ^ i ≤ 127 * 268435456 := Nat.mul_le_mul (by omega) hp
 show some (IntKind.i64.wrap _) = _
 rw [BitVec.toNat_or, bv64i n (by omega), bv64i _ (by omega)]
 have e : n ||| a * 128 ^ i = n + 128 ^ i * a := by
  rw [Nat.or_comm, Nat.mul_comm, Nat.add_comm n]
  rw [p128] at hn ⊢
  exact (Nat.two_pow_add_eq_or_of_lt hn a).symm
 rw [e, wrap64 (by rw [Nat.mul_comm]; omega)]
theorem numR_step {g : Nat} {first : Bool} {x : U8} {l : List U8} (hx : ¬ x.val < 128) : numR (g + 1) first (x :: l) = (numR g false l).map fun p => (x.val - 128 + 128 * p.1, p.2) := by
 rw [numR, if_neg hx]
 cases numR g false l <;> rfl
theorem numR_nil (g : Nat) (first : Bool) : numR g first [] = none := by cases g <;> rfl
theorem numR_last {g : Nat} {first : Bool} {x : U8} {l : List U8} (hx : x.val < 128) : numR (g + 1) first (x :: l) = if (first || decide (0 < x.val)) = true then some (x.val, l) else none := by
 rw [numR, if_pos hx]
structure NumAt (l : List U8) (i n : Nat) (l' : List U8) : Prop where
 le : i ≤ 5
 lt : n < 128 ^ i
 eq : numberR l = (numR (5 - i) (decide (i = 0)) l').map fun p => (n + 128 ^ i * p.1, p.2)
theorem NumAt.begin (l : List U8) : NumAt l 0 0 l := ⟨by omega, by decide, by rw [numberR]; show _ = (numR 5 true l).map _; cases numR 5 true l <;> simp⟩
theorem NumAt.empty {l : List U8} {i n : Nat} (h : NumAt l i n []) : numberR l = none := by rw [h.eq, numR_nil]; rfl
theorem NumAt.long {l : List U8} {i n : Nat} {l' : List U8} (h : NumAt l i n l') (hi : ¬ i < 5) : numberR l = none := by
 have := h.le
 rw [h.eq, show 5 - i = 0 by omega]; rfl
theorem NumAt.step {l : List U8} {i n : Nat} {x : U8} {r : List U8} (h : NumAt l i n (x :: r)) (hi : i < 5) (hx : ¬ x.val < 128) : NumAt l (i + 1) (n + 128 ^ i * (x.val % 128)) r := by
 have h1 := h.lt
 have hm : x.val % 128 < 128 := Nat.mod_lt _ (by decide)
 have hp : 128 ^ (i + 1) = 128 ^ i * 128 := rfl
 have hl : x.val < 256 := x.isLt
 refine ⟨by omega, ?_, ?_⟩
 ·rw [hp]
  have : 128 ^ i * (x.val % 128) ≤ 128 ^ i * 127 := Nat.mul_le_mul_left _ (by omega)
  omega
 ·rw [h.eq, show 5 - i = (5 - (i + 1)) + 1 by omega, numR_step hx, show decide (i + 1 = 0) = false by simp]
  cases numR (5 - (i + 1)) false r with
  | none => rfl
  | some p =>
   simp only [Option.map_some, Option.some.injEq, Prod.mk.injEq, and_true]
   rw [show x.val % 128 = x.val - 128 by omega, hp, Nat.mul_add, Nat.mul_assoc]; omega
theorem NumAt.last {l : List U8} {i n : Nat} {x : U8} {r : List U8} (h : NumAt l i n (x :: r)) (hi : i < 5) (hx : x.val < 128) (hg : i = 0 ∨ 0 < x.val) : numberR l = some (n + 128 ^ i * (x.val % 128), r) := by
 rw [h.eq, show 5 - i = (5 - (i + 1)) + 1 by omega, numR_last hx, if_pos (by simpa using hg), Nat.mod_eq_of_lt hx]; rfl
theorem NumAt.bad {l : List U8} {i n : Nat} {x : U8} {r : List U8} (h : NumAt l i n (x :: r)) (hi : i < 5) (hx : x.val < 128) (hg : ¬ (i = 0 ∨ 0 < x.val)) : numberR l = none := by
 rw [h.eq, show 5 - i = (5 - (i + 1)) + 1 by omega, numR_last hx, if_neg (by simpa using hg)]; rfl
theorem u8_wrap (m : Nat) : IntKind.u8.wrap (m : Int) = ((byteOf m).val : Int) := by
 simp only [IntKind.wrap, IntKind.bits, IntKind.signed, byteOf]
 simp
theorem u8_wrap8 (x : U8) : IntKind.u8.wrap (x.val : Int) = (x.val : Int) := by
 rw [u8_wrap]; simp [byteOf, Nat.mod_eq_of_lt x.isLt]
theorem shr8 (n : Nat) : shI .shr .i64 (n : Int) 8 = some ((n / 256 : Nat) : Int) := by
 show some ((n : Int).fdiv (2 ^ 8)) = _
 congr 1
 exact (Int.ofNat_fdiv n 256).symm
theorem sum_lt : ∀ (l : List U8) (p : Nat × Nat), p.1 < 65521 → p.2 < 65521 → (l.foldl sumStep p).1 < 65521 ∧ (l.foldl sumStep p).2 < 65521
 | [], _, h1, h2 => ⟨h1, h2⟩
 | x :: l, p, _, _ => sum_lt l _ (Nat.mod_lt _ (by decide)) (Nat.mod_lt _ (by decide))
theorem sumP_lt (l : List U8) : (sumP l).1 < 65521 ∧ (sumP l).2 < 65521 := sum_lt l _ (by decide) (by decide)
theorem take_snoc {α : Type} [Inhabited α] {l : List α} {j : Nat} (h : j < l.length) : l.take (j + 1) = l.take j ++ [l.getD j default] := by
 rw [List.take_succ_eq_append_getElem h, List.getD_eq_getElem?_getD, List.getElem?_eq_getElem h]; rfl
theorem sumP_step {l : List U8} {j : Nat} (h : j < l.length) : sumP (l.take (j + 1)) = sumStep (sumP (l.take j)) (l.getD j default) := by
 rw [take_snoc h, sumP, List.foldl_append]; rfl
theorem one_map {α : Type} {enc : α → List AV} (h : ∀ x, allOne (enc x) = true) (l : List α) : (l.map enc).all allOne = true := by
 rw [List.all_eq_true]; intro x hx
 obtain ⟨a, _, rfl⟩ := List.mem_map.1 hx; exact h a
theorem tm_sum (a b : Nat) : (((a + b) % 65521 : Nat) : Int) = ((a : Int) + (b : Int)).tmod 65521 := by
 rw [show (a : Int) + (b : Int) = ((a + b : Nat) : Int) by simp, show (65521 : Int) = ((65521 : Nat) : Int) by rfl, ← Int.ofNat_tmod]
abbrev secC (s : Sec) : List AV := [.i s.kind.val, u8s s.body, .b s.damaged]
abbrev secA (s : Sec) : AV := .agg (secC s)
theorem numberR_len {l : List U8} {n : Nat} {r : List U8} (h : numberR l = some (n, r)) : r.length < l.length := numR_len h
theorem manyR_some {l : List U8} {n : Nat} {r : List U8} (h : manyR l = some (n, r)) : n ≤ r.length ∧ r.length < l.length := by
 unfold manyR at h
 split at h
 ·rename_i m r' h'
  split at h
  ·cases h; exact ⟨by assumption, numberR_len h'⟩
  ·cases h
 ·cases h
theorem secR_len {l : List U8} {s : Sec} {r : List U8} (h : secR l = some (s, r)) : r.length < l.length := by
 unfold secR at h
 split at h
 ·cases h
 ·split at h
  ·rename_i k r0 n r1 hm
   split at h
   ·cases h
    have := manyR_some hm
    simp; omega
   ·cases h
  ·cases h
theorem secsR_fuel : ∀ (f : Nat) (l : List U8), l.length ≤ f → secsR f l = secsR l.length l
 | 0, [], _ => rfl
 | 0, _ :: _, h => by simp at h
 | f + 1, [], _ => rfl
 | f + 1, x :: l, h => by
  rw [secsR, List.length_cons, secsR]
  ·cases hs : secR (x :: l) with
   | none => rfl
   | some p =>
    have h1 := secR_len (s := p.1) (r := p.2) hs
    simp only [List.length_cons] at h1 h
    simp only
    rw [secsR_fuel f p.2 (by omega), secsR_fuel l.length p.2 (by omega)]
  ·intro e; cases e
  ·intro e; cases e
theorem secsOf_step {l : List U8} {s : Sec} {r : List U8} (h : secR l = some (s, r)) : secsOf l = (s :: (secsOf r).1, (secsOf r).2) := by
 have h1 := secR_len h
 unfold secsOf
 cases l with
 | nil => cases h
 | cons x l =>
  rw [List.length_cons, secsR]
  ·rw [h]
   simp only [List.length_cons] at h1
   simp only
   rw [secsR_fuel l.length r (by omega)]
  ·intro e; cases e
theorem secsOf_fail {l : List U8} (hn : l ≠ []) (h : secR l = none) : secsOf l = ([], false) := by
 unfold secsOf
 cases l with
 | nil => exact absurd rfl hn
 | cons x l =>
  rw [List.length_cons, secsR]
  ·rw [h]
  ·intro e; cases e
structure SecAt (l : List U8) (pre : List Sec) (l' : List U8) : Prop where
 all : (secsOf l).1 = pre ++ (secsOf l').1
 ok : (secsOf l).2 = (secsOf l').2
 len : l'.length ≤ l.length
theorem SecAt.begin (l : List U8) : SecAt l [] l := ⟨rfl, rfl, Nat.le_refl _⟩
theorem SecAt.step {l l' r : List U8} {pre : List Sec} {s : Sec} (h : SecAt l pre l') (hs : secR l' = some (s, r)) : SecAt l (pre ++ [s]) r := by
 have e := secsOf_step hs
 exact ⟨by rw [h.all, e]; simp, by rw [h.ok, e], by have := secR_len hs; have := h.len; omega⟩
theorem SecAt.pre {l l' : List U8} {pre : List Sec} (h : SecAt l pre l') : pre <+: (secsOf l).1 := ⟨_, h.all.symm⟩
theorem SecAt.stop {l : List U8} {pre : List Sec} (h : SecAt l pre []) : (secsOf l).1 = pre ∧ (secsOf l).2 = true := ⟨by rw [h.all]; simp [secsOf, secsR], by rw [h.ok]; simp [secsOf, secsR]⟩
theorem SecAt.fail {l l' : List U8} {pre : List Sec} (h : SecAt l pre l') (hn : l' ≠ []) (hs : secR l' = none) : (secsOf l).1 = pre ∧ (secsOf l).2 = false := by
 have e := secsOf_fail hn hs
 exact ⟨by rw [h.all, e]; simp, by rw [h.ok, e]⟩
theorem secR_many {k : U8} {r : List U8} (h : manyR r = none) : secR (k :: r) = none := by simp [secR, h]
theorem secR_short {k : U8} {r r1 : List U8} {n : Nat} (h : manyR r = some (n, r1)) (h4 : ¬ 4 ≤ (r1.drop n).length) : secR (k :: r) = none := by simp only [secR, h]; rw [if_neg h4]
theorem secR_good {k : U8} {r r1 : List U8} {n : Nat} (h : manyR r = some (n, r1)) (h4 : 4 ≤ (r1.drop n).length) : secR (k :: r) = some (⟨k, r1.take n, !((r1.drop n).take 4 == sumR k (r1.take n))⟩, (r1.drop n).drop 4) := by simp only [secR, h]; rw [if_pos h4]
theorem secsR_count : ∀ (f : Nat) (l : List U8), l.length ≤ f → (secsR f l).1.length ≤ l.length
 | 0, _, _ => by simp [secsR]
 | f + 1, [], _ => by simp [secsR]
 | f + 1, x :: l, h => by
  rw [secsR]
  ·cases hs : secR (x :: l) with
   | none => simp
   | some p =>
    have h1 := secR_len (s := p.1) (r := p.2) hs
    have h2 := secsR_count f p.2 (by simp only [List.length_cons] at h1 h; omega)
    simp only [List.length_cons] at h1 ⊢
    omega
  ·intro e; cases e
theorem secs_count (l : List U8) : (secsOf l).1.length ≤ l.length := secsR_count _ l (Nat.le_refl _)
instance : Inhabited Sec := ⟨⟨default, [], false⟩⟩
def kindsP (l : List Sec) : List (List AV) := l.map fun s => [AV.i s.kind.val]
def damP (l : List Sec) (n : Nat) : List Int := ((List.range n).filter fun i => (l.getD i default).damaged).map fun (i : Nat) => (i : Int)
abbrev damA (l : List Sec) (n : Nat) : AV := .sl 1 ((damP l n).map fun n => [AV.i n])
theorem kinds_snoc {l : List Sec} {j : Nat} (h : j < l.length) : kindsP (l.take (j + 1)) = kindsP (l.take j) ++ [[AV.i (l.getD j default).kind.val]] := by
 rw [take_snoc h, kindsP, List.map_append]; rfl
theorem dam_yes {l : List Sec} {j : Nat} (h : (l.getD j default).damaged = true) : (damP l (j + 1)).map (fun n => [AV.i n]) = (damP l j).map (fun n => [AV.i n]) ++ [[AV.i (j : Int)]] := by
 rw [damP, List.range_succ, List.filter_append, List.map_append, List.map_append]
 have h' : (l[j]?.getD default).damaged = true := by simpa [List.getD_eq_getElem?_getD] using h
 simp [h', damP]
theorem dam_no {l : List Sec} {j : Nat} (h : (l.getD j default).damaged = false) : damP l (j + 1) = damP l j := by
 rw [damP, List.range_succ, List.filter_append, List.map_append]
 have h' : (l[j]?.getD default).damaged = false := by simpa [List.getD_eq_getElem?_getD] using h
 simp [h', damP]
theorem dam_len (l : List Sec) (n : Nat) : (damP l n).length ≤ n := by
 rw [damP, List.length_map]
 have := List.length_filter_le (fun i => (l.getD i default).damaged) (List.range n)
 simpa using this
theorem kinds_len (l : List Sec) : (kindsP l).length = l.length := by simp [kindsP]
def numF : Nat → List U8 → Nat
 | 0, _ => 0
 | _ + 1, [] => 0
 | g + 1, x :: r => if x.val < 128 then 1 else 1 + numF g r
def numV (l : List U8) : Nat := match numberR l with | some (n, _) => n | none => 0
theorem numR_drop : ∀ {g : Nat} {first : Bool} {l : List U8} {n : Nat} {r : List U8}, numR g first l = some (n, r) → r = l.drop (numF g l)
 | 0, _, _, _, _, h => by simp [numR] at h
 | g + 1, _, [], _, _, h => by simp [numR] at h
 | g + 1, first, x :: l, n, r, h => by
  rw [numR] at h
  rw [numF]
  split at h
  ·rename_i hx
   rw [if_pos hx]
   split at h
   ·simp at h; obtain ⟨_, rfl⟩ := h; rfl
   ·cases h
  ·rename_i hx
   rw [if_neg hx]
   split at h
   ·rename_i m r' h'
    simp at h; obtain ⟨_, rfl⟩ := h
    rw [Nat.add_comm, List.drop_succ_cons]; exact numR_drop h'
   ·cases h
theorem numF_le : ∀ (g : Nat) (l : List U8), numF g l ≤ l.length ∧ numF g l ≤ g
 | 0, _ => by simp [numF]
 | g + 1, [] => by simp [numF]
 | g + 1, x :: l => by
  rw [numF]
  have := numF_le g l
  split <;> simp <;> omega
structure NumPos (l : List U8) (i : Nat) (l' : List U8) : Prop where
 pos : numF 5 l = i + numF (5 - i) l'
theorem NumPos.begin (l : List U8) : NumPos l 0 l := ⟨by simp⟩
theorem NumPos.empty {l : List U8} {i : Nat} (h : NumPos l i []) : numF 5 l = i := by rw [h.pos]; cases 5 - i <;> simp [numF]
theorem NumPos.long {l : List U8} {i : Nat} {l' : List U8} (h : NumPos l i l') (hi : i = 5) : numF 5 l = 5 := by rw [h.pos, hi]; simp [numF]
theorem NumPos.step {l : List U8} {i : Nat} {x : U8} {r : List U8} (h : NumPos l i (x :: r)) (hi : i < 5) (hx : ¬ x.val < 128) : NumPos l (i + 1) r := ⟨by
 rw [h.pos, show 5 - i = (5 - (i + 1)) + 1 by omega, numF, if_neg hx]; omega⟩
theorem NumPos.last {l : List U8} {i : Nat} {x : U8} {r : List U8} (h : NumPos l i (x :: r)) (hi : i < 5) (hx : x.val < 128) : numF 5 l = i + 1 := by
 rw [h.pos, show 5 - i = (5 - (i + 1)) + 1 by omega, numF, if_pos hx]
theorem numV_some {l : List U8} {n : Nat} {r : List U8} (h : numberR l = some (n, r)) : numV l = n := by rw [numV, h]
theorem numV_none {l : List U8} (h : numberR l = none) : numV l = 0 := by rw [numV, h]
theorem numV_lt (l : List U8) : numV l < 34359738368 := by
 unfold numV
 split
 ·rename_i n r h; exact numR_lt h
 ·decide
theorem drop_cons_at {α : Type} [Inhabited α] {l : List α} {n : Nat} (h : n < l.length) : l.drop n = l.getD n default :: l.drop (n + 1) := by
 rw [List.drop_eq_getElem_cons h, List.getD_eq_getElem?_getD, List.getElem?_eq_getElem h]; rfl
def byteR (l : List U8) (i : Nat) : Nat × Nat × Bool := if i < l.length then ((l.getD i default).val, i + 1, false) else (0, i, true)
theorem byteR_in {l : List U8} {i : Nat} (h : i < l.length) : byteR l i = ((l.getD i default).val, i + 1, false) := if_pos h
theorem byteR_out {l : List U8} {i : Nat} (h : l.length ≤ i) : byteR l i = (0, i, true) := if_neg (by omega)
theorem byteR_lt (l : List U8) (i : Nat) : (byteR l i).1 < 256 := by
 unfold byteR; split
 ·exact (l.getD i default).isLt
 ·exact Nat.zero_lt_succ _
theorem tm128n (n : Nat) : ((n % 128 : Nat) : Int) = (n : Int).tmod 128 := by
 rw [show (128 : Int) = ((128 : Nat) : Int) by rfl, ← Int.ofNat_tmod]
theorem mulK {a k : Nat} (ha : a < 128) (hk : k < 5) : IntKind.i64.wrap ((a : Int) * ((128 ^ k : Nat) : Int)) = ((128 ^ k * a : Nat) : Int) := by
 have hm : 128 ^ k * a ≤ 268435456 * 127 := Nat.mul_le_mul (p128_le hk) (by omega)
 rw [← Int.natCast_mul, Nat.mul_comm, wrap64 (by omega)]
theorem addK {n m : Nat} (h : n + m ≤ 4611686018427387904) : IntKind.i64.wrap ((n : Int) + (m : Int)) = ((n + m : Nat) : Int) := by
 rw [← Int.natCast_add, wrap64 (by omega)]
theorem mul128 {k : Nat} (hk : k < 5) : IntKind.i64.wrap (((128 ^ k : Nat) : Int) * 128) = ((128 ^ (k + 1) : Nat) : Int) := by
 have hp := p128_le hk
 rw [show (128 : Int) = ((128 : Nat) : Int) by rfl, ← Int.natCast_mul, wrap64 (by omega)]; rfl
theorem ref_bad {l : List U8} {i k n c a : Nat} {b : Bool} (hb : byteR l (i + k) = (c, a, b)) (hk : k < 5) (hN : NumAt (l.drop i) k n (l.drop (i + k))) (hP : NumPos (l.drop i) k (l.drop (i + k))) (h1 : c < 128) (h2 : 0 < k) (h3 : c = 0) :
  numV (l.drop i) = 0 ∧ a = i + numF 5 (l.drop i) ∧ (numberR (l.drop i)).isNone = true := by
 rcases Nat.lt_or_ge (i + k) l.length with h | h
 ·rw [byteR_in h] at hb
  rw [drop_cons_at h] at hN hP
  generalize l.getD (i + k) default = x at *
  cases hb
  have e := hN.bad hk h1 (by omega)
  exact ⟨numV_none e, by rw [hP.last hk h1]; omega, by rw [e]; rfl⟩
 ·rw [byteR_out h] at hb
  rw [List.drop_eq_nil_of_le h] at hN hP
  cases hb
  have e := hN.empty
  exact ⟨numV_none e, by rw [hP.empty], by rw [e]; rfl⟩
theorem ref_good {l : List U8} {i k n c a : Nat} {b : Bool} (hb : byteR l (i + k) = (c, a, b)) (hk : k < 5) (hN : NumAt (l.drop i) k n (l.drop (i + k))) (hP : NumPos (l.drop i) k (l.drop (i + k))) (h1 : c < 128) (h2 : ¬ (0 < k ∧ c = 0)) :
  numV (l.drop i) = n + 128 ^ k * (c % 128) ∧ a = i + numF 5 (l.drop i) ∧ (numberR (l.drop i)).isNone = b := by
 rcases Nat.lt_or_ge (i + k) l.length with h | h
 ·rw [byteR_in h] at hb
  rw [drop_cons_at h] at hN hP
  generalize l.getD (i + k) default = x at *
  cases hb
  have e := hN.last hk h1 (by omega)
  exact ⟨numV_some e, by rw [hP.last hk h1]; omega, by rw [e]; rfl⟩
 ·rw [byteR_out h] at hb
  rw [List.drop_eq_nil_of_le h] at hN hP
  cases hb
  have hk0 : k = 0 := by omega
  have hlt := hN.lt
  have e := hN.empty
  subst hk0
  exact ⟨by rw [numV_none e]; simp at hlt ⊢; omega, by rw [hP.empty], by rw [e]; rfl⟩
theorem ref_more {l : List U8} {i k n c a : Nat} {b : Bool} (hb : byteR l (i + k) = (c, a, b)) (hk : k < 5) (hN : NumAt (l.drop i) k n (l.drop (i + k))) (hP : NumPos (l.drop i) k (l.drop (i + k))) (h1 : ¬ c < 128) :
  a = i + (k + 1) ∧ b = false ∧ i + (k + 1) ≤ l.length ∧ NumAt (l.drop i) (k + 1) (n + 128 ^ k * (c % 128)) (l.drop (i + (k + 1))) ∧ NumPos (l.drop i) (k + 1) (l.drop (i + (k + 1))) := by
 rcases Nat.lt_or_ge (i + k) l.length with h | h
 ·rw [byteR_in h] at hb
  rw [drop_cons_at h] at hN hP
  generalize l.getD (i + k) default = x at *
  cases hb
  exact ⟨by omega, rfl, by omega, hN.step hk h1, hP.step hk h1⟩
 ·rw [byteR_out h] at hb
  cases hb; omega
theorem ref_long {l : List U8} {i k n : Nat} (hk : k = 5) (hN : NumAt (l.drop i) k n (l.drop (i + k))) (hP : NumPos (l.drop i) k (l.drop (i + k))) :
  numV (l.drop i) = 0 ∧ i + k = i + numF 5 (l.drop i) ∧ (numberR (l.drop i)).isNone = true := by
 have e := hN.long (by omega)
 exact ⟨numV_none e, by rw [hP.long hk, hk], by rw [e]; rfl⟩
def manyV (l : List U8) : Nat := match manyR l with | some (n, _) => n | none => 0
theorem many_bad {d : List U8} (h : d.length - numF 5 d < numV d) : manyR d = none := by
 cases e : numberR d with
 | none => simp [manyR, e]
 | some p =>
  obtain ⟨n, r⟩ := p
  have hr := numR_drop e
  simp only [numV, e] at h
  simp only [manyR, e]
  rw [if_neg]
  rw [hr, List.length_drop]; omega
theorem many_ok {d : List U8} (h : ¬ d.length - numF 5 d < numV d) : (manyR d).isNone = (numberR d).isNone ∧ manyV d = numV d := by
 cases e : numberR d with
 | none => simp [manyR, manyV, numV, e]
 | some p =>
  obtain ⟨n, r⟩ := p
  have hr := numR_drop e
  simp only [numV, e] at h
  have hle : n ≤ r.length := by rw [hr, List.length_drop]; omega
  simp [manyR, manyV, numV, e, hle]
theorem manyV_none {d : List U8} (h : manyR d = none) : manyV d = 0 := by rw [manyV, h]
theorem manyV_some {d : List U8} {n : Nat} {r : List U8} (h : manyR d = some (n, r)) : manyV d = n ∧ n ≤ d.length - numF 5 d ∧ r = d.drop (numF 5 d) := by
 refine ⟨by rw [manyV, h], ?_⟩
 unfold manyR at h
 split at h
 ·rename_i m r' e
  have hr := numR_drop e
  split at h
  ·cases h
   exact ⟨by have := congrArg List.length hr; rw [List.length_drop] at this; omega, hr⟩
  ·cases h
 ·cases h
abbrev pieC (s : Sec) : List AV := [u8 s.kind, u8s s.body, .b s.damaged]
abbrev pies (l : List Sec) : AV := .sl 3 (l.map pieC)
theorem quo256 (n : Nat) (h : n < 65521) : ((n / 256 : Nat) : Int) = IntKind.i64.wrap ((n : Int).tdiv 256) := by
 rw [show (256 : Int) = ((256 : Nat) : Int) by rfl, ← Int.ofNat_tdiv, wrap64 (by omega)]
theorem rem256 (n : Nat) : ((n % 256 : Nat) : Int) = (n : Int).tmod 256 := by
 rw [show (256 : Int) = ((256 : Nat) : Int) by rfl, ← Int.ofNat_tmod]
theorem byteOf_mod (n : Nat) : byteOf (n % 256) = byteOf n := by simp [byteOf]
theorem manyV_le (d : List U8) : manyV d ≤ d.length := by
 unfold manyV
 split
 ·rename_i n r h
  have := (manyV_some h).2.1
  omega
 ·omega
theorem piece_bad {l : List U8} {a : Nat} {k : U8} (h : (bif (manyR (l.drop (a + 1))).isNone then true else decide ((manyV (l.drop (a + 1)) : Int) + 4 > (l.length : Int) - ((a + 1 + numF 5 (l.drop (a + 1)) : Nat) : Int))) = true) (ha : a < l.length) : secR (k :: l.drop (a + 1)) = none := by
 cases e : manyR (l.drop (a + 1)) with
 | none => exact secR_many e
 | some p =>
  obtain ⟨n, r⟩ := p
  obtain ⟨h1, h2, h3⟩ := manyV_some e
  rw [e, h1] at h
  simp only [Option.isNone_some, cond_false, decide_eq_true_eq] at h
  have hf := numF_le 5 (l.drop (a + 1))
  rw [List.length_drop] at hf h2
  refine secR_short e ?_
  rw [h3, List.length_drop, List.length_drop, List.length_drop]
  omega
theorem piece_good {l : List U8} {a : Nat} (h : (bif (manyR (l.drop (a + 1))).isNone then true else decide ((manyV (l.drop (a + 1)) : Int) + 4 > (l.length : Int) - ((a + 1 + numF 5 (l.drop (a + 1)) : Nat) : Int))) = false) (ha : a < l.length) :
  ∃ n, manyR (l.drop (a + 1)) = some (n, l.drop (a + 1 + numF 5 (l.drop (a + 1)))) ∧ manyV (l.drop (a + 1)) = n ∧ a + 1 + numF 5 (l.drop (a + 1)) + n + 4 ≤ l.length := by
 cases e : manyR (l.drop (a + 1)) with
 | none => rw [e] at h; simp at h
 | some p =>
  obtain ⟨n, r⟩ := p
  obtain ⟨h1, h2, h3⟩ := manyV_some e
  rw [e, h1] at h
  simp only [Option.isNone_some, cond_false, decide_eq_false_iff_not] at h
  have hf := numF_le 5 (l.drop (a + 1))
  rw [List.length_drop] at hf h2
  exact ⟨n, by rw [h3, List.drop_drop], h1, by omega⟩
end Go.Eng.Im

set_option linter.unusedVariables false
set_option linter.unusedSimpArgs false
set_option maxRecDepth 10000
namespace Go.Proofs.YtpgnjlngepfanaaGreat
open Go.Eng
open Go.Eng.Im
abbrev wrongV : Value := .iface 176 (.agg #[])
abbrev wrongA : AV := .iface 176 (.agg [])
theorem wrong_c : wrongA.Const wrongV where
 is I w u h := by
  cases h with
  | iface _ _ v h => cases h with
   | agg _ vs h =>
    have : vs = #[] := by cases vs with | mk l => cases h; rfl
    rw [this]
 rel I w := .iface _ _ _ (.agg _ _ .nil)
abbrev rdr (rb : Nat) (l : List U8) : Ent := .blk rb 177 [u8s l]
theorem q71t {b : Bool} (hb : b = true) (H : List Ent) : RCall Tryz.prog 71 [.b b] H (some (.tup [], H)) H wrongA := by
 refine ACall.mk' (n := 6) Tryz.func71 rfl (by kernel_rfl) rfl rfl (fun B I w0 => ?_)
 refine S2 ?_; refine Omv ?_; refine Ont ?_; refine S2 ?_
 refine CW.cond rfl (fun h0 => ?_) (fun h0 => ?_)
 ·
  simp [hb] at h0
 ·
  replace h0 := nm h0
  refine S1 ?_
  refine Done.norR (rs := []) (H' := H) rfl (.nil) (AVleL.refl _) (by repeat (first | exact List.Sublist.refl _ | refine List.Sublist.cons _ ?_)) ?_
  exact rfl
theorem q71f {b : Bool} (hb : b = false) (H : List Ent) : RCall Tryz.prog 71 [.b b] H none H wrongA := by
 refine ACall.mk' (n := 6) Tryz.func71 rfl (by kernel_rfl) rfl rfl (fun B I w0 => ?_)
 refine S2 ?_; refine Omv ?_; refine Ont ?_; refine S2 ?_
 refine CW.cond rfl (fun h0 => ?_) (fun h0 => ?_)
 ·
  replace h0 := nm h0
  refine S1 ?_; refine Obd ?_
  refine OL.popC rfl rfl rfl (POp.makeIface rfl rfl rfl (by kernel_rfl)) ?_
  refine OL.panicC rfl rfl rfl rfl wrong_c ?_
  exact outP wrong_c (.refl _) ⟨rfl, rfl, rfl⟩
 ·
  simp [hb] at h0
theorem q86 (l : List U8) (n : Nat) (rb : Nat) (Hx : List Ent) : RCall Tryz.prog 86 [.p rb 0, .i n] (rdr rb l :: Hx) (if n ≤ l.length then some (u8s (l.take n), rdr rb (l.drop n) :: Hx) else none) Hx wrongA := by
 refine ACall.mk' (n := 31) Tryz.func86 rfl (by kernel_rfl) rfl rfl (fun B I w0 => ?_)
 refine S2 ?_; refine Oas ?_; refine S4 ?_; refine Omv ?_; refine Omv ?_; refine Onc ?_; refine Ofa ?_; refine Old ?_; refine Oln ?_; refine Ocm ?_
 by_cases hn : n ≤ l.length
 ·
  refine OL.rcallS rfl rfl rfl (.mk' rfl rfl rfl rfl rfl) (q71t (by simp; omega) _) ?_
  refine S4 ?_; refine Omv ?_; refine Onc ?_; refine Ofa ?_; refine Old ?_; refine Omv ?_; refine Omv ?_
  refine OL.popC rfl rfl rfl (POp.slTo3 rfl rfl rfl rfl rfl rfl rfl hn) ?_
  refine Oas ?_; refine S4 ?_; refine Omv ?_; refine Omv ?_; refine Onc ?_; refine Ofa ?_; refine Old ?_; refine Omv ?_
  refine OL.popC rfl rfl rfl (POp.slFrom rfl rfl (by first | rfl | exact hg | simp_all) rfl (by first | rfl | exact hg | simp_all) hn) ?_
  refine Onc ?_; refine Ofa ?_; refine Sto ?_; refine S4 ?_; refine Omv ?_; refine Oas ?_; refine S3 ?_
  refine r1 4 (rdr rb (l.drop n) :: Hx) ?_
  exact if_pos hn
 ·
  refine OL.rcallN rfl rfl (.mk' rfl rfl rfl rfl rfl) (q71f (by simp; omega) _) wrong_c ?_
  exact outP (P := Tryz.prog) (fn := Tryz.f86) wrong_c (.cons _ (.refl _)) ⟨if_neg hn, rfl, rfl⟩
theorem q86c (x : U8) (r : List U8) (rb : Nat) (Hx : List Ent) : RCall Tryz.prog 86 [.p rb 0, .i 1] (rdr rb (x :: r) :: Hx) (some (u8s [x], rdr rb r :: Hx)) Hx wrongA := by
 have h := q86 (x :: r) 1 rb Hx
 rwa [if_pos (by simp)] at h
theorem q86z (rb : Nat) (Hx : List Ent) : RCall Tryz.prog 86 [.p rb 0, .i 1] (rdr rb [] :: Hx) none Hx wrongA := by
 have h := q86 [] 1 rb Hx
 rwa [if_neg (by simp)] at h
def numO (l : List U8) (rb : Nat) (Hx : List Ent) : Option (AV × List Ent) := (numberR l).map fun p => (AV.i p.1, rdr rb p.2 :: Hx)
theorem q134 (l : List U8) (rb : Nat) (Hx : List Ent) : RCall Tryz.prog 134 [.p rb 0] (rdr rb l :: Hx) (numO l rb Hx) Hx wrongA := by
 refine ACall.mk' (n := 34) Tryz.func134 rfl (by kernel_rfl) rfl rfl (fun B I w0 => ?_)
 refine S2 ?_; refine Oas ?_; refine S4 ?_; refine Oas ?_; refine S5 ?_; refine Omv ?_; refine S3 ?_
 refine lj (fun m st => ∃ (i n : Nat) (l' : List U8), st = ⟨[(3, .i n), (6, .i i), (0, .p rb 0)], rdr rb l' :: Hx⟩ ∧ m = 5 - i ∧ NumAt l i n l') (⟨0, 0, l, rfl, rfl, .begin l⟩) ?_
 rintro m _ ⟨i, n, l', rfl, rfl, hN⟩
 have hle := hN.le
 have hlt := hN.lt
 refine S2 ?_; refine Ocm ?_; refine S3 ?_
 refine CW.cond rfl (fun h0 => ?_) (fun h0 => ?_)
 ·
  replace h0 := nm h0
  have hi : i < 5 := by omega
  have hp := p128_le hi
  refine S6 ?_; refine Omv ?_; refine Oas ?_; refine S4 ?_; refine Omv ?_
  rcases l' with _ | ⟨x, r⟩
  ·
   refine OL.rcallN rfl rfl (.mk' rfl rfl rfl rfl rfl) (q86z _ _) wrong_c ?_
   exact outP (P := Tryz.prog) (fn := Tryz.f134) wrong_c (.refl _) ⟨by rw [numO, hN.empty]; rfl, rfl, rfl⟩
  ·
   refine OL.rcallS rfl rfl rfl (.mk' rfl rfl rfl rfl rfl) (q86c _ _ _ _) ?_
   refine OL.popC rfl rfl rfl ((by first | exact POp.ixM rfl rfl rfl rfl rfl (by simp) | exact POp.ixI rfl rfl rfl rfl rfl (by simp))) ?_
   refine Old ?_; refine Oas ?_; refine S4 ?_; refine Omv ?_; refine Omv ?_
   refine OL.popC rfl rfl rfl (POp.bits rfl rfl rfl rfl rfl (u8_and127 x)) ?_
   refine OL.popC rfl rfl rfl (POp.cv rfl rfl rfl (wrap64 (by omega))) ?_
   refine Omv ?_; refine Oar ?_
   refine OL.popC rfl rfl rfl (POp.shift rfl rfl rfl rfl rfl (by omega) (sh7 (Nat.mod_lt _ (by decide)) hi)) ?_
   refine OL.popC rfl rfl rfl (POp.bits rfl rfl rfl rfl rfl (or7 hlt (Nat.mod_lt _ (by decide)) hi)) ?_
   refine Oas ?_; refine S4 ?_; refine Omv ?_; refine Ocm ?_; refine S2 ?_
   refine CW.cond rfl (fun h1 => ?_) (fun h1 => ?_)
   ·
    replace h1 := nm h1
    have hx : x.val < 128 := by exact Int.ofNat_lt.1 h1
    refine S2 ?_; refine Omv ?_; refine Ocm ?_; refine Omv ?_; refine Pmv ?_; refine Pcm ?_; refine Opk ?_
    by_cases hg : i = 0 ∨ 0 < x.val
    ·
     refine OL.rcallS rfl rfl rfl (.mk' rfl rfl rfl rfl rfl) (q71t (by simpa using hg) _) ?_
     refine S4 ?_; refine Omv ?_; refine Oas ?_; refine S8 ?_
     refine r1 2 (rdr rb r :: Hx) ?_
     rw [numO, hN.last hi hx hg]; rfl
    ·
     refine OL.rcallN rfl rfl (.mk' rfl rfl rfl rfl rfl) (q71f (by simpa using hg) _) wrong_c ?_
     exact outP (P := Tryz.prog) (fn := Tryz.f134) wrong_c (.cons _ (.refl _)) ⟨by rw [numO, hN.bad hi hx hg]; rfl, rfl, rfl⟩
   ·
    replace h1 := nm h1
    have hx : ¬ x.val < 128 := fun h => absurd (Int.ofNat_lt.2 h) (by simpa using h1)
    refine S4 ?_; refine Oar ?_; refine Omv ?_; refine S1 ?_
    exact ag (⟨i + 1, n + 128 ^ i * (x.val % 128), r, rfl, rfl, hN.step hi hx⟩)
 ·
  replace h0 := nm h0
  refine S6 ?_; refine Obd ?_
  refine OL.popC rfl rfl rfl (POp.makeIface rfl rfl rfl (by kernel_rfl)) ?_
  refine OL.panicC rfl rfl rfl rfl wrong_c ?_
  exact outP (P := Tryz.prog) (fn := Tryz.f134) wrong_c (.cons _ (.refl _)) ⟨by rw [numO, hN.long (by omega)]; rfl, rfl, rfl⟩
def manyO (l : List U8) (rb : Nat) (Hx : List Ent) : Option (AV × List Ent) := (manyR l).map fun p => (AV.i p.1, rdr rb p.2 :: Hx)
theorem q134s {l : List U8} {n : Nat} {r : List U8} (h : numberR l = some (n, r)) (rb : Nat) (Hx : List Ent) : RCall Tryz.prog 134 [.p rb 0] (rdr rb l :: Hx) (some (.i n, rdr rb r :: Hx)) Hx wrongA := by
 have := q134 l rb Hx
 rwa [numO, h] at this
theorem q134n {l : List U8} (h : numberR l = none) (rb : Nat) (Hx : List Ent) : RCall Tryz.prog 134 [.p rb 0] (rdr rb l :: Hx) none Hx wrongA := by
 have := q134 l rb Hx
 rwa [numO, h] at this
theorem q164 (l : List U8) (rb : Nat) (Hx : List Ent) : RCall Tryz.prog 164 [.p rb 0] (rdr rb l :: Hx) (manyO l rb Hx) Hx wrongA := by
 refine ACall.mk' (n := 15) Tryz.func164 rfl (by kernel_rfl) rfl rfl (fun B I w0 => ?_)
 refine S2 ?_; refine Oas ?_; refine S4 ?_; refine Omv ?_
 rcases hq : numberR l with _ | ⟨n, r⟩
 ·
  refine OL.rcallN rfl rfl (.mk' rfl rfl rfl rfl rfl) (q134n hq _ _) wrong_c ?_
  exact outP (P := Tryz.prog) (fn := Tryz.f164) wrong_c (.refl _) ⟨by rw [manyO, manyR, hq]; rfl, rfl, rfl⟩
 ·
  refine OL.rcallS rfl rfl rfl (.mk' rfl rfl rfl rfl rfl) (q134s hq _ _) ?_
  refine Oas ?_; refine S4 ?_; refine Omv ?_; refine Omv ?_; refine Onc ?_; refine Ofa ?_; refine Old ?_; refine Oln ?_; refine Ocm ?_
  by_cases hn : n ≤ r.length
  ·
   refine OL.rcallS rfl rfl rfl (.mk' rfl rfl rfl rfl rfl) (q71t (by simp; omega) _) ?_
   refine S4 ?_; refine Omv ?_; refine Oas ?_; refine S3 ?_
   refine r1 2 (rdr rb r :: Hx) ?_
   exact by rw [manyO, manyR, hq]; simp only; rw [if_pos hn]; rfl
  ·
   refine OL.rcallN rfl rfl (.mk' rfl rfl rfl rfl rfl) (q71f (by simp; omega) _) wrong_c ?_
   exact outP (P := Tryz.prog) (fn := Tryz.f164) wrong_c (.cons _ (.refl _)) ⟨by rw [manyO, manyR, hq]; simp only; rw [if_neg hn]; rfl, rfl, rfl⟩
theorem q164s {l : List U8} {n : Nat} {r : List U8} (h : manyR l = some (n, r)) (rb : Nat) (Hx : List Ent) : RCall Tryz.prog 164 [.p rb 0] (rdr rb l :: Hx) (some (.i n, rdr rb r :: Hx)) Hx wrongA := by
 have := q164 l rb Hx
 rwa [manyO, h] at this
theorem q164n {l : List U8} (h : manyR l = none) (rb : Nat) (Hx : List Ent) : RCall Tryz.prog 164 [.p rb 0] (rdr rb l :: Hx) none Hx wrongA := by
 have := q164 l rb Hx
 rwa [manyO, h] at this
theorem q117 (k : U8) (l : List U8) (hl : l.length < 140737488355328) : PCall Tryz.prog 117 [.i k.val, u8s l] (u8s (sumR k l)) := by
 intro H
 refine ACall.mk' (n := 40) Tryz.func117 rfl (by kernel_rfl) rfl rfl (fun B I w0 => ?_)
 have hlen : (k :: l).length = l.length + 1 := rfl
 refine S2 ?_; refine Oas ?_; refine S4 ?_; refine Oas ?_; refine Oas ?_; refine S5 ?_; refine Omv ?_
 refine OL.popC rfl rfl rfl (POp.cv rfl rfl rfl (u8_wrap8 k)) ?_
 refine OL.rowOwn (els := [[u8 k]]) rfl rfl rfl rfl (by first | rfl | simp_all [strip]) rfl rfl rfl rfl rfl rfl rfl (fun v11 => ?_)
 refine Omv ?_
 refine OL.appendC rfl rfl rfl rfl rfl rfl rfl rfl (AVle.refl _) (one_map (fun _ => rfl) l) (fun v => by repeat (first | exact Upd.head _ _ _ | apply Upd.tail)) (by simp; omega) (by simp; omega) (fun v13 => ?_)
 refine OL.le 13 (y := u8s (k :: l)) rfl (AVle.asL _ _) ?_
 refine Oln ?_; refine Omv ?_; refine S3 ?_
 refine lj (fun m st => ∃ j : Nat, st = ⟨[(15, .i j), (14, .i (k :: l).length), (13, u8s (k :: l)), (5, .i (sumP ((k :: l).take j)).1), (6, .i (sumP ((k :: l).take j)).2)], H⟩ ∧ m = (k :: l).length - j ∧ j ≤ (k :: l).length) (⟨0, rfl, rfl, Nat.zero_le _⟩) ?_
 rintro m _ ⟨j, rfl, rfl, hj⟩
 obtain ⟨hb1, hb2⟩ := sumP_lt ((k :: l).take j)
 refine S2 ?_; refine Ocm ?_; refine S3 ?_
 refine CW.cond rfl (fun h0 => ?_) (fun h0 => ?_)
 ·
  replace h0 := nm h0
  have hj' : j < (k :: l).length := Int.ofNat_lt.1 h0
  obtain ⟨x, hx⟩ : ∃ x, x = (k :: l).getD j default := ⟨_, rfl⟩
  have hst := sumP_step hj'
  rw [← hx] at hst
  have hxl := x.isLt
  refine S6 ?_
  refine OL.popC rfl rfl rfl ((by first | exact POp.ixM rfl rfl rfl rfl rfl hj' | exact POp.ixI rfl rfl rfl rfl rfl hj')) ?_
  refine Old ?_; refine Oas ?_; refine S3 ?_
  rw [← hx]
  refine S1 ?_; refine Omv ?_; refine Omv ?_
  refine OL.popC rfl rfl rfl (POp.cv rfl rfl rfl (wrap64 (by omega))) ?_
  refine Oar ?_
  refine OL.popC rfl rfl rfl (POp.div rfl rfl rfl rfl rfl (by decide) (.inr ⟨rfl, tm_sum _ _⟩)) ?_
  refine Oas ?_; refine S3 ?_; refine Omv ?_; refine Omv ?_; refine Oar ?_
  refine OL.popC rfl rfl rfl (POp.div rfl rfl rfl rfl rfl (by decide) (.inr ⟨rfl, tm_sum _ _⟩)) ?_
  refine Oas ?_; refine S4 ?_; refine Oar ?_; refine Omv ?_; refine S1 ?_
  exact ag (⟨j + 1, by rw [hst], rfl, hj'⟩)
 ·
  replace h0 := nm h0
  obtain rfl : j = (k :: l).length := by omega
  rw [List.take_length] at hb1 hb2 ⊢
  refine S7 ?_; refine Omv ?_
  refine OL.popC rfl rfl rfl (POp.shift rfl rfl rfl rfl rfl (by decide) (shr8 _)) ?_
  refine OL.popC rfl rfl rfl (POp.cv rfl rfl rfl (u8_wrap _)) ?_
  refine Omv ?_
  refine OL.popC rfl rfl rfl (POp.cv rfl rfl rfl (u8_wrap _)) ?_
  refine Omv ?_
  refine OL.popC rfl rfl rfl (POp.shift rfl rfl rfl rfl rfl (by decide) (shr8 _)) ?_
  refine OL.popC rfl rfl rfl (POp.cv rfl rfl rfl (u8_wrap _)) ?_
  refine Omv ?_
  refine OL.popC rfl rfl rfl (POp.cv rfl rfl rfl (u8_wrap _)) ?_
  refine OL.popC rfl rfl rfl (POp.row rfl rfl (by first | rfl | simp_all [strip]) rfl rfl rfl rfl rfl rfl) ?_
  refine Oas ?_; refine S3 ?_
  refine r1 4 (H) ?_
  exact ⟨by first | rfl | exact retI (by simp_all) | exact retB (by simp_all) | simp_all, rfl⟩
theorem q87 (l r : List U8) : PCall Tryz.prog 87 [u8s l, u8s r] (.b (l == r)) := by
 intro H
 refine ACall.mk' (n := 10) Tryz.func87 rfl (by kernel_rfl) rfl rfl (fun B I w0 => ?_)
 refine S2 ?_; refine Oas ?_; refine S4 ?_; refine Omv ?_
 refine OL.popC rfl rfl rfl (POp.bytesStr (ns := l.map fun x => (x.val : Int)) rfl (by rw [List.map_map]; rfl) rfl (by kernel_rfl)) ?_
 refine Omv ?_
 refine OL.popC rfl rfl rfl (POp.bytesStr (ns := r.map fun x => (x.val : Int)) rfl (by rw [List.map_map]; rfl) rfl (by kernel_rfl)) ?_
 refine OL.popC rfl rfl rfl (POp.eqS rfl rfl rfl rfl rfl) ?_
 refine Oas ?_; refine S3 ?_
 refine r1 4 (H) ?_
 exact ⟨retB (strOf_eq l r), rfl⟩
theorem q152 (rb : Nat) : PCall Tryz.prog 152 [.p rb 0] (.fn (.func 209) [] [.ptr [.p rb 0]]) := by
 intro H
 refine ACall.mk' (n := 4) Tryz.func152 rfl (by kernel_rfl) rfl rfl (fun B I w0 => ?_)
 refine S2 ?_; refine Obx ?_; refine Oas ?_; refine S4 ?_; refine Omf ?_; refine Oas ?_; refine S3 ?_
 refine r1 2 (H) ?_
 exact ⟨by first | rfl | exact retI (by simp_all) | exact retB (by simp_all) | simp_all, rfl⟩
theorem b209 {B : Nat} (l : List U8) (hl : l.length < 140737488355328) (rb : Nat) {g : Fn} {gs gc : List AV} {J Jx : List Sec → List Ent → Prop} (hg : CbOk B Tryz.prog (.fn g gs gc) secA (secsOf l).1 (fun _ => True) J Jx) (H Hx : List Ent) (hJ : J [] H) :
  BCall B Tryz.prog 209 [.fn g gs gc, .ptr [.p rb 0]] (H ++ ([rdr rb l] ++ Hx)) (fun _ H' => ∃ H1 Hs', H' = H1 ++ (Hs' ++ Hx) ∧ (((secsOf l).2 = true ∧ J (secsOf l).1 H1) ∨ ∃ pre, pre <+: (secsOf l).1 ∧ Jx pre H1))
   (fun y H' => ∃ H1 Hs', H' = H1 ++ (Hs' ++ Hx) ∧ ((secsOf l).2 = false ∧ y = wrongA) ∧ J (secsOf l).1 H1) := by
 refine BCall.of (n := 35) Tryz.func209 rfl (by kernel_rfl) rfl rfl (fun I w0 => ?_)
 refine CW.perm (H' := rdr rb l :: (H ++ Hx)) List.perm_middle ?_
 refine S1 ?_
 refine lj (fun m st => ∃ (pre : List Sec) (l' : List U8) (H1 : List Ent), st = ⟨[(0, .fn g gs gc), (1, .ptr [.p rb 0])], rdr rb l' :: (H1 ++ Hx)⟩ ∧ m = l'.length ∧ J pre H1 ∧ SecAt l pre l') (⟨[], l, H, rfl, rfl, hJ, .begin l⟩) ?_
 rintro m _ ⟨pre, l', H1, rfl, rfl, hJ1, hA⟩
 refine S3 ?_; refine Old ?_; refine Onc ?_; refine Ofa ?_; refine Old ?_; refine Oln ?_; refine Ocm ?_; refine S2 ?_
 refine CW.cond rfl (fun h0 => ?_) (fun h0 => ?_)
 ·
  replace h0 := nm h0
  obtain ⟨k, r, rfl⟩ : ∃ k r, l' = k :: r := by cases l' with | nil => simp at h0 | cons k r => exact ⟨k, r, rfl⟩
  have hkl := k.isLt
  have hlen := hA.len
  simp only [List.length_cons] at hlen
  refine S5 ?_; refine Old ?_
  ·
   refine OL.rcallS rfl rfl rfl (.mk' rfl rfl rfl rfl rfl) (q86c k r rb (H1 ++ Hx)) ?_
   refine OL.popC rfl rfl rfl ((by first | exact POp.ixM rfl rfl rfl rfl rfl (by simp) | exact POp.ixI rfl rfl rfl rfl rfl (by simp))) ?_
   refine Old ?_
   refine OL.popC rfl rfl rfl (POp.cv rfl rfl rfl (wrap64 (by omega))) ?_
   refine Obd ?_
   refine OL.alC rfl rfl rfl rfl (fun b0 => ?_)
   refine Sto ?_; refine S3 ?_
   refine CW.perm (List.Perm.swap _ _ _) ?_
   refine CW.eqH (H' := rdr rb r :: .blk b0 114 [.i k.val, .val (.slice none 0 0), .b false] :: (H1 ++ Hx)) rfl ?_
   rcases hq : manyR r with _ | ⟨n, r1⟩
   ·
    refine CW.dp mixed ?_
    refine DP.anyPan (Hf := .blk b0 114 [.i k.val, .val (.slice none 0 0), .b false] :: (H1 ++ Hx)) 2 0 3 35 rfl (by decide +kernel) (by decide +kernel) (by decide +kernel) (by decide +kernel) (fun env => outP (P := Tryz.prog) (fn := Tryz.f209) (Hf := H1 ++ ([] ++ Hx)) wrong_c (List.sublist_cons_self _ _) (⟨H1, [], rfl, ⟨(hA.fail (by simp) (secR_many hq)).2, rfl⟩, by rw [(hA.fail (by simp) (secR_many hq)).1]; exact hJ1⟩)) ?_
    refine UD.popP rfl rfl rfl rfl ((by first | exact POp.ld1 rfl rfl rfl rfl | (apply POp.ld1H rfl rfl rfl; (case hm => repeat (first | exact .head _ | refine .tail _ ?_)); (case hy => rfl)))) ?_
    refine UD.popP rfl rfl rfl rfl ((by first | exact POp.ld1 rfl rfl rfl rfl | (apply POp.ld1H rfl rfl rfl; (case hm => repeat (first | exact .head _ | refine .tail _ ?_)); (case hy => rfl)))) ?_
    refine UD.panP rfl rfl rfl (.mk' rfl rfl rfl rfl rfl) (q164n hq _ _) wrong_c ?_
    exact UD.nil trivial
   ·
    have hn := manyR_some hq
    refine CW.dp mixed ?_
    refine DP.anyH [⟨2, 18, false⟩] (()) (fun (_ : Unit) (vs : List (Option Value)) => match vs with | [none] => rdr rb r :: .blk b0 114 [.i k.val, .val (.slice none 0 0), .b false] :: (H1 ++ Hx) | _ => rdr rb r1 :: .blk b0 114 [.i k.val, .val (.slice none 0 0), .b false] :: (H1 ++ Hx)) 0 3 35 rfl (by decide +kernel) (by decide +kernel) rfl rfl (by decide +kernel) rfl ?_
    refine UD.popG [[true], [false]] rfl (by decide +kernel) rfl rfl rfl ⟨fun g f => (by first | exact POp.ld1 rfl rfl rfl rfl | (apply POp.ld1H rfl rfl rfl; (case hm => repeat (first | exact .head _ | refine .tail _ ?_)); (case hy => rfl))), fun g f => (by first | exact POp.ld1 rfl rfl rfl rfl | (apply POp.ld1H rfl rfl rfl; (case hm => repeat (first | exact .head _ | refine .tail _ ?_)); (case hy => rfl))), trivial⟩ ?_
    refine UD.popG [[false]] rfl (by decide +kernel) rfl rfl rfl ⟨fun g f => (by first | exact POp.ld1 rfl rfl rfl rfl | (apply POp.ld1H rfl rfl rfl; (case hm => repeat (first | exact .head _ | refine .tail _ ?_)); (case hy => rfl))), trivial⟩ ?_
    refine UD.effG 0 [[false]] rfl rfl rfl (by decide +kernel) rfl rfl rfl ⟨fun g f => FOk.rcall () (.mk' rfl rfl rfl rfl rfl) (q164s hq _ _) (fun _ => rfl), trivial⟩ ?_
    refine UD.nil (fun g f => ?_)
    simp only [CE.vals, List.map_cons, List.map_nil, List.cons_append, List.nil_append]
    refine DP.tailC 3 (by decide +kernel) rfl ?_
    refine OL.eqH (H' := rdr rb r1 :: .blk b0 114 [.i k.val, .val (.slice none 0 0), .b false] :: (H1 ++ Hx)) rfl ?_
    refine OL.rcallS rfl rfl rfl (.mk' rfl rfl rfl rfl rfl) (by have h := q86 r1 n rb (.blk b0 114 [.i k.val, .val (.slice none 0 0), .b false] :: (H1 ++ Hx)); rwa [if_pos hn.1] at h) ?_
    refine Ofa ?_; refine Sto ?_; refine S3 ?_
    rcases Nat.lt_or_ge (r1.drop n).length 4 with h4 | h4
    ·
     refine CW.dp mixed ?_
     refine DP.anyPan (Hf := .blk b0 114 [.i k.val, u8s (r1.take n), .b false] :: (H1 ++ Hx)) 1 0 6 35 rfl (by decide +kernel) (by decide +kernel) (by decide +kernel) (by decide +kernel) (fun env => outP (P := Tryz.prog) (fn := Tryz.f209) (Hf := H1 ++ ([] ++ Hx)) wrong_c (List.sublist_cons_self _ _) (⟨H1, [], rfl, ⟨(hA.fail (by simp) (secR_short hq (by omega))).2, rfl⟩, by rw [(hA.fail (by simp) (secR_short hq (by omega))).1]; exact hJ1⟩)) ?_
     refine UD.popP rfl rfl rfl rfl ((by first | exact POp.ld1 rfl rfl rfl rfl | (apply POp.ld1H rfl rfl rfl; (case hm => repeat (first | exact .head _ | refine .tail _ ?_)); (case hy => rfl)))) ?_
     refine UD.panP rfl rfl rfl (.mk' rfl rfl rfl rfl rfl) (by have h := q86 (r1.drop n) 4 rb (.blk b0 114 [.i k.val, u8s (r1.take n), .b false] :: (H1 ++ Hx)); rwa [if_neg (by omega)] at h) wrong_c ?_
     refine UD.popP rfl rfl rfl rfl ((by first | exact POp.fa rfl rfl rfl rfl | exact POp.faP rfl rfl rfl rfl)) ?_
     refine UD.popP rfl rfl rfl rfl ((by first | exact POp.ld1 rfl rfl rfl rfl | (apply POp.ld1H rfl rfl rfl; (case hm => repeat (first | exact .head _ | refine .tail _ ?_)); (case hy => rfl)))) ?_
     refine UD.popP rfl rfl rfl rfl ((by first | exact POp.fa rfl rfl rfl rfl | exact POp.faP rfl rfl rfl rfl)) ?_
     refine UD.popP rfl rfl rfl rfl ((by first | exact POp.ld1 rfl rfl rfl rfl | (apply POp.ld1H rfl rfl rfl; (case hm => repeat (first | exact .head _ | refine .tail _ ?_)); (case hy => rfl)))) ?_
     exact UD.nil trivial
    ·
     refine CW.dp mixed ?_
     refine DP.anyH [⟨1, 22, false⟩] (()) (fun (_ : Unit) (vs : List (Option Value)) => match vs with | [none] => rdr rb (r1.drop n) :: .blk b0 114 [.i k.val, u8s (r1.take n), .b false] :: (H1 ++ Hx) | _ => rdr rb ((r1.drop n).drop 4) :: .blk b0 114 [.i k.val, u8s (r1.take n), .b false] :: (H1 ++ Hx)) 0 6 35 rfl (by decide +kernel) (by decide +kernel) rfl rfl (by decide +kernel) rfl ?_
     refine UD.popG [[false]] rfl (by decide +kernel) rfl rfl rfl ⟨fun g f => (by first | exact POp.ld1 rfl rfl rfl rfl | (apply POp.ld1H rfl rfl rfl; (case hm => repeat (first | exact .head _ | refine .tail _ ?_)); (case hy => rfl))), trivial⟩ ?_
     refine UD.effG 0 [[false]] rfl rfl rfl (by decide +kernel) rfl rfl rfl ⟨fun g f => FOk.rcall () (.mk' rfl rfl rfl rfl rfl) (by have h := q86 (r1.drop n) 4 rb (.blk b0 114 [.i k.val, u8s (r1.take n), .b false] :: (H1 ++ Hx)); rwa [if_pos h4] at h) (fun _ => rfl), trivial⟩ ?_
     refine UD.popG [[true], [false]] rfl (by decide +kernel) rfl rfl rfl ⟨fun g f => (by first | exact POp.fa rfl rfl rfl rfl | exact POp.faP rfl rfl rfl rfl), fun g f => (by first | exact POp.fa rfl rfl rfl rfl | exact POp.faP rfl rfl rfl rfl), trivial⟩ ?_
     refine UD.popG [[true], [false]] rfl (by decide +kernel) rfl rfl rfl ⟨fun g f => (by first | exact POp.ld1 rfl rfl rfl rfl | (apply POp.ld1H rfl rfl rfl; (case hm => repeat (first | exact .head _ | refine .tail _ ?_)); (case hy => rfl))), fun g f => (by first | exact POp.ld1 rfl rfl rfl rfl | (apply POp.ld1H rfl rfl rfl; (case hm => repeat (first | exact .head _ | refine .tail _ ?_)); (case hy => rfl))), trivial⟩ ?_
     refine UD.popG [[true], [false]] rfl (by decide +kernel) rfl rfl rfl ⟨fun g f => (by first | exact POp.fa rfl rfl rfl rfl | exact POp.faP rfl rfl rfl rfl), fun g f => (by first | exact POp.fa rfl rfl rfl rfl | exact POp.faP rfl rfl rfl rfl), trivial⟩ ?_
     refine UD.popG [[true], [false]] rfl (by decide +kernel) rfl rfl rfl ⟨fun g f => (by first | exact POp.ld1 rfl rfl rfl rfl | (apply POp.ld1H rfl rfl rfl; (case hm => repeat (first | exact .head _ | refine .tail _ ?_)); (case hy => rfl))), fun g f => (by first | exact POp.ld1 rfl rfl rfl rfl | (apply POp.ld1H rfl rfl rfl; (case hm => repeat (first | exact .head _ | refine .tail _ ?_)); (case hy => rfl))), trivial⟩ ?_
     refine UD.nil (fun g f => ?_)
     simp only [CE.vals, List.map_cons, List.map_nil, List.cons_append, List.nil_append]
     refine DP.tailC 6 (by decide +kernel) rfl ?_
     refine OL.eqH (H' := rdr rb ((r1.drop n).drop 4) :: .blk b0 114 [.i k.val, u8s (r1.take n), .b false] :: (H1 ++ Hx)) rfl ?_
     refine OL.popC rfl rfl rfl (POp.call (.mk' rfl rfl rfl rfl rfl) (q117 k (r1.take n) (by rw [List.length_take]; omega))) ?_
     refine OL.popC rfl rfl rfl (POp.call (.mk' rfl rfl rfl rfl rfl) (q87 _ _)) ?_
     refine Ont ?_; refine Ofa ?_; refine Sto ?_; refine S3 ?_
     have hst := secR_good (k := k) hq h4
     have hA' := hA.step hst
     have hlt := secR_len hst
     refine CW.perm (List.Perm.swap _ _ _) ?_
     refine CW.perm (List.perm_append_comm_assoc [_, _] H1 Hx) ?_
     refine S1 ?_; refine Omv ?_
     refine OL.popC rfl rfl rfl ((by first | exact POp.ldA rfl rfl rfl rfl | (apply POp.ldAH rfl rfl rfl; (case hm => exact List.mem_append_right _ (.head _)); (case hy => rfl); (case hn => rfl)))) ?_
     refine OL.vcallC rfl rfl rfl rfl rfl rfl rfl rfl (AVleL.refl _) (hg pre _ H1 (.blk b0 114 [.i k.val, u8s (r1.take n), .b (!((r1.drop n).take 4 == sumR k (r1.take n)))] :: rdr rb ((r1.drop n).drop 4) :: Hx) hA'.pre trivial hJ1) ?_
     rintro y H2 ⟨b, H3, rfl, rfl, hb1, hb2⟩
     refine Ont ?_; refine S2 ?_
     refine CW.cond rfl (fun h1 => ?_) (fun h1 => ?_)
     ·
      replace h1 := nm h1
      refine S4 ?_
      refine Done.retR (rs := []) (H' := H3 ++ ([] ++ Hx)) rfl (.nil) (AVleL.refl _) (by first | exact (List.Sublist.refl H3).append (.cons _ (List.sublist_cons_self _ _)) | exact List.sublist_cons_self _ _) ?_
      exact ⟨H3, [], rfl, .inr ⟨_, hA'.pre, hb2 (by simpa using h1)⟩⟩
     ·
      replace h1 := nm h1
      refine S2 ?_
      refine Done.perm (List.perm_append_comm_assoc [_, _] H3 Hx).symm ?_
      exact ag (⟨pre ++ [_], _, H3, rfl, rfl, hb1 (by simpa using h1), hA'⟩)
 ·
  replace h0 := nm h0
  refine S4 ?_
  obtain rfl : l' = [] := by cases l' with | nil => rfl | cons k r => simp at h0; omega
  refine Done.norR (rs := []) (H' := H1 ++ ([] ++ Hx)) rfl (.nil) (AVleL.refl _) (by first | exact (List.Sublist.refl H3).append (.cons _ (List.sublist_cons_self _ _)) | exact List.sublist_cons_self _ _) ?_
  exact ⟨H1, [], rfl, .inl ⟨hA.stop.2, by rw [hA.stop.1]; exact hJ1⟩⟩
theorem seq209 {B : Nat} (l : List U8) (hl : l.length < 140737488355328) (rb : Nat) : SeqS B Tryz.prog (.fn (.func 209) [] [.ptr [.p rb 0]]) secA (secsOf l).1 [rdr rb l] (fun _ => (secsOf l).2 = true) (fun y => (secsOf l).2 = false ∧ y = wrongA) :=
 fun J Jx f fs cs hg H Hx hJ => VCall.fnB (b209 l hl rb hg H Hx hJ)
abbrev secs (l : List Sec) : AV := .sl 3 (l.map secC)
def collO (l : List U8) (Hx : List Ent) : Option (AV × List Ent) := if (secsOf l).2 = true then some (secs (secsOf l).1, Hx) else none
theorem q208 (l : List U8) (hl : l.length ≤ 1048576) (rb : Nat) (Hx : List Ent) : RCall Tryz.prog 208 [.val (.slice none 0 0), .fn (.func 209) [] [.ptr [.p rb 0]]] (rdr rb l :: Hx) (collO l Hx) Hx wrongA := by
 refine ACall.mkM (n := 13) Tryz.func208 rfl (by kernel_rfl) rfl rfl (fun B I w0 => ?_)
 refine S2 ?_
 refine OL.boxC rfl rfl rfl rfl rfl rfl rfl (fun sb => ?_)
 refine Oas ?_; refine S4 ?_
 refine CW.ownNilB 114 3 0 (.head _ _ _) rfl rfl ?_
 refine S1 ?_; refine Omv ?_; refine S3 ?_
 refine CW.weaken (st' := ⟨[(2, .p sb 0), (6, .fn (.func 209) [] [.ptr [.p rb 0]])], [.own 114 3 (.slice none 0 0), .blk sb 110 [.as (secs []) (.slice none 0 0)]] ++ ([rdr rb l] ++ Hx)⟩) (by repeat (first | exact trivial | refine ⟨rfl, ?_⟩)) (by repeat (first | exact List.Sublist.refl _ | refine List.Sublist.cons _ ?_)) ?_
 refine CW.rangeFuncE (secA) ((secsOf l).1) (fun pre H1 => ∃ v, H1 = [.own 114 3 v, .blk sb 110 [.as (secs pre) v]]) (fun code pre H1 => False) ([.own 114 3 (.slice none 0 0), .blk sb 110 [.as (secs []) (.slice none 0 0)]]) ([rdr rb l]) (Hx) (fun _ => (secsOf l).2 = true) (fun y => (secsOf l).2 = false ∧ y = wrongA) (fun x => [(5, .ptr (secC x)), (2, .p sb 0)]) rfl rfl rfl rfl (seq209 l (by omega) rb) (⟨_, rfl⟩) ?_ ?_ ?_ ?_ ?_
 ·intro l0 I1 w1 x Hy
  refine S1 ?_
  refine OL.alC rfl rfl rfl rfl (fun b1 => ?_)
  refine Sto ?_; refine S1 ?_
  refine Done.freezeP (d := 5) rfl (.head _ _) ?_
  exact fun a w s => ⟨_, rfl, s.weaken (envLe_get (by repeat (first | exact trivial | refine ⟨rfl, ?_⟩))) (.refl _)⟩
 ·intro l0 D0 lp pre x H1 Hy I1 w1 hpre hJ
  obtain ⟨v, rfl⟩ := hJ
  refine S2 ?_; refine Old ?_; refine Ola ?_
  refine OL.popC (x := .sl 3 [secC x]) rfl rfl rfl (POp.row rfl rfl (by first | rfl | simp_all [strip]) rfl rfl rfl rfl rfl rfl) ?_
  refine OL.appendC rfl rfl rfl rfl rfl rfl rfl rfl (AVle.refl _) (rfl) (fun v => by repeat (first | exact Upd.head _ _ _ | apply Upd.tail)) (by have := secs_count l; have := hpre.length_le; simp only [List.length_append, List.length_singleton, List.length_map] at *; omega) (by have := secs_count l; have := hpre.length_le; simp only [List.length_append, List.length_singleton, List.length_map] at *; omega) (fun v11 => ?_)
  refine Sto ?_; refine S2 ?_
  refine Done.eqH (H' := .loop l0 lp _ :: .obj D0 (.deferred (some [])) :: .own 114 3 v11 :: .blk sb 110 [.as (secs (pre ++ [x])) v11] :: Hy) (by rw [show secs (pre ++ [x]) = .sl 3 (pre.map secC ++ [secC x]) by rw [secs, List.map_append]; rfl]; rfl) ?_
  exact Done.roundN (by repeat (first | exact List.Sublist.refl _ | refine List.Sublist.cons _ ?_)) ⟨v11, rfl⟩
 ·intro D0 H1 Hs1 hHn hJ
  obtain ⟨v, rfl⟩ := hJ
  refine S4 ?_; refine Old ?_; refine Oas ?_; refine S3 ?_
  refine Done.retM1 (rs := [.tmp 4]) (H' := Hx) rfl (by repeat (first | exact Del.head _ _ | apply Del.tail)) (.tmp rfl (.nil)) (.cons (AVle.asL _ _) .nil) (by exact .cons _ (.cons _ (List.sublist_append_right _ _))) ?_
  exact by rw [collO, if_pos hHn]; rfl
 ·intro D0 code0 pre H1 Hs1 hpre hJx
  exact hJx.elim
 ·intro D0 y H1 Hs1 hown hJ I v a w s hv
  obtain ⟨v, rfl⟩ := hJ
  obtain ⟨ho, rfl⟩ := hown
  rw [wrong_c.is _ _ _ hv]
  exact outM (P := Tryz.prog) (fn := Tryz.f208) (Hf := Hx) wrong_c (.head _ _) (.cons _ (.cons _ (List.sublist_append_right _ _))) ⟨by rw [collO, ho]; rfl, rfl, rfl⟩ a w s
theorem q151 (l : List U8) (hl : l.length ≤ 1048576) (rb : Nat) (Hx : List Ent) : RCall Tryz.prog 151 [.fn (.func 209) [] [.ptr [.p rb 0]]] (rdr rb l :: Hx) (collO l Hx) Hx wrongA := by
 refine ACall.mk' (n := 5) Tryz.func151 rfl (by kernel_rfl) rfl rfl (fun B I w0 => ?_)
 refine S2 ?_; refine Oas ?_; refine S4 ?_; refine Omv ?_
 cases hok : (secsOf l).2
 ·
  refine OL.rcallN rfl rfl (.mk' rfl rfl rfl rfl rfl) (by have h := q208 l hl rb Hx; rwa [collO, if_neg (by simp [hok])] at h) wrong_c ?_
  exact outP (P := Tryz.prog) (fn := Tryz.f151) wrong_c (.refl _) ⟨by rw [collO, if_neg (by simp [hok])], rfl, rfl⟩
 ·
  refine OL.rcallS rfl rfl rfl (.mk' rfl rfl rfl rfl rfl) (by have h := q208 l hl rb Hx; rwa [collO, if_pos hok] at h) ?_
  refine Oas ?_; refine S3 ?_
  refine r1 2 (Hx) ?_
  exact by rw [collO, if_pos hok]; rfl
def headR (l : List U8) : Prop := 1 < l.length ∧ (l.getD 0 default).val = 67 ∧ ((l.getD 1 default).val = 79 ∨ (l.getD 1 default).val = 80)
instance (l : List U8) : Decidable (headR l) := inferInstanceAs (Decidable (_ ∧ _))
theorem head_b (l : List U8) : (bif bif decide ((l.length : Int) > 1) then (((l.getD (Int.toNat 0) default).val : Int) == 67) else false then bif (((l.getD (Int.toNat 1) default).val : Int) == 79) then true else (((l.getD (Int.toNat 1) default).val : Int) == 80) else false) = decide (headR l) := by
 have e : ∀ (n : Nat) (k : Nat), ((n : Int) == (k : Int)) = (n == k) := fun n k => by
  rw [Bool.eq_iff_iff]; simp; omega
 have e0 : Int.toNat 0 = 0 := rfl
 have e1 : Int.toNat 1 = 1 := rfl
 rw [e0, e1, show (67 : Int) = ((67 : Nat) : Int) by rfl, show (79 : Int) = ((79 : Nat) : Int) by rfl, show (80 : Int) = ((80 : Nat) : Int) by rfl, e, e, e]
 have h1 : decide ((l.length : Int) > 1) = decide (1 < l.length) := by
  rw [Bool.eq_iff_iff]; simp; omega
 rw [h1]
 rw [Bool.eq_iff_iff, decide_eq_true_iff]
 unfold headR
 generalize (l.getD 0 default).val = x
 generalize (l.getD 1 default).val = y
 generalize l.length = n
 by_cases a : 1 < n <;> by_cases b : x = 67 <;> by_cases c : y = 79 <;> by_cases d : y = 80 <;> simp [a, b, c, d]
theorem split_head {l : List U8} (h : headR l) : splitR l = if (secsOf (l.drop 2)).2 = true then some (l.getD 1 default, (secsOf (l.drop 2)).1) else none := by
 obtain ⟨h1, h2, h3⟩ := h
 match l, h1 with
 | a :: m :: r, _ =>
  simp only [splitR, List.getD_cons_zero, List.getD_cons_succ] at h2 h3 ⊢
  by_cases hs : (secsOf r).2 = true
  ·rw [if_pos ⟨h2, h3, hs⟩]; simp only [List.drop_succ_cons, List.drop_zero]; rw [if_pos hs]
  ·rw [if_neg fun h => hs h.2.2]; simp only [List.drop_succ_cons, List.drop_zero]; rw [if_neg hs]
theorem split_no {l : List U8} (h : ¬ headR l) : splitR l = none := by
 match l with
 | [] => rfl
 | [_] => rfl
 | a :: m :: r =>
  simp only [splitR]
  exact if_neg fun ⟨h1, h2, _⟩ => h ⟨by simp, h1, h2⟩
def splitO (l : List U8) (Hx : List Ent) : Option (AV × List Ent) := (splitR l).map fun p => (.tup [u8 p.1, secs p.2], Hx)
theorem q77 (l : List U8) (hl : l.length ≤ 1048576) (Hx : List Ent) : RCall Tryz.prog 77 [u8s l] Hx (splitO l Hx) Hx wrongA := by
 refine ACall.mk' (n := 35) Tryz.func77 rfl (by kernel_rfl) rfl rfl (fun B I w0 => ?_)
 refine S2 ?_; refine Oas ?_; refine Oas ?_; refine S4 ?_; refine Omv ?_; refine Oln ?_; refine Ocm ?_; refine Omv ?_; refine Pmv ?_
 refine OL.guardC rfl rfl rfl rfl rfl rfl (fun hg => (by first | exact POp.ixM rfl rfl (gd hg) rfl rfl (by simp at hg; omega) | exact POp.ixI rfl rfl (gd hg) rfl rfl (by simp at hg; omega))) ?_
 refine Pld ?_; refine Pcm ?_; refine Opk ?_; refine Omv ?_; refine Pmv ?_
 refine OL.guardC rfl rfl rfl rfl rfl rfl (fun hg => (by first | exact POp.ixM rfl rfl (gd hg) rfl rfl (by simp at hg; omega) | exact POp.ixI rfl rfl (gd hg) rfl rfl (by simp at hg; omega))) ?_
 refine Pld ?_; refine Pcm ?_; refine Pmv ?_; refine Pmv ?_
 refine OL.guardC rfl rfl rfl rfl rfl rfl (fun hg => (by first | exact POp.ixM rfl rfl (gd hg) rfl rfl (by simp at hg; omega) | exact POp.ixI rfl rfl (gd hg) rfl rfl (by simp at hg; omega))) ?_
 refine Pld ?_; refine Pcm ?_; refine Ppk ?_; refine Opk ?_
 by_cases hh : headR l
 ·
  refine OL.rcallS rfl rfl rfl (.mk' rfl rfl rfl rfl rfl) (q71t (by rw [head_b]; exact decide_eq_true hh) _) ?_
  refine S3 ?_
  cases hok : (secsOf (l.drop 2)).2
  ·
   refine CW.dp mixed ?_
   refine DP.anyK (X := PanX wrongV Hx) [⟨6, 32, false⟩, ⟨7, 33, false⟩, ⟨8, 34, false⟩] (fun J => match J with | [some v, _, none] => rdr (blkOf v) (l.drop 2) :: Hx | [_, _, some _] => noMem | _ => Hx) (fun q J => match q, J with | 0, [some v, _, _] => .p (blkOf v) 0 | 1, [some v, some _, _] => .fn (.func 209) [] [.ptr [.p (blkOf v) 0]] | 2, [_, _, some _] => secs (secsOf (l.drop 2)).1 | _, _ => .any) 0 9 35 rfl (by decide +kernel) (by decide +kernel) rfl rfl (by decide +kernel) rfl (by rintro I w a ch w' hd hs hw he ⟨rfl, J, j1, j2, j3⟩; exact outP (P := Tryz.prog) (fn := Tryz.f77) (env := []) wrong_c (.refl _) ⟨by rw [splitO, split_head hh, hok]; rfl, rfl, rfl⟩ a w' ⟨hd, hs, J, j1, he.trans j2, j3, fun t x hx => by simp [envGet] at hx⟩) ?_
   refine UD.popK [[true, true, true], [true, true, false], [true, false, false], [false, false, false]] rfl (by decide +kernel) rfl rfl rfl ⟨fun f => POp.move rfl rfl rfl, fun f => POp.move rfl rfl rfl, fun f => POp.move rfl rfl rfl, fun f => POp.move rfl rfl rfl, trivial⟩ ?_
   refine UD.popK [[true, true, true], [true, true, false], [true, false, false], [false, false, false]] rfl (by decide +kernel) rfl rfl rfl ⟨fun f => POp.ixI (l := l) (i := 1) rfl (show aev _ _ = some (true, u8s l) from rfl) rfl rfl rfl (by have := hh.1; constructor <;> omega), fun f => POp.ixI (l := l) (i := 1) rfl (show aev _ _ = some (true, u8s l) from rfl) rfl rfl rfl (by have := hh.1; constructor <;> omega), fun f => POp.ixI (l := l) (i := 1) rfl (show aev _ _ = some (true, u8s l) from rfl) rfl rfl rfl (by have := hh.1; constructor <;> omega), fun f => POp.ixI (l := l) (i := 1) rfl (show aev _ _ = some (true, u8s l) from rfl) rfl rfl rfl (by have := hh.1; constructor <;> omega), trivial⟩ ?_
   refine UD.popK [[true, true, true], [true, true, false], [true, false, false], [false, false, false]] rfl (by decide +kernel) rfl rfl rfl ⟨fun f => (by first | exact POp.ld1 rfl rfl rfl rfl | (apply POp.ld1H rfl rfl rfl; (case hm => repeat (first | exact .head _ | refine .tail _ ?_)); (case hy => rfl))), fun f => (by first | exact POp.ld1 rfl rfl rfl rfl | (apply POp.ld1H rfl rfl rfl; (case hm => repeat (first | exact .head _ | refine .tail _ ?_)); (case hy => rfl))), fun f => (by first | exact POp.ld1 rfl rfl rfl rfl | (apply POp.ld1H rfl rfl rfl; (case hm => repeat (first | exact .head _ | refine .tail _ ?_)); (case hy => rfl))), fun f => (by first | exact POp.ld1 rfl rfl rfl rfl | (apply POp.ld1H rfl rfl rfl; (case hm => repeat (first | exact .head _ | refine .tail _ ?_)); (case hy => rfl))), trivial⟩ ?_
   refine UD.popK [[false, false, false]] rfl (by decide +kernel) rfl rfl rfl ⟨fun f => POp.move rfl rfl rfl, trivial⟩ ?_
   refine UD.popK [[false, false, false]] rfl (by decide +kernel) rfl rfl rfl ⟨fun f => POp.slFrom (xs := l) (n := 2) rfl (show aev _ _ = some (true, u8s l) from rfl) rfl rfl rfl (by have := hh.1; omega), trivial⟩ ?_
   refine UD.popK [[false, false, false]] rfl (by decide +kernel) rfl rfl rfl ⟨fun f => POp.build' rfl rfl (by first | rfl | simp_all [strip]) rfl, trivial⟩ ?_
   refine UD.effK 0 [[false, false, false]] rfl rfl rfl (by decide +kernel) rfl rfl rfl ⟨fun f => ⟨KOk.box rfl rfl rfl rfl (fun _ => rfl) (fun _ => rfl), (by intro v q hq; rcases q with _ | _ | _ | _ | _ | _ | q <;> first | rfl | (cases hq))⟩, trivial⟩ ?_
   refine UD.effK 1 [[true, false, false]] rfl rfl rfl (by decide +kernel) rfl rfl rfl ⟨fun f => ⟨KOk.pop (POp.call (.mk' rfl rfl rfl rfl rfl) (q152 _)) (fun _ => rfl) (fun _ => rfl), (by intro v q hq; rcases q with _ | _ | _ | _ | _ | _ | q <;> first | rfl | (cases hq))⟩, trivial⟩ ?_
   refine UD.effK 2 [[true, true, false]] rfl rfl rfl (by decide +kernel) rfl rfl rfl ⟨fun f => ⟨KOk.pan (.mk' rfl rfl rfl rfl rfl) (by have h := q151 (l.drop 2) (by rw [List.length_drop]; omega) (blkOf (f 32)) Hx; rwa [collO, if_neg (by simp [hok])] at h) wrong_c, (by intro v q hq; rcases q with _ | _ | _ | _ | _ | _ | q <;> first | rfl | (cases hq))⟩, trivial⟩ ?_
   exact UD.nil fun f a w s => (Sat.no s).elim
  ·
   refine CW.dp mixed ?_
   refine DP.anyK (X := noX) [⟨6, 32, false⟩, ⟨7, 33, false⟩, ⟨8, 34, false⟩] (fun J => match J with | [some v, _, none] => rdr (blkOf v) (l.drop 2) :: Hx | _ => Hx) (fun q J => match q, J with | 0, [some v, _, _] => .p (blkOf v) 0 | 1, [some v, some _, _] => .fn (.func 209) [] [.ptr [.p (blkOf v) 0]] | 2, [_, _, some _] => secs (secsOf (l.drop 2)).1 | _, _ => .any) 0 9 35 rfl (by decide +kernel) (by decide +kernel) rfl rfl (by decide +kernel) rfl (fun _ _ _ _ _ _ _ _ _ h => h.elim) ?_
   refine UD.popK [[true, true, true], [true, true, false], [true, false, false], [false, false, false]] rfl (by decide +kernel) rfl rfl rfl ⟨fun f => POp.move rfl rfl rfl, fun f => POp.move rfl rfl rfl, fun f => POp.move rfl rfl rfl, fun f => POp.move rfl rfl rfl, trivial⟩ ?_
   refine UD.popK [[true, true, true], [true, true, false], [true, false, false], [false, false, false]] rfl (by decide +kernel) rfl rfl rfl ⟨fun f => POp.ixI (l := l) (i := 1) rfl (show aev _ _ = some (true, u8s l) from rfl) rfl rfl rfl (by have := hh.1; constructor <;> omega), fun f => POp.ixI (l := l) (i := 1) rfl (show aev _ _ = some (true, u8s l) from rfl) rfl rfl rfl (by have := hh.1; constructor <;> omega), fun f => POp.ixI (l := l) (i := 1) rfl (show aev _ _ = some (true, u8s l) from rfl) rfl rfl rfl (by have := hh.1; constructor <;> omega), fun f => POp.ixI (l := l) (i := 1) rfl (show aev _ _ = some (true, u8s l) from rfl) rfl rfl rfl (by have := hh.1; constructor <;> omega), trivial⟩ ?_
   refine UD.popK [[true, true, true], [true, true, false], [true, false, false], [false, false, false]] rfl (by decide +kernel) rfl rfl rfl ⟨fun f => (by first | exact POp.ld1 rfl rfl rfl rfl | (apply POp.ld1H rfl rfl rfl; (case hm => repeat (first | exact .head _ | refine .tail _ ?_)); (case hy => rfl))), fun f => (by first | exact POp.ld1 rfl rfl rfl rfl | (apply POp.ld1H rfl rfl rfl; (case hm => repeat (first | exact .head _ | refine .tail _ ?_)); (case hy => rfl))), fun f => (by first | exact POp.ld1 rfl rfl rfl rfl | (apply POp.ld1H rfl rfl rfl; (case hm => repeat (first | exact .head _ | refine .tail _ ?_)); (case hy => rfl))), fun f => (by first | exact POp.ld1 rfl rfl rfl rfl | (apply POp.ld1H rfl rfl rfl; (case hm => repeat (first | exact .head _ | refine .tail _ ?_)); (case hy => rfl))), trivial⟩ ?_
   refine UD.popK [[false, false, false]] rfl (by decide +kernel) rfl rfl rfl ⟨fun f => POp.move rfl rfl rfl, trivial⟩ ?_
   refine UD.popK [[false, false, false]] rfl (by decide +kernel) rfl rfl rfl ⟨fun f => POp.slFrom (xs := l) (n := 2) rfl (show aev _ _ = some (true, u8s l) from rfl) rfl rfl rfl (by have := hh.1; omega), trivial⟩ ?_
   refine UD.popK [[false, false, false]] rfl (by decide +kernel) rfl rfl rfl ⟨fun f => POp.build' rfl rfl (by first | rfl | simp_all [strip]) rfl, trivial⟩ ?_
   refine UD.effK 0 [[false, false, false]] rfl rfl rfl (by decide +kernel) rfl rfl rfl ⟨fun f => ⟨KOk.box rfl rfl rfl rfl (fun _ => rfl) (fun _ => rfl), (by intro v q hq; rcases q with _ | _ | _ | _ | _ | _ | q <;> first | rfl | (cases hq))⟩, trivial⟩ ?_
   refine UD.effK 1 [[true, false, false]] rfl rfl rfl (by decide +kernel) rfl rfl rfl ⟨fun f => ⟨KOk.pop (POp.call (.mk' rfl rfl rfl rfl rfl) (q152 _)) (fun _ => rfl) (fun _ => rfl), (by intro v q hq; rcases q with _ | _ | _ | _ | _ | _ | q <;> first | rfl | (cases hq))⟩, trivial⟩ ?_
   refine UD.effK 2 [[true, true, false]] rfl rfl rfl (by decide +kernel) rfl rfl rfl ⟨fun f => ⟨KOk.rcall (.mk' rfl rfl rfl rfl rfl) (by have h := q151 (l.drop 2) (by rw [List.length_drop]; omega) (blkOf (f 32)) Hx; rwa [collO, if_pos hok] at h) (fun _ => rfl) (fun _ => rfl), (by intro v q hq; rcases q with _ | _ | _ | _ | _ | _ | q <;> first | rfl | (cases hq))⟩, trivial⟩ ?_
   refine UD.nil (fun f => ?_)
   simp only [kvals, List.map_cons, List.map_nil, List.cons_append, List.nil_append]
   generalize blkOf (f 32) = rb
   refine DP.tailC 9 (by decide +kernel) rfl ?_
   refine Oas ?_; refine Oas ?_; refine S3 ?_
   refine Done.retR (rs := [.tmp 2, .tmp 3]) (H' := Hx) rfl (.tmp rfl (.tmp rfl (.nil))) (AVleL.refl _) (by repeat (first | exact List.Sublist.refl _ | refine List.Sublist.cons _ ?_)) ?_
   exact by rw [splitO, split_head hh, if_pos hok]; rfl
 ·
  refine OL.rcallN rfl rfl (.mk' rfl rfl rfl rfl rfl) (q71f (by rw [head_b]; exact decide_eq_false hh) _) wrong_c ?_
  exact outP (P := Tryz.prog) (fn := Tryz.f77) wrong_c (.refl _) ⟨by rw [splitO, split_no hh]; rfl, rfl, rfl⟩
theorem assert_wrong (w : World) : (Instr.typeAssert wrongV 20 176 true).run Tryz.prog w = .ok (.tuple #[.agg #[], .bool true]) w := by
 simp [Instr.typeAssert, run_underlying (show Tryz.prog.underlying 176 = some (.struct #[]) by kernel_rfl)]
theorem catch_panicking (b : Nat) (x : Bool) (w : World) (hc : w.cell? ⟨b, 0, none⟩ = some (.bool x)) (hz : w.frozen? ⟨b, 0, none⟩ = false) (hb : b < w.heap.size) :
  CallsDIn (Eng.FW none) 0 Tryz.prog 130 #[.pointer (some ⟨b, 0, none⟩)] (.panicking [{ v := wrongV, recovered := false }]) w fun e u' w' =>
   e = .returned (.tuple #[]) ∧ u' = .panicking [{ v := wrongV, recovered := true }] ∧ w' = (w.alloc (.cells #[] 176)).setCell ⟨b, 0, none⟩ (.bool false) := by
 have hc2 : (w.alloc (.cells #[] 176)).cell? ⟨b, 0, none⟩ = some (.bool x) := by rw [World.cell?_alloc_lt w _ ⟨b, 0, none⟩ hb]; exact hc
 have hz2 : (w.alloc (.cells #[] 176)).frozen? ⟨b, 0, none⟩ = false := by rw [World.frozen?_of_block (Go.RowKit.Below.heap_alloc w _ b hb)]; exact hz
 refine callsDIn_of_wpSIn Tryz.func130 rfl trivial fun c₀ cs hu => ?_
 apply wpSIn_seq
 apply wpSIn_region
 have hta := fun w => assert_wrong w
 simp [wpOpsSIn, go_sem, recoverD, hu, Tryz.ntmps130, Exit.thenS, Eng.FW, hta]
 apply wpSIn_block
 apply wpSIn_seq
 apply wpSIn_region
 simp [wpOpsSIn, go_sem, Exit.thenS]
 refine wpSIn_cond (t := false) (by simp [Act.eval, Array.replicate]) ?_
 simp only [Bool.false_eq_true, if_false]
 apply wpSIn_seq
 apply wpSIn_region
 simp [wpOpsSIn, go_sem, Exit.thenS, hta]
 refine wpSIn_cond (t := true) (by simp [Act.eval, Array.replicate]) ?_
 simp only [if_true]
 apply wpSIn_seq
 apply wpSIn_region
 simp [wpOpsSIn, go_sem, Exit.thenS]
 apply wpSIn_region
 simp [wpOpsSIn, go_sem, hc2, hz2, bodyPostS, results, Tryz.results130, Exit.inBlockS]
theorem catch_idle (b : Nat) (w : World) :
  CallsDIn (Eng.FW none) 0 Tryz.prog 130 #[.pointer (some ⟨b, 0, none⟩)] .returning w fun e u' w' => e = .returned (.tuple #[]) ∧ u' = .returning ∧ w' = w := by
 refine callsDIn_of_wpSIn Tryz.func130 rfl trivial fun c₀ cs hu => ?_
 apply wpSIn_seq
 apply wpSIn_region
 simp [wpOpsSIn, go_sem, recoverD, hu, Tryz.ntmps130, Exit.thenS, Eng.FW]
 apply wpSIn_block
 apply wpSIn_seq
 apply wpSIn_region
 simp [wpOpsSIn, go_sem, Exit.thenS]
 refine wpSIn_cond (t := true) (by simp [Act.eval, Array.replicate]) ?_
 simp only [if_true]
 apply wpSIn_region
 cases c₀
 simp_all [wpOpsSIn, go_sem, bodyPostS, results, Tryz.results130, Exit.inBlockS]
def dfr (tb : Nat) : Deferred := { target := .fn (.func 130) #[.pointer (some ⟨tb, 0, none⟩)], args := #[] }
theorem leave_f66 {B : Nat} {I0 : Imm} {w0 : World} {env : List (Nat × AV)} {tb : Nat} {x : Bool} {H : List Ent} {a : Act} {w : World} {E : AV → List Ent → Prop} (hs : ∃ I, WOk B I w ∧ Ext B I0 w0 I w ∧ HeapOk B I w (.blk tb 4 [.b x] :: H) ∧ EnvOk I w (envGet env) a) (ht : envGet env 2 = some (.p tb 0)) :
  LeavesIn (Eng.FW none) 0 Tryz.prog Tryz.f66 a.tmps (RetP B I0 w0 (fun y H' => y = .b x ∧ H' = H) E) [] .returning w := by
 obtain ⟨I, hw, he, hh, hv⟩ := hs
 obtain ⟨v, h1, h2⟩ := ResOk.res (P := Tryz.prog) (c := ⟨B, I0, w0, 0, []⟩) (st := ⟨env, .blk tb 4 [.b x] :: H⟩) hh hv (fn := Tryz.f66) (rs := [.cell 2 4]) rfl (.cell1 inferInstance ht (.head _) rfl .nil)
 exact ⟨v, h1, I, H, hw, he, hh.tail, .inl ⟨v, _, rfl, h2, rfl, rfl⟩⟩
theorem invoke_dfr (tb : Nat) (w : World) : (invoke (.fn (.func 130) #[.pointer (some ⟨tb, 0, none⟩)]) #[]).run Tryz.prog w = .ok (.enter 130 #[.pointer (some ⟨tb, 0, none⟩)]) w := by
 have : fnOk Tryz.prog 130 = true := by kernel_rfl
 have h := run_callFunc this #[.pointer (some ⟨tb, 0, none⟩)] w
 simp [invoke]
theorem ret_f66 {B : Nat} {I0 : Imm} {w0 : World} {env : List (Nat × AV)} {tb : Nat} {x : Bool} {H : List Ent} {a : Act} {w : World} {E : AV → List Ent → Prop} {n : Nat} (s : Sat ⟨B, I0, w0, n, [dfr tb]⟩ ⟨env, .blk tb 4 [.b x] :: H⟩ a w) (ht : envGet env 2 = some (.p tb 0)) :
  bodyPostDIn (Eng.FW none) 0 Tryz.prog Tryz.f66 (RetP B I0 w0 (fun y H' => y = .b x ∧ H' = H) E) .ret a w := by
 show LeavesIn _ _ _ _ _ _ a.defers .returning w
 rw [s.ds]
 refine leavesIn_cons (f := 130) (args := #[.pointer (some ⟨tb, 0, none⟩)]) (by simp) (by simp [Eng.FW]) (invoke_dfr tb w) (fun _ _ => trivial) ?_
 refine (catch_idle tb w).mono ?_
 rintro e u' w' ⟨rfl, rfl, rfl⟩
 exact leave_f66 s.mem ht
theorem pan_f66 {B : Nat} {I0 : Imm} {w0 : World} {env : List (Nat × AV)} {tb : Nat} {x : Bool} {H : List Ent} {a : Act} {w : World} {E : AV → List Ent → Prop} {n : Nat} (s : Sat ⟨B, I0, w0, n, [dfr tb]⟩ ⟨env, .blk tb 4 [.b x] :: H⟩ a w) (ht : envGet env 2 = some (.p tb 0)) :
  bodyPostDIn (Eng.FW none) 0 Tryz.prog Tryz.f66 (RetP B I0 w0 (fun y H' => y = .b false ∧ H' = H) E) (.panic [{ v := wrongV, recovered := false }]) a w := by
 show LeavesIn _ _ _ _ _ _ a.defers (.panicking [{ v := wrongV, recovered := false }]) w
 rw [s.ds]
 obtain ⟨I, hw, he, hh, hv⟩ := s.mem
 obtain ⟨hB, vs, hb, hr, hni⟩ := hh.ok _ (.head _)
 have hvs : vs = #[.bool x] := by
  have h1 := rel_vals (vs := [.bool x]) hr
  exact Array.toList_inj.1 h1
 subst hvs
 have hlt : tb < w.heap.size := (Array.getElem?_eq_some_iff.1 hb).1
 refine leavesIn_cons (f := 130) (args := #[.pointer (some ⟨tb, 0, none⟩)]) (by simp) (by simp [Eng.FW]) (invoke_dfr tb w) (fun _ _ => trivial) ?_
 refine (catch_panicking tb x w (by rw [cell_of_blk hb]; rfl) (by simp [World.frozen?, hb]) hlt).mono ?_
 rintro e u' w' ⟨rfl, rfl, rfl⟩
 have hw1 := hw.alloc (.cells #[] 176)
 have hh1 := hh.alloc hw (.cells #[] 176)
 have hb1 : (w.alloc (.cells #[] 176)).heap[tb]? = some (.cells #[.bool x] 4 (0, 0)) := by rw [Go.RowKit.Below.heap_alloc w _ tb hlt]; exact hb
 have hk1 := keeps_alloc hw (.cells #[] 176)
 have he1 := he.trans (ext_alloc hw (.cells #[] 176))
 have hv1 := hv.keep hk1
 generalize w.alloc (.cells #[] 176) = w1 at *
 have hset : (w1.setCell ⟨tb, 0, none⟩ (.bool false)).heap[tb]? = some (.cells #[.bool false] 4 (0, 0)) := one_setCell hb1
 have hcell : ∀ b i, I b i → (w1.setCell ⟨tb, 0, none⟩ (.bool false)).cell? ⟨b, i, none⟩ = w1.cell? ⟨b, i, none⟩ := fun b i hI =>
  World.cell?_of_block (a := ⟨b, i, none⟩) (Go.RowKit.Below.heap_setCell _ _ _ _ (fun e => hni i (by rw [← (show b = tb from e)]; exact hI)))
 have hk2 : Keeps I w1 I (w1.setCell ⟨tb, 0, none⟩ (.bool false)) := ⟨fun _ _ h => h, hcell⟩
 have hbel := (Go.RowKit.Below.refl B w1).setCell (p := ⟨tb, 0, none⟩) hB (.bool false)
 exact leave_f66 (x := false) (env := env) ⟨I, ⟨Nat.le_trans hw1.base hbel.size, fun b i hI => by rw [hcell b i hI]; exact hw1.there b i hI⟩, he1.trans ⟨fun _ _ h => h, hcell, hbel⟩,
  hh1.upd (.head _ _ _) hk2 (fun b _ hne => Go.RowKit.Below.heap_setCell _ _ _ _ (fun e => hne (by rw [show b = tb from e]; rfl))) (fun _ _ h => .inl h) ⟨hB, #[.bool false], hset, .cons _ _ _ _ (.val _) .nil, hni⟩ (fun _ h => .inl h), hv1.keep hk2⟩ ht
theorem q66t {g : Fn} {gs gc : List AV} {H H1 : List Ent} (hdo : ∀ B Hy, VCall B Tryz.prog (.fn g gs gc) [] (H ++ Hy) (fun _ H' => H' = H1 ++ Hy) (fun _ _ => False)) :
  ACall Tryz.prog 66 [.fn g gs gc] H (fun x H' => x = .b true ∧ H' = H1) (fun _ _ => False) := by
 refine ACall.mkD (n := 6) Tryz.func66 rfl (by kernel_rfl) rfl rfl (fun B I w0 => ?_)
 refine S2 ?_
 refine OL.alC rfl rfl rfl rfl (fun tb => ?_)
 refine S4 ?_; refine Omf ?_
 refine OL.deferC (vs := [.pointer (some ⟨tb, 0, none⟩)]) rfl rfl rfl rfl rfl rfl ?_
 refine S3 ?_
 refine CW.perm (List.perm_append_singleton _ _).symm ?_
 refine S1 ?_; refine Omv ?_
 refine OL.vcallC rfl rfl rfl rfl rfl rfl rfl rfl (AVleL.refl _) (hdo B [.blk tb 4 [.b false]]) ?_
 rintro y _ rfl
 refine S3 ?_
 refine CW.perm (List.perm_append_singleton _ _) ?_
 refine S1 ?_; refine Sto ?_; refine S3 ?_
 intro a w s
 exact ret_f66 s rfl
theorem q66f {g : Fn} {gs gc : List AV} {H Hf : List Ent} (hdo : ∀ B Hy, VCall B Tryz.prog (.fn g gs gc) [] (H ++ Hy) (fun _ _ => False) (fun y H' => y = wrongA ∧ H' = Hf ++ Hy)) :
  ACall Tryz.prog 66 [.fn g gs gc] H (fun x H' => x = .b false ∧ H' = Hf) (fun _ _ => False) := by
 refine ACall.mkD (n := 6) Tryz.func66 rfl (by kernel_rfl) rfl rfl (fun B I w0 => ?_)
 refine S2 ?_
 refine OL.alC rfl rfl rfl rfl (fun tb => ?_)
 refine S4 ?_; refine Omf ?_
 refine OL.deferC (vs := [.pointer (some ⟨tb, 0, none⟩)]) rfl rfl rfl rfl rfl rfl ?_
 refine S3 ?_
 refine CW.perm (List.perm_append_singleton _ _).symm ?_
 refine S1 ?_; refine Omv ?_
 refine OL.vcall rfl rfl rfl rfl rfl rfl rfl (AVleL.refl _) (hdo B [.blk tb 4 [.b false]]) (fun _ _ h => h.elim) ?_
 rintro y H2 ⟨rfl, rfl⟩ a w s I v hv
 rw [wrong_c.is _ _ _ hv]
 exact pan_f66 (s.perm (List.perm_append_singleton _ _)) rfl
theorem splitO_len {l : List U8} {p : U8 × List Sec} (h : splitR l = some p) : p.2.length ≤ l.length := by
 unfold splitR at h
 split at h
 ·split at h
  ·cases h; have := secs_count ‹_›; simp only [List.length_cons]; omega
  ·cases h
 ·cases h
theorem q76 (l : List U8) (hl : l.length ≤ 1048576) (lb : Nat) (x : AV) (Hx : List Ent) : RCall Tryz.prog 76 [.ptr [u8s l], .p lb 0] (.blk lb 110 [x] :: Hx) ((splitR l).map fun p => (.tup [], .blk lb 110 [secs p.2] :: Hx)) (.blk lb 110 [x] :: Hx) wrongA := by
 refine ACall.mk' (n := 7) Tryz.func76 rfl (by kernel_rfl) rfl rfl (fun B I w0 => ?_)
 refine S1 ?_; refine Old ?_
 rcases hq : splitR l with _ | p
 ·
  refine OL.rcallN rfl rfl (.mk' rfl rfl rfl rfl rfl) (by have h := q77 l hl (.blk lb 110 [x] :: Hx); rwa [splitO, hq] at h) wrong_c ?_
  exact outP (P := Tryz.prog) (fn := Tryz.f76) wrong_c (.refl _) ⟨rfl, rfl, rfl⟩
 ·
  refine OL.rcallS rfl rfl rfl (.mk' rfl rfl rfl rfl rfl) (by have h := q77 l hl (.blk lb 110 [x] :: Hx); rwa [splitO, hq] at h) ?_
  refine Omv ?_; refine Oex ?_; refine Oex ?_; refine Sto ?_; refine S1 ?_
  refine Done.norR (rs := []) (H' := .blk lb 110 [secs p.2] :: Hx) rfl (.nil) (AVleL.refl _) (by repeat (first | exact List.Sublist.refl _ | refine List.Sublist.cons _ ?_)) ?_
  exact rfl
def sectA (l : List U8) : AV := match splitR l with
 | none => .tup [.sl 1 [], .sl 1 [], .i 4]
 | some p => .tup [.sl 1 (kindsP p.2), damA p.2 p.2.length, .i 0]
theorem q23 (l : List U8) (hl : l.length ≤ 1048576) : PCall Tryz.prog 23 [u8s l] (sectA l) := by
 intro H
 refine ACall.mk' (n := 32) Tryz.func23 rfl (by kernel_rfl) rfl rfl (fun B I w0 => ?_)
 refine S2 ?_; refine Obx ?_; refine Oas ?_; refine Oas ?_; refine Oas ?_; refine S4 ?_
 refine OL.alC rfl rfl rfl rfl (fun lb => ?_)
 refine S5 ?_; refine Omf ?_
 rcases hq : splitR l with _ | ⟨mk, L⟩
 ·
  refine OL.bcallC rfl rfl rfl (.mk' rfl rfl rfl rfl rfl) (q66f (H := .blk lb 110 [.val (.slice none 0 0)] :: H) (Hf := .blk lb 110 [.val (.slice none 0 0)] :: H) (fun B Hy => RCall.vN (by have h := q76 l hl lb (.val (.slice none 0 0)) (H ++ Hy); rwa [hq] at h))).b ?_
  rintro y _ ⟨rfl, rfl⟩
  refine Ont ?_; refine S2 ?_
  refine CW.cond rfl (fun h0 => ?_) (fun h0 => ?_)
  ·
   replace h0 := nm h0
   refine S2 ?_; refine Oas ?_; refine Oas ?_; refine Oas ?_; refine S4 ?_
   refine Done.retR (rs := [.tmp 2, .tmp 3, .tmp 4]) (H' := H) rfl (.tmp rfl (.tmp rfl (.tmp rfl (.nil)))) (.cons (AVle.nil 1) (.cons (AVle.nil 1) (.cons (.refl _) .nil))) (by repeat (first | exact List.Sublist.refl _ | refine List.Sublist.cons _ ?_)) ?_
   exact ⟨by rw [sectA, hq]; rfl, rfl⟩
  ·
   cases h0
 ·
  have hL := splitO_len hq
  replace hL : L.length ≤ l.length := hL
  refine OL.bcallC rfl rfl rfl (.mk' rfl rfl rfl rfl rfl) (q66t (H := .blk lb 110 [.val (.slice none 0 0)] :: H) (H1 := .blk lb 110 [secs L] :: H) (fun B Hy => RCall.vS (by have h := q76 l hl lb (.val (.slice none 0 0)) (H ++ Hy); rwa [hq] at h))).b ?_
  rintro y _ ⟨rfl, rfl⟩
  refine Ont ?_; refine S2 ?_
  refine CW.cond rfl (fun h1 => ?_) (fun h1 => ?_)
  ·
   cases h1
  ·
   refine S4 ?_
   refine CW.ownNil 2 48 1 rfl ?_
   refine CW.ownNil 3 3 1 rfl ?_
   refine S1 ?_; refine Old ?_; refine Oln ?_; refine Omv ?_; refine S3 ?_
   refine lj (fun m st => ∃ (i : Nat) (v2 v3 : Value), st = ⟨[(13, .i i), (12, .i L.length), (11, secs L), (2, .as (.sl 1 (kindsP (L.take i))) v2), (3, .as (damA L i) v3)], .own 3 1 v3 :: .own 48 1 v2 :: .blk lb 110 [secs L] :: H⟩ ∧ m = L.length - i ∧ i ≤ L.length) (⟨0, _, _, rfl, rfl, Nat.zero_le _⟩) ?_
   rintro m _ ⟨i, v2, v3, rfl, rfl, hi⟩
   refine S2 ?_; refine Ocm ?_; refine S3 ?_
   refine CW.cond rfl (fun h2 => ?_) (fun h2 => ?_)
   ·
    replace h2 := nm h2
    have hil : i < L.length := by omega
    obtain ⟨x, hx⟩ : ∃ x, x = L.getD i default := ⟨_, rfl⟩
    refine S6 ?_; refine Omv ?_
    refine OL.popC rfl rfl rfl ((by first | exact POp.ixM rfl rfl rfl rfl rfl hil | exact POp.ixI rfl rfl rfl rfl rfl hil)) ?_
    refine Ola ?_
    refine OL.alC rfl rfl rfl rfl (fun b1 => ?_)
    refine Oas ?_; refine Sto ?_; refine S3 ?_
    rw [← hx]
    refine S1 ?_; refine Omv ?_; refine Ofa ?_; refine Old ?_
    refine OL.popC (x := .sl 1 [[.i x.kind.val]]) rfl rfl rfl (POp.row rfl rfl (by first | rfl | simp_all [strip]) rfl rfl rfl rfl rfl rfl) ?_
    refine OL.appendC rfl rfl rfl rfl rfl rfl rfl rfl (AVle.refl _) (rfl) (fun v => by repeat (first | exact Upd.head _ _ _ | apply Upd.tail)) (by have := dam_len L i; simp only [kinds_len, List.length_map, List.length_take, List.length_singleton, List.length_cons, List.length_nil] at *; omega) (by have := dam_len L i; simp only [kinds_len, List.length_map, List.length_take, List.length_singleton, List.length_cons, List.length_nil] at *; omega) (fun v22 => ?_)
    refine Oas ?_; refine S4 ?_; refine Ofa ?_; refine Old ?_; refine S2 ?_
    refine CW.cond rfl (fun h3 => ?_) (fun h3 => ?_)
    ·
     replace h3 := nm h3
     refine S1 ?_; refine Omv ?_; refine Omv ?_
     refine OL.popC (x := .sl 1 [[.i i]]) rfl rfl rfl (POp.row rfl rfl (by first | rfl | simp_all [strip]) rfl rfl rfl rfl rfl rfl) ?_
     refine OL.appendC rfl rfl rfl rfl rfl rfl rfl rfl (AVle.refl _) (rfl) (fun v => by repeat (first | exact Upd.head _ _ _ | apply Upd.tail)) (by have := dam_len L i; simp only [kinds_len, List.length_map, List.length_take, List.length_singleton, List.length_cons, List.length_nil] at *; omega) (by have := dam_len L i; simp only [kinds_len, List.length_map, List.length_take, List.length_singleton, List.length_cons, List.length_nil] at *; omega) (fun v28 => ?_)
     refine Oas ?_; refine S4 ?_; refine Oar ?_; refine Omv ?_; refine S1 ?_
     exact ag (⟨i + 1, v22, v28, by rw [kinds_snoc hil, ← hx, damA, dam_yes (by rw [← hx]; exact h3)], rfl, hil⟩)
    ·
     replace h3 := nm h3
     refine S4 ?_; refine Oar ?_; refine Omv ?_; refine S1 ?_
     exact ag (⟨i + 1, v22, v3, by rw [kinds_snoc hil, ← hx, damA, dam_no (by rw [← hx]; exact h3)], rfl, hil⟩)
   ·
    replace h2 := nm h2
    obtain rfl : i = L.length := by omega
    rw [List.take_length]
    refine S7 ?_; refine Omv ?_; refine Omv ?_; refine Oas ?_; refine Oas ?_; refine Oas ?_; refine S3 ?_
    refine Done.retR (rs := [.tmp 2, .tmp 3, .tmp 4]) (H' := H) rfl (.tmp rfl (.tmp rfl (.tmp rfl (.nil)))) (.cons (AVle.asL _ _) (.cons (AVle.asL _ _) (.cons (.refl _) .nil))) (by repeat (first | exact List.Sublist.refl _ | refine List.Sublist.cons _ ?_)) ?_
    exact ⟨by rw [sectA, hq]; rfl, rfl⟩
abbrev rr (rb : Nat) (l : List U8) (at_ : Nat) (bad : Bool) : Ent := .blk rb 135 [u8s l, .i at_, .b bad]
theorem q168 (rb : Nat) (l : List U8) (i : Nat) (bad : Bool) (Hx : List Ent)  : RCall Tryz.prog 168 [.p rb 0] (rr rb l i bad :: Hx) (some (.i 0, rr rb l i true :: Hx)) [] wrongA := by
 refine ACall.mk' (n := 6) Tryz.func168 rfl (by kernel_rfl) rfl rfl (fun B I w0 => ?_)
 refine S2 ?_; refine Oas ?_; refine S4 ?_; refine Omv ?_; refine Onc ?_; refine Ofa ?_; refine Sto ?_; refine S4 ?_; refine Oas ?_; refine S3 ?_
 refine r1 2 (rr rb l i true :: Hx) ?_
 exact rfl
theorem q153f (rb : Nat) (l : List U8) (i : Nat) (hi : i ≤ 1048576) (bad : Bool) (h : bad = true ∨ l.length ≤ i) (Hx : List Ent)  : RCall Tryz.prog 153 [.p rb 0] (rr rb l i bad :: Hx) (some (.i 0, rr rb l i true :: Hx)) [] wrongA := by
 refine ACall.mk' (n := 40) Tryz.func153 rfl (by kernel_rfl) rfl rfl (fun B I w0 => ?_)
 refine S2 ?_; refine Oas ?_; refine S4 ?_
 refine CW.dp mixed ?_
 refine DP.one (k := 0) (by decide +kernel) rfl ?_
 refine Omv ?_
 refine OL.nil (Done.dp ?_)
 refine DP.one (k := 1) (by decide +kernel) rfl ?_
 refine Onc ?_
 refine OL.nil (Done.dp ?_)
 refine DP.one (k := 2) (by decide +kernel) rfl ?_
 refine Ofa ?_
 refine OL.nil (Done.dp ?_)
 refine DP.one (k := 3) (by decide +kernel) rfl ?_
 refine Old ?_
 refine OL.nil (Done.dp ?_)
 refine DP.one (k := 4) (by decide +kernel) rfl ?_
 refine Omv ?_
 refine OL.nil (Done.dp ?_)
 refine DP.anyC 5 14 40 rfl (by decide +kernel) rfl rfl (by decide +kernel) ?_
 refine AD.guardC rfl rfl rfl rfl rfl (fun hg => POp.move rfl rfl rfl) ?_
 refine AD.guardC rfl rfl rfl rfl rfl (fun hg => (by first | exact POp.nilCheck rfl rfl (gd hg) | exact POp.nilCheckP rfl rfl (gd hg) | exact POp.nilCheckF rfl rfl (gd hg))) ?_
 refine AD.guardC rfl rfl rfl rfl rfl (fun hg => (by first | exact POp.fa rfl rfl (gd hg) rfl | exact POp.faP rfl rfl (gd hg) rfl)) ?_
 refine AD.guardC rfl rfl rfl rfl rfl (fun hg => (by first | exact POp.ld1 rfl rfl (gd hg) rfl | (apply POp.ld1H rfl rfl (gd hg); (case hm => repeat (first | exact .head _ | refine .tail _ ?_)); (case hy => rfl)))) ?_
 refine AD.guardC rfl rfl rfl rfl rfl (fun hg => POp.move rfl rfl rfl) ?_
 refine AD.guardC rfl rfl rfl rfl rfl (fun hg => (by first | exact POp.nilCheck rfl rfl (gd hg) | exact POp.nilCheckP rfl rfl (gd hg) | exact POp.nilCheckF rfl rfl (gd hg))) ?_
 refine AD.guardC rfl rfl rfl rfl rfl (fun hg => (by first | exact POp.fa rfl rfl (gd hg) rfl | exact POp.faP rfl rfl (gd hg) rfl)) ?_
 refine AD.guardC rfl rfl rfl rfl rfl (fun hg => (by first | exact POp.ld1 rfl rfl (gd hg) rfl | (apply POp.ld1H rfl rfl (gd hg); (case hm => repeat (first | exact .head _ | refine .tail _ ?_)); (case hy => rfl)))) ?_
 refine AD.guardC rfl rfl rfl rfl rfl (fun hg => (by first | exact POp.lenM rfl rfl (gd hg) | exact POp.lenA rfl rfl (gd hg) | exact POp.lenV rfl rfl (gd hg) | exact POp.len' rfl rfl (gd hg))) ?_
 refine AD.nil ?_
 refine DP.tailC 14 (by decide +kernel) rfl ?_
 refine Pcm ?_; refine Opk ?_; refine S2 ?_
 refine CW.cond rfl (fun h0 => ?_) (fun h0 => ?_)
 ·
  replace h0 := nm h0
  refine S2 ?_; refine Omv ?_
  ·
   refine OL.rcallS rfl rfl rfl (.mk' rfl rfl rfl rfl rfl) (q168 rb l i bad Hx) ?_
   refine Oas ?_; refine S4 ?_
   refine r1 2 (rr rb l i true :: Hx) ?_
   exact rfl
 ·
  exfalso
  rcases h with rfl | h
  ·simp at h0
  ·simp at h0
   omega
theorem q153s (rb : Nat) (l : List U8) (i : Nat) (hl : l.length ≤ 1048576) (hi : i < l.length) (Hx : List Ent)  : RCall Tryz.prog 153 [.p rb 0] (rr rb l i false :: Hx) (some (.i (l.getD i default).val, rr rb l (i + 1) false :: Hx)) [] wrongA := by
 refine ACall.mk' (n := 40) Tryz.func153 rfl (by kernel_rfl) rfl rfl (fun B I w0 => ?_)
 refine S2 ?_; refine Oas ?_; refine S4 ?_
 refine CW.dp mixed ?_
 refine DP.one (k := 0) (by decide +kernel) rfl ?_
 refine Omv ?_
 refine OL.nil (Done.dp ?_)
 refine DP.one (k := 1) (by decide +kernel) rfl ?_
 refine Onc ?_
 refine OL.nil (Done.dp ?_)
 refine DP.one (k := 2) (by decide +kernel) rfl ?_
 refine Ofa ?_
 refine OL.nil (Done.dp ?_)
 refine DP.one (k := 3) (by decide +kernel) rfl ?_
 refine Old ?_
 refine OL.nil (Done.dp ?_)
 refine DP.one (k := 4) (by decide +kernel) rfl ?_
 refine Omv ?_
 refine OL.nil (Done.dp ?_)
 refine DP.anyC 5 14 40 rfl (by decide +kernel) rfl rfl (by decide +kernel) ?_
 refine AD.guardC rfl rfl rfl rfl rfl (fun hg => POp.move rfl rfl rfl) ?_
 refine AD.guardC rfl rfl rfl rfl rfl (fun hg => (by first | exact POp.nilCheck rfl rfl (gd hg) | exact POp.nilCheckP rfl rfl (gd hg) | exact POp.nilCheckF rfl rfl (gd hg))) ?_
 refine AD.guardC rfl rfl rfl rfl rfl (fun hg => (by first | exact POp.fa rfl rfl (gd hg) rfl | exact POp.faP rfl rfl (gd hg) rfl)) ?_
 refine AD.guardC rfl rfl rfl rfl rfl (fun hg => (by first | exact POp.ld1 rfl rfl (gd hg) rfl | (apply POp.ld1H rfl rfl (gd hg); (case hm => repeat (first | exact .head _ | refine .tail _ ?_)); (case hy => rfl)))) ?_
 refine AD.guardC rfl rfl rfl rfl rfl (fun hg => POp.move rfl rfl rfl) ?_
 refine AD.guardC rfl rfl rfl rfl rfl (fun hg => (by first | exact POp.nilCheck rfl rfl (gd hg) | exact POp.nilCheckP rfl rfl (gd hg) | exact POp.nilCheckF rfl rfl (gd hg))) ?_
 refine AD.guardC rfl rfl rfl rfl rfl (fun hg => (by first | exact POp.fa rfl rfl (gd hg) rfl | exact POp.faP rfl rfl (gd hg) rfl)) ?_
 refine AD.guardC rfl rfl rfl rfl rfl (fun hg => (by first | exact POp.ld1 rfl rfl (gd hg) rfl | (apply POp.ld1H rfl rfl (gd hg); (case hm => repeat (first | exact .head _ | refine .tail _ ?_)); (case hy => rfl)))) ?_
 refine AD.guardC rfl rfl rfl rfl rfl (fun hg => (by first | exact POp.lenM rfl rfl (gd hg) | exact POp.lenA rfl rfl (gd hg) | exact POp.lenV rfl rfl (gd hg) | exact POp.len' rfl rfl (gd hg))) ?_
 refine AD.nil ?_
 refine DP.tailC 14 (by decide +kernel) rfl ?_
 refine Pcm ?_; refine Opk ?_; refine S2 ?_
 refine CW.cond rfl (fun h0 => ?_) (fun h0 => ?_)
 ·
  exfalso
  simp at h0
  omega
 ·
  replace h0 := nm h0
  refine S4 ?_; refine Omv ?_; refine Onc ?_; refine Ofa ?_; refine Old ?_; refine Oar ?_; refine Onc ?_; refine Ofa ?_; refine Sto ?_; refine S3 ?_
  refine CW.dp mixed ?_
  refine DP.anyC 0 9 40 rfl (by decide +kernel) rfl rfl (by decide +kernel) ?_
  refine Amv ?_; refine Anc ?_; refine Afa ?_; refine Ald ?_; refine Amv ?_; refine Anc ?_; refine Afa ?_; refine Ald ?_; refine Aar ?_
  refine AD.nil ?_
  refine DP.tailC 9 (by decide +kernel) rfl ?_
  refine Oix ?_; refine Old ?_
  refine OL.popC rfl rfl rfl (POp.cv rfl rfl rfl (wrap64 (by have := (l.getD i default).isLt; omega))) ?_
  refine Oas ?_; refine S3 ?_
  refine r1 2 (rr rb l (i + 1) false :: Hx) ?_
  exact by rw [show (↑i + 1 - 1 : Int).toNat = i by omega]; rfl
theorem q153 (rb : Nat) (l : List U8) (i : Nat) (hl : l.length ≤ 1048576) (hi : i ≤ 1048576) {c a : Nat} {b : Bool} (hb : byteR l i = (c, a, b)) (Hx : List Ent) : RCall Tryz.prog 153 [.p rb 0] (rr rb l i false :: Hx) (some (.i c, rr rb l a b :: Hx)) [] wrongA := by
 rcases Nat.lt_or_ge i l.length with h | h
 ·rw [byteR_in h] at hb; cases hb; exact q153s rb l i hl h Hx
 ·rw [byteR_out h] at hb; cases hb; exact q153f rb l _ hi false (.inr h) Hx
theorem q167 (rb : Nat) (l : List U8) (i : Nat) (hl : l.length ≤ 1048576) (hi : i ≤ l.length) (Hx : List Ent)  : RCall Tryz.prog 167 [.p rb 0] (rr rb l i false :: Hx) (some (.i (numV (l.drop i)), rr rb l (i + numF 5 (l.drop i)) (numberR (l.drop i)).isNone :: Hx)) [] wrongA := by
 refine ACall.mk' (n := 34) Tryz.func167 rfl (by kernel_rfl) rfl rfl (fun B I w0 => ?_)
 refine S2 ?_; refine Oas ?_; refine S4 ?_; refine Oas ?_; refine Oas ?_; refine S5 ?_; refine Oas ?_; refine S3 ?_
 refine lj (fun m st => ∃ k n : Nat, st = ⟨[(3, .i n), (4, .i (128 ^ k : Nat)), (5, .i k), (0, .p rb 0)], rr rb l (i + k) false :: Hx⟩ ∧ m = 5 - k ∧ i + k ≤ l.length ∧ NumAt (l.drop i) k n (l.drop (i + k)) ∧ NumPos (l.drop i) k (l.drop (i + k))) (⟨0, 0, rfl, rfl, hi, .begin _, .begin _⟩) ?_
 rintro m _ ⟨k, n, rfl, rfl, hik, hN, hP⟩
 have hle := hN.le
 have hlt := hN.lt
 refine S3 ?_; refine Omv ?_; refine Ocm ?_; refine S2 ?_
 refine CW.cond rfl (fun h0 => ?_) (fun h0 => ?_)
 ·
  replace h0 := nm h0
  have hk : k < 5 := by omega
  have hp := p128_le hk
  refine S6 ?_; refine Omv ?_
  obtain ⟨c, a, b, hb⟩ : ∃ c a b, byteR l (i + k) = (c, a, b) := ⟨_, _, _, rfl⟩
  have hc := byteR_lt l (i + k)
  rw [hb] at hc
  replace hc : c < 256 := hc
  have hc2 : c % 128 < 128 := Nat.mod_lt _ (by decide)
  ·
   refine OL.rcallS rfl rfl rfl (.mk' rfl rfl rfl rfl rfl) (q153 rb l (i + k) hl (by omega) hb Hx) ?_
   refine Oas ?_; refine S3 ?_
   have hml : 128 ^ k * (c % 128) ≤ 268435456 * 127 := Nat.mul_le_mul hp (by omega)
   refine S1 ?_; refine Omv ?_; refine Omv ?_
   refine OL.popC rfl rfl rfl (POp.div rfl rfl rfl rfl rfl (by decide) (.inr ⟨rfl, tm128n c⟩)) ?_
   refine Omv ?_
   refine OL.popC rfl rfl rfl (POp.arith rfl rfl rfl rfl rfl rfl (mulK hc2 hk)) ?_
   refine OL.popC rfl rfl rfl (POp.arith rfl rfl rfl rfl rfl rfl (addK (by omega))) ?_
   refine Oas ?_; refine S4 ?_; refine Omv ?_
   refine OL.popC rfl rfl rfl (POp.arith rfl rfl rfl rfl rfl rfl (mul128 hk)) ?_
   refine Oas ?_; refine S4 ?_; refine Omv ?_; refine Ocm ?_; refine S2 ?_
   refine CW.cond rfl (fun h1 => ?_) (fun h1 => ?_)
   ·
    replace h1 := nm h1
    have h1c : c < 128 := Int.ofNat_lt.1 h1
    refine S3 ?_; refine Omv ?_; refine Ocm ?_; refine Omv ?_; refine Pmv ?_; refine Pcm ?_; refine Opk ?_; refine S2 ?_
    refine CW.cond rfl (fun h2 => ?_) (fun h2 => ?_)
    ·
     have h2c : 0 < k ∧ c = 0 := by simp at h2; omega
     obtain ⟨z1, z2, z3⟩ := ref_bad hb hk hN hP h1c h2c.1 h2c.2
     refine S2 ?_; refine Omv ?_
     ·
      refine OL.rcallS rfl rfl rfl (.mk' rfl rfl rfl rfl rfl) (q168 rb l a b Hx) ?_
      refine Oas ?_; refine S9 ?_
      refine r1 2 (rr rb l a true :: Hx) ?_
      rw [z1, ← z2, z3]; rfl
    ·
     have h2c : ¬ (0 < k ∧ c = 0) := by simp at h2; omega
     obtain ⟨z1, z2, z3⟩ := ref_good hb hk hN hP h1c h2c
     refine S4 ?_; refine Omv ?_; refine Oas ?_; refine S8 ?_
     refine r1 2 (rr rb l a b :: Hx) ?_
     rw [z1, ← z2, z3]; rfl
   ·
    replace h1 := nm h1
    have h1c : ¬ c < 128 := fun h => absurd (Int.ofNat_lt.2 h) (by simpa using h1)
    refine S4 ?_; refine Omv ?_; refine Oar ?_; refine Oas ?_; refine S1 ?_
    obtain ⟨rfl, rfl, z1, z2, z3⟩ := ref_more hb hk hN hP h1c
    exact ag (⟨k + 1, _, rfl, rfl, z1, z2, z3⟩)
 ·
  replace h0 := nm h0
  obtain ⟨z1, z2, z3⟩ := ref_long (by omega) hN hP
  refine S7 ?_; refine Omv ?_
  ·
   refine OL.rcallS rfl rfl rfl (.mk' rfl rfl rfl rfl rfl) (q168 rb l (i + k) false Hx) ?_
   refine Oas ?_; refine S3 ?_
   refine r1 2 (rr rb l (i + k) true :: Hx) ?_
   rw [z1, ← z2, z3]; rfl
theorem q97 (rb : Nat) (l : List U8) (i : Nat) (hl : l.length ≤ 1048576) (hi : i ≤ l.length) (Hx : List Ent)  : RCall Tryz.prog 97 [.p rb 0] (rr rb l i false :: Hx) (some (.i (manyV (l.drop i)), rr rb l (i + numF 5 (l.drop i)) (manyR (l.drop i)).isNone :: Hx)) [] wrongA := by
 refine ACall.mk' (n := 21) Tryz.func97 rfl (by kernel_rfl) rfl rfl (fun B I w0 => ?_)
 refine S2 ?_; refine Oas ?_; refine S4 ?_; refine Omv ?_
 have hv := numV_lt (l.drop i)
 have hf := numF_le 5 (l.drop i)
 rw [List.length_drop] at hf
 ·
  refine OL.rcallS rfl rfl rfl (.mk' rfl rfl rfl rfl rfl) (q167 rb l i hl hi Hx) ?_
  refine Oas ?_; refine S4 ?_
  refine CW.dp mixed ?_
  refine DP.anyC 0 11 21 rfl (by decide +kernel) rfl rfl (by decide +kernel) ?_
  refine Amv ?_; refine Amv ?_; refine Anc ?_; refine Afa ?_; refine Ald ?_; refine Aln ?_; refine Amv ?_; refine Anc ?_; refine Afa ?_; refine Ald ?_; refine Aar ?_
  refine AD.nil ?_
  refine DP.tailC 11 (by decide +kernel) rfl ?_
  refine Ocm ?_; refine S2 ?_
  refine CW.cond rfl (fun h0 => ?_) (fun h0 => ?_)
  ·
   replace h0 := nm h0
   have hm : manyR (l.drop i) = none := many_bad (by rw [List.length_drop]; omega)
   refine S2 ?_; refine Omv ?_
   ·
    refine OL.rcallS rfl rfl rfl (.mk' rfl rfl rfl rfl rfl) (q168 rb l _ _ Hx) ?_
    refine Oas ?_; refine S4 ?_
    refine r1 2 (rr rb l (i + numF 5 (l.drop i)) true :: Hx) ?_
    rw [manyV_none hm, hm]; rfl
  ·
   replace h0 := nm h0
   obtain ⟨z1, z2⟩ := many_ok (d := l.drop i) (by rw [List.length_drop]; omega)
   refine S4 ?_; refine Omv ?_; refine Oas ?_; refine S3 ?_
   refine r1 2 (rr rb l (i + numF 5 (l.drop i)) (numberR (l.drop i)).isNone :: Hx) ?_
   rw [z1, z2]; rfl
theorem q154 (k : U8) (l L : List U8) (hL : L = k :: l) (hl : l.length < 140737488355328) : PCall Tryz.prog 154 [u8s L] (u8s (sumR k l)) := by
 intro H
 refine ACall.mk' (n := 36) Tryz.func154 rfl (by kernel_rfl) rfl rfl (fun B I w0 => ?_)
 have hlen : L.length = l.length + 1 := by rw [hL]; rfl
 refine S2 ?_; refine Oas ?_; refine S4 ?_; refine Oas ?_; refine Oas ?_; refine S5 ?_; refine Omv ?_; refine Oln ?_; refine Omv ?_; refine S3 ?_
 refine lj (fun m st => ∃ j : Nat, st = ⟨[(9, .i j), (8, .i L.length), (7, u8s L), (3, .i (sumP (L.take j)).1), (4, .i (sumP (L.take j)).2)], H⟩ ∧ m = L.length - j ∧ j ≤ L.length) (⟨0, rfl, rfl, Nat.zero_le _⟩) ?_
 rintro m _ ⟨j, rfl, rfl, hj⟩
 obtain ⟨hb1, hb2⟩ := sumP_lt (L.take j)
 refine S2 ?_; refine Ocm ?_; refine S3 ?_
 refine CW.cond rfl (fun h0 => ?_) (fun h0 => ?_)
 ·
  replace h0 := nm h0
  have hj' : j < L.length := Int.ofNat_lt.1 h0
  obtain ⟨x, hx⟩ : ∃ x, x = L.getD j default := ⟨_, rfl⟩
  have hst := sumP_step hj'
  rw [← hx] at hst
  have hxl := x.isLt
  refine S6 ?_
  refine OL.popC rfl rfl rfl ((by first | exact POp.ixM rfl rfl rfl rfl rfl hj' | exact POp.ixI rfl rfl rfl rfl rfl hj')) ?_
  refine Old ?_; refine Oas ?_; refine S3 ?_
  rw [← hx]
  refine S1 ?_; refine Omv ?_; refine Omv ?_
  refine OL.popC rfl rfl rfl (POp.cv rfl rfl rfl (wrap64 (by omega))) ?_
  refine Oar ?_
  refine OL.popC rfl rfl rfl (POp.div rfl rfl rfl rfl rfl (by decide) (.inr ⟨rfl, tm_sum _ _⟩)) ?_
  refine Oas ?_; refine S3 ?_; refine Omv ?_; refine Omv ?_; refine Oar ?_
  refine OL.popC rfl rfl rfl (POp.div rfl rfl rfl rfl rfl (by decide) (.inr ⟨rfl, tm_sum _ _⟩)) ?_
  refine Oas ?_; refine S4 ?_; refine Oar ?_; refine Omv ?_; refine S1 ?_
  exact ag (⟨j + 1, by rw [hst], rfl, hj'⟩)
 ·
  replace h0 := nm h0
  obtain rfl : j = L.length := by omega
  rw [List.take_length] at hb1 hb2 ⊢
  refine S7 ?_; refine Omv ?_
  refine OL.popC rfl rfl rfl (POp.div rfl rfl rfl rfl rfl (by decide) (.inl ⟨rfl, quo256 _ hb2⟩)) ?_
  refine OL.popC rfl rfl rfl (POp.cv rfl rfl rfl (u8_wrap _)) ?_
  refine Omv ?_
  refine OL.popC rfl rfl rfl (POp.div rfl rfl rfl rfl rfl (by decide) (.inr ⟨rfl, rem256 _⟩)) ?_
  refine OL.popC rfl rfl rfl (POp.cv rfl rfl rfl (u8_wrap _)) ?_
  refine Omv ?_
  refine OL.popC rfl rfl rfl (POp.div rfl rfl rfl rfl rfl (by decide) (.inl ⟨rfl, quo256 _ hb1⟩)) ?_
  refine OL.popC rfl rfl rfl (POp.cv rfl rfl rfl (u8_wrap _)) ?_
  refine Omv ?_
  refine OL.popC rfl rfl rfl (POp.div rfl rfl rfl rfl rfl (by decide) (.inr ⟨rfl, rem256 _⟩)) ?_
  refine OL.popC rfl rfl rfl (POp.cv rfl rfl rfl (u8_wrap _)) ?_
  refine OL.popC rfl rfl rfl (POp.row rfl rfl (by first | rfl | simp_all [strip]) rfl rfl rfl rfl rfl rfl) ?_
  refine Oas ?_; refine S3 ?_
  refine r1 2 (H) ?_
  exact ⟨by rw [byteOf_mod, byteOf_mod, sumR, ← hL]; rfl, rfl⟩
theorem q17 (l r : List U8) : PCall Tryz.prog 17 [u8s l, u8s r] (.b (l == r)) := by
 intro H
 refine ACall.mk' (n := 10) Tryz.func17 rfl (by kernel_rfl) rfl rfl (fun B I w0 => ?_)
 refine S2 ?_; refine Oas ?_; refine S4 ?_; refine Omv ?_
 refine OL.popC rfl rfl rfl (POp.bytesStr (ns := l.map fun x => (x.val : Int)) rfl (by rw [List.map_map]; rfl) rfl (by kernel_rfl)) ?_
 refine Omv ?_
 refine OL.popC rfl rfl rfl (POp.bytesStr (ns := r.map fun x => (x.val : Int)) rfl (by rw [List.map_map]; rfl) rfl (by kernel_rfl)) ?_
 refine OL.popC rfl rfl rfl (POp.eqS rfl rfl rfl rfl rfl) ?_
 refine Oas ?_; refine S3 ?_
 refine r1 4 (H) ?_
 exact ⟨retB (strOf_eq l r), rfl⟩
def pieA (l : List U8) : AV := match splitR l with
 | none => .tup [.val (.int .u8 0), .sl 3 [], .b false]
 | some p => .tup [u8 p.1, pies p.2, .b true]
theorem pie_no {l : List U8} (h : ¬ headR l) : pieA l = .tup [.val (.int .u8 0), .sl 3 [], .b false] := by rw [pieA, split_no h]
theorem pie_fail {l : List U8} (h : headR l) (hs : (secsOf (l.drop 2)).2 = false) : pieA l = .tup [.val (.int .u8 0), .sl 3 [], .b false] := by rw [pieA, split_head h, hs]; rfl
theorem pie_good {l : List U8} (h : headR l) (hs : (secsOf (l.drop 2)).2 = true) : pieA l = .tup [u8 (l.getD 1 default), pies (secsOf (l.drop 2)).1, .b true] := by rw [pieA, split_head h, hs]; rfl
theorem head_nb (l : List U8) : (bif bif decide ((l.length : Int) < 2) then true else (((l.getD (Int.toNat 0) default).val : Int) != 67) then true else bif (((l.getD (Int.toNat 1) default).val : Int) != 79) then (((l.getD (Int.toNat 1) default).val : Int) != 80) else false) = decide (¬ headR l) := by
 have e : ∀ (n : Nat) (k : Nat), ((n : Int) != (k : Int)) = (n != k) := fun n k => by
  rw [Bool.eq_iff_iff]; simp; omega
 have e0 : Int.toNat 0 = 0 := rfl
 have e1 : Int.toNat 1 = 1 := rfl
 rw [e0, e1, show (67 : Int) = ((67 : Nat) : Int) by rfl, show (79 : Int) = ((79 : Nat) : Int) by rfl, show (80 : Int) = ((80 : Nat) : Int) by rfl, e, e, e]
 have h1 : decide ((l.length : Int) < 2) = !decide (1 < l.length) := by
  rw [Bool.eq_iff_iff]; simp; omega
 rw [h1, Bool.eq_iff_iff, decide_eq_true_iff]
 unfold headR
 generalize (l.getD 0 default).val = x
 generalize (l.getD 1 default).val = y
 generalize l.length = n
 by_cases a : 1 < n <;> by_cases b : x = 67 <;> by_cases c : y = 79 <;> by_cases d : y = 80 <;> simp_all
theorem part_take (l : List U8) (a n : Nat) : (l.take (a + n)).drop a = (l.drop a).take n := by rw [List.drop_take, Nat.add_sub_cancel_left]
theorem part_sum (l : List U8) (a n : Nat) : (l.take (a + n + 4)).drop (a + n) = ((l.drop a).drop n).take 4 := by rw [List.drop_take, List.drop_drop, Nat.add_sub_cancel_left]
theorem part_rest (l : List U8) (a n : Nat) : ((l.drop a).drop n).drop 4 = l.drop (a + (n + 4)) := by rw [List.drop_drop, List.drop_drop, show a + (n + 4) = a + n + 4 by omega]
theorem q78 (l : List U8) (hl : l.length ≤ 1048576) : PCall Tryz.prog 78 [u8s l] (pieA l) := by
 intro H
 refine ACall.mk' (n := 120) Tryz.func78 rfl (by kernel_rfl) rfl rfl (fun B I w0 => ?_)
 refine S2 ?_; refine Oas ?_; refine Oas ?_; refine Oas ?_; refine S5 ?_; refine Omv ?_; refine Oln ?_; refine Ocm ?_; refine Omv ?_; refine Pmv ?_
 refine OL.guardC rfl rfl rfl rfl rfl rfl (fun hg => (by first | exact POp.ixM rfl rfl (gd hg) rfl rfl (by simp at hg; omega) | exact POp.ixI rfl rfl (gd hg) rfl rfl (by simp at hg; omega))) ?_
 refine Pld ?_; refine Pcm ?_; refine Opk ?_; refine Omv ?_; refine Pmv ?_
 refine OL.guardC rfl rfl rfl rfl rfl rfl (fun hg => (by first | exact POp.ixM rfl rfl (gd hg) rfl rfl (by simp at hg; omega) | exact POp.ixI rfl rfl (gd hg) rfl rfl (by simp at hg; omega))) ?_
 refine Pld ?_; refine Pcm ?_; refine Pmv ?_; refine Pmv ?_
 refine OL.guardC rfl rfl rfl rfl rfl rfl (fun hg => (by first | exact POp.ixM rfl rfl (gd hg) rfl rfl (by simp at hg; omega) | exact POp.ixI rfl rfl (gd hg) rfl rfl (by simp at hg; omega))) ?_
 refine Pld ?_; refine Pcm ?_; refine Ppk ?_; refine Opk ?_; refine S2 ?_
 rw [head_nb]
 refine CW.cond rfl (fun h0 => ?_) (fun h0 => ?_)
 ·
  have hh : ¬ headR l := of_decide_eq_true h0
  refine S2 ?_; refine Oas ?_; refine Oas ?_; refine Oas ?_; refine S4 ?_
  refine Done.retR (rs := [.tmp 2, .tmp 3, .tmp 4]) (H' := H) rfl (.tmp rfl (.tmp rfl (.tmp rfl (.nil)))) (.cons (.refl _) (.cons (AVle.nil 3) (.cons (.refl _) .nil))) (by repeat (first | exact List.Sublist.refl _ | refine List.Sublist.cons _ ?_)) ?_
  exact ⟨by rw [pie_no hh]; rfl, rfl⟩
 ·
  have hh : headR l := by simpa using h0
  refine S4 ?_; refine Omv ?_; refine Obd ?_
  refine OL.boxC rfl rfl rfl rfl rfl rfl rfl (fun rb => ?_)
  refine Oas ?_; refine S4 ?_; refine Oas ?_; refine S4 ?_
  refine CW.ownNil 6 119 3 rfl ?_
  refine CW.perm (List.Perm.swap _ _ _) ?_
  refine lj (fun m st => ∃ (a : Nat) (pre : List Sec) (v6 : Value), st = ⟨[(5, .p rb 0), (6, .as (pies pre) v6), (0, u8s l)], rr rb l a false :: .own 119 3 v6 :: H⟩ ∧ m = l.length - a ∧ a ≤ l.length ∧ SecAt (l.drop 2) pre (l.drop a)) (⟨2, [], _, rfl, rfl, (by have := hh.1; omega), .begin _⟩) ?_
  rintro m _ ⟨a, pre, v6, rfl, rfl, ha, hA⟩
  refine S3 ?_; refine Omv ?_; refine Onc ?_; refine Ofa ?_; refine Old ?_; refine Omv ?_; refine Oln ?_; refine Ocm ?_; refine S2 ?_
  refine CW.cond rfl (fun h1 => ?_) (fun h1 => ?_)
  ·
   replace h1 := nm h1
   have hal : a < l.length := by omega
   obtain ⟨k, hk⟩ : ∃ k, k = l.getD a default := ⟨_, rfl⟩
   have hdc := drop_cons_at hal
   rw [hdc, ← hk] at hA
   have hkl := k.isLt
   refine S5 ?_; refine Omv ?_
   ·
    refine OL.rcallS rfl rfl rfl (.mk' rfl rfl rfl rfl rfl) (q153s rb l a hl hal (.own 119 3 v6 :: H)) ?_
    rw [← hk]
    refine Oas ?_; refine S4 ?_; refine Omv ?_
    have hf := numF_le 5 (l.drop (a + 1))
    have hmv := manyV_le (l.drop (a + 1))
    rw [List.length_drop] at hf hmv
    ·
     refine OL.rcallS rfl rfl rfl (.mk' rfl rfl rfl rfl rfl) (q97 rb l (a + 1) hl hal (.own 119 3 v6 :: H)) ?_
     refine Oas ?_; refine S5 ?_; refine Omv ?_; refine Onc ?_; refine Ofa ?_; refine Old ?_; refine Omv ?_; refine Pmv ?_; refine Par ?_; refine Pmv ?_; refine Pln ?_; refine Pmv ?_
     refine Pnc ?_; refine Pfa ?_; refine Pld ?_; refine Par ?_; refine Pcm ?_; refine Opk ?_; refine S2 ?_
     refine CW.cond rfl (fun h2 => ?_) (fun h2 => ?_)
     ·
      have hs := hA.fail (by simp) (piece_bad h2 hal)
      refine S2 ?_; refine Oas ?_; refine Oas ?_; refine Oas ?_; refine S8 ?_
      refine Done.retR (rs := [.tmp 2, .tmp 3, .tmp 4]) (H' := H) rfl (.tmp rfl (.tmp rfl (.tmp rfl (.nil)))) (.cons (.refl _) (.cons (AVle.nil 3) (.cons (.refl _) .nil))) (by repeat (first | exact List.Sublist.refl _ | refine List.Sublist.cons _ ?_)) ?_
      exact ⟨by rw [pie_fail hh hs.2]; rfl, rfl⟩
     ·
      obtain ⟨n, hq, hmv2, hle⟩ := piece_good h2 hal
      rw [hmv2, show (manyR (l.drop (a + 1))).isNone = false by rw [hq]; rfl]
      clear h2
      have ha1 := Nat.le_add_right (a + 1) (numF 5 (l.drop (a + 1)))
      generalize a + 1 + numF 5 (l.drop (a + 1)) = a1 at hq hle ha1 ⊢
      refine CW.weaken (st' := ⟨[(8, .i n), (7, .i k.val), (5, .p rb 0), (6, .as (pies pre) v6), (0, u8s l)], rr rb l a1 false :: .own 119 3 v6 :: H⟩) (by repeat (first | exact trivial | refine ⟨rfl, ?_⟩)) (.refl _) ?_
      refine S3 ?_
      refine CW.dp mixed ?_
      refine DP.anyK (X := noX) [⟨15, 9, false⟩] (fun J => match J with | [some v] => .blk (blkOf v) 119 [.val (.int .u8 0), .val (.slice none 0 0), .b false] :: rr rb l a1 false :: .own 119 3 v6 :: H | _ => rr rb l a1 false :: .own 119 3 v6 :: H) (fun q J => match q, J with | 0, [some v] => .p (blkOf v) 0 | _, _ => .any) 0 16 120 rfl (by decide +kernel) (by decide +kernel) rfl rfl (by decide +kernel) rfl (fun _ _ _ _ _ _ _ _ _ h => h.elim) ?_
      refine UD.popK [[true], [false]] rfl (by decide +kernel) rfl rfl rfl ⟨fun f => POp.move rfl rfl rfl, fun f => POp.move rfl rfl rfl, trivial⟩ ?_
      refine UD.popK [[true], [false]] rfl (by decide +kernel) rfl rfl rfl ⟨fun f => (POp.cv rfl (show aev _ _ = some (true, AV.i k.val) from rfl) rfl (u8_wrap8 k)), fun f => (POp.cv rfl (show aev _ _ = some (true, AV.i k.val) from rfl) rfl (u8_wrap8 k)), trivial⟩ ?_
      refine UD.popK [[true], [false]] rfl (by decide +kernel) rfl rfl rfl ⟨fun f => POp.move rfl rfl rfl, fun f => POp.move rfl rfl rfl, trivial⟩ ?_
      refine UD.popK [[true], [false]] rfl (by decide +kernel) rfl rfl rfl ⟨fun f => POp.move rfl rfl rfl, fun f => POp.move rfl rfl rfl, trivial⟩ ?_
      refine UD.popK [[true], [false]] rfl (by decide +kernel) rfl rfl rfl ⟨fun f => (by first | exact POp.nilCheck rfl rfl rfl | exact POp.nilCheckP rfl rfl rfl | exact POp.nilCheckF rfl rfl rfl), fun f => (by first | exact POp.nilCheck rfl rfl rfl | exact POp.nilCheckP rfl rfl rfl | exact POp.nilCheckF rfl rfl rfl), trivial⟩ ?_
      refine UD.popK [[true], [false]] rfl (by decide +kernel) rfl rfl rfl ⟨fun f => (by first | exact POp.fa rfl rfl rfl rfl | exact POp.faP rfl rfl rfl rfl), fun f => (by first | exact POp.fa rfl rfl rfl rfl | exact POp.faP rfl rfl rfl rfl), trivial⟩ ?_
      refine UD.popK [[true], [false]] rfl (by decide +kernel) rfl rfl rfl ⟨fun f => (by first | exact POp.ld1 rfl rfl rfl rfl | (apply POp.ld1H rfl rfl rfl; (case hm => repeat (first | exact .head _ | refine .tail _ ?_)); (case hy => rfl))), fun f => (by first | exact POp.ld1 rfl rfl rfl rfl | (apply POp.ld1H rfl rfl rfl; (case hm => repeat (first | exact .head _ | refine .tail _ ?_)); (case hy => rfl))), trivial⟩ ?_
      refine UD.popK [[true], [false]] rfl (by decide +kernel) rfl rfl rfl ⟨fun f => POp.move rfl rfl rfl, fun f => POp.move rfl rfl rfl, trivial⟩ ?_
      refine UD.popK [[true], [false]] rfl (by decide +kernel) rfl rfl rfl ⟨fun f => (by first | exact POp.nilCheck rfl rfl rfl | exact POp.nilCheckP rfl rfl rfl | exact POp.nilCheckF rfl rfl rfl), fun f => (by first | exact POp.nilCheck rfl rfl rfl | exact POp.nilCheckP rfl rfl rfl | exact POp.nilCheckF rfl rfl rfl), trivial⟩ ?_
      refine UD.popK [[true], [false]] rfl (by decide +kernel) rfl rfl rfl ⟨fun f => (by first | exact POp.fa rfl rfl rfl rfl | exact POp.faP rfl rfl rfl rfl), fun f => (by first | exact POp.fa rfl rfl rfl rfl | exact POp.faP rfl rfl rfl rfl), trivial⟩ ?_
      refine UD.popK [[true], [false]] rfl (by decide +kernel) rfl rfl rfl ⟨fun f => (by first | exact POp.ld1 rfl rfl rfl rfl | (apply POp.ld1H rfl rfl rfl; (case hm => repeat (first | exact .head _ | refine .tail _ ?_)); (case hy => rfl))), fun f => (by first | exact POp.ld1 rfl rfl rfl rfl | (apply POp.ld1H rfl rfl rfl; (case hm => repeat (first | exact .head _ | refine .tail _ ?_)); (case hy => rfl))), trivial⟩ ?_
      refine UD.popK [[true], [false]] rfl (by decide +kernel) rfl rfl rfl ⟨fun f => POp.move rfl rfl rfl, fun f => POp.move rfl rfl rfl, trivial⟩ ?_
      refine UD.popK [[true], [false]] rfl (by decide +kernel) rfl rfl rfl ⟨fun f => POp.arith rfl (show aev _ _ = some (true, AV.i a1) from rfl) (show aev _ _ = some (true, AV.i n) from rfl) rfl rfl rfl (addK (by omega)), fun f => POp.arith rfl (show aev _ _ = some (true, AV.i a1) from rfl) (show aev _ _ = some (true, AV.i n) from rfl) rfl rfl rfl (addK (by omega)), trivial⟩ ?_
      refine UD.popK [[true], [false]] rfl (by decide +kernel) rfl rfl rfl ⟨fun f => POp.slM (xs := l) (l := a1) (n := a1 + n) (kl := .i64) (kh := .i64) rfl (show aev _ _ = some (true, u8s l) from rfl) rfl (show aev _ _ = some (true, AV.i a1) from rfl) rfl (show aev _ _ = some (true, AV.i ((a1 + n : Nat) : Int)) from rfl) rfl (by omega), fun f => POp.slM (xs := l) (l := a1) (n := a1 + n) (kl := .i64) (kh := .i64) rfl (show aev _ _ = some (true, u8s l) from rfl) rfl (show aev _ _ = some (true, AV.i a1) from rfl) rfl (show aev _ _ = some (true, AV.i ((a1 + n : Nat) : Int)) from rfl) rfl (by omega), trivial⟩ ?_
      refine UD.popK [[true], [false]] rfl (by decide +kernel) rfl rfl rfl ⟨fun f => POp.build' rfl rfl (by first | rfl | simp_all [strip]) rfl, fun f => POp.build' rfl rfl (by first | rfl | simp_all [strip]) rfl, trivial⟩ ?_
      refine UD.effK 0 [[false]] rfl rfl rfl (by decide +kernel) rfl rfl rfl ⟨fun f => ⟨KOk.al rfl (fun _ => rfl) (fun _ => rfl), (by intro v q hq; rcases q with _ | _ | _ | _ | _ | _ | q <;> first | rfl | (cases hq))⟩, trivial⟩ ?_
      refine UD.nil (fun f => ?_)
      simp only [kvals, List.map_cons, List.map_nil, List.cons_append, List.nil_append]
      generalize blkOf (f 9) = b9
      refine DP.tailC 16 (by decide +kernel) rfl ?_
      refine Sto ?_; refine S3 ?_
      refine CW.dp mixed ?_
      refine DP.anyC 0 14 120 rfl (by decide +kernel) rfl rfl (by decide +kernel) ?_
      refine Amv ?_; refine Amv ?_; refine Anc ?_; refine Afa ?_; refine Ald ?_; refine Amv ?_
      refine AD.popC rfl rfl rfl (POp.arith rfl rfl rfl rfl rfl rfl (addK (by omega))) ?_
      refine Amv ?_; refine Anc ?_; refine Afa ?_; refine Ald ?_; refine Amv ?_
      refine AD.popC rfl rfl rfl (POp.arith rfl rfl rfl rfl rfl rfl (addK (by omega))) ?_
      refine AD.popC rfl rfl rfl (POp.arith rfl rfl rfl rfl rfl rfl (addK (m := 4) (by omega))) ?_
      refine AD.nil ?_
      refine DP.tailC 14 (by decide +kernel) rfl ?_
      refine OL.popC rfl rfl rfl (POp.slM (xs := l) (l := a1 + n) (n := a1 + n + 4) rfl rfl rfl rfl rfl rfl rfl (by omega)) ?_
      refine Oas ?_; refine S3 ?_
      obtain ⟨body, hbody⟩ : ∃ body, body = (l.drop a1).take n := ⟨_, rfl⟩
      rw [part_take l a1 n, part_sum l a1 n, ← hbody]
      have hbl : body.length ≤ l.length := by rw [hbody, List.length_take, List.length_drop]; omega
      refine S1 ?_; refine Omv ?_; refine Ofa ?_; refine Old ?_
      refine OL.rowOwn (els := [[u8 k]]) rfl rfl rfl rfl (by first | rfl | simp_all [strip]) rfl rfl rfl rfl rfl rfl rfl (fun v95 => ?_)
      refine Ofa ?_; refine Old ?_
      refine OL.appendC rfl rfl rfl rfl rfl rfl rfl rfl (AVle.refl _) (one_map (fun _ => rfl) body) (fun v => by repeat (first | exact Upd.head _ _ _ | apply Upd.tail)) (by simp; omega) (by simp; omega) (fun v98 => ?_)
      refine OL.le 98 (y := u8s (k :: body)) rfl (AVle.asL _ _) ?_
      refine OL.popC rfl rfl rfl (POp.call (.mk' rfl rfl rfl rfl rfl) (q154 k body (k :: body) rfl (by omega))) ?_
      refine OL.popC rfl rfl rfl (POp.call (.mk' rfl rfl rfl rfl rfl) (q17 _ _)) ?_
      refine Ont ?_; refine Ofa ?_; refine Sto ?_; refine S4 ?_; refine Omv ?_; refine Onc ?_; refine Ofa ?_; refine Old ?_; refine Omv ?_
      refine OL.popC rfl rfl rfl (POp.arith rfl rfl rfl rfl rfl rfl (addK (m := 4) (by omega))) ?_
      refine OL.popC rfl rfl rfl (POp.arith rfl rfl rfl rfl rfl rfl (addK (by omega))) ?_
      refine Onc ?_; refine Ofa ?_; refine Sto ?_; refine S2 ?_
      have h4 : 4 ≤ ((l.drop a1).drop n).length := by rw [List.length_drop, List.length_drop]; omega
      have hst := secR_good (k := k) hq h4
      rw [part_rest, ← hbody] at hst
      have hA1 := hA.step hst
      obtain ⟨s, hs⟩ : ∃ s : Sec, s = ⟨k, body, !(((l.drop a1).drop n).take 4 == sumR k body)⟩ := ⟨_, rfl⟩
      rw [← hs] at hA1
      have hpl := hA1.pre.length_le
      have hsc := secs_count (l.drop 2)
      rw [List.length_append, List.length_singleton] at hpl
      rw [List.length_drop] at hsc
      refine S1 ?_; refine Omv ?_; refine Ola ?_
      refine OL.popC (x := .sl 3 [pieC s]) rfl rfl rfl (by rw [hs]; exact POp.row rfl rfl (by first | rfl | simp_all [strip]) rfl rfl rfl rfl rfl rfl) ?_
      refine OL.appendC rfl rfl rfl rfl rfl rfl rfl rfl (AVle.refl _) (rfl) (fun v => by repeat (first | exact Upd.head _ _ _ | apply Upd.tail)) (by simp only [List.length_map, List.length_singleton, List.length_cons, List.length_nil]; omega) (by simp only [List.length_map, List.length_singleton, List.length_cons, List.length_nil]; omega) (fun v115 => ?_)
      refine Oas ?_; refine S2 ?_
      exact ag (⟨a1 + (n + 4), pre ++ [s], v115, by rw [show pies (pre ++ [s]) = .sl 3 (pre.map pieC ++ [pieC s]) by rw [pies, List.map_append]; rfl], rfl, by omega, hA1⟩)
  ·
   replace h1 := nm h1
   obtain rfl : a = l.length := by omega
   rw [List.drop_length] at hA
   refine S7 ?_; refine Omv ?_
   refine OL.popC rfl rfl rfl ((by first | exact POp.ixM rfl rfl rfl rfl rfl (by have := hh.1; omega) | exact POp.ixI rfl rfl rfl rfl rfl (by have := hh.1; omega))) ?_
   refine Old ?_; refine Omv ?_; refine Oas ?_; refine Oas ?_; refine Oas ?_; refine S3 ?_
   refine Done.retR (rs := [.tmp 2, .tmp 3, .tmp 4]) (H' := H) rfl (.tmp rfl (.tmp rfl (.tmp rfl (.nil)))) (.cons (.refl _) (.cons (AVle.asL _ _) (.cons (.refl _) .nil))) (by repeat (first | exact List.Sublist.refl _ | refine List.Sublist.cons _ ?_)) ?_
   exact ⟨by rw [pie_good hh hA.stop.2, hA.stop.1]; rfl, rfl⟩
theorem split_len {l : List U8} {p : U8 × List Sec} (h : splitR l = some p) : p.2.length ≤ l.length := splitO_len h
abbrev intsA (a : List Int) : AV := .sl 1 (a.map fun n => [AV.i n])
theorem q24 (l : List U8) (hl : l.length ≤ 1048576) : PCall Tryz.prog 24 [u8s l] (sectA l) := by
 intro H
 refine ACall.mk' (n := 42) Tryz.func24 rfl (by kernel_rfl) rfl rfl (fun B I w0 => ?_)
 refine S2 ?_; refine Oas ?_; refine Oas ?_; refine Oas ?_; refine S4 ?_; refine Omv ?_
 rcases hq : splitR l with _ | ⟨mk, L⟩
 ·
  refine OL.popC rfl rfl rfl (POp.call (.mk' rfl rfl rfl rfl rfl) (by have h := q78 l hl; rwa [pieA, hq] at h)) ?_
  refine Omv ?_; refine Oex ?_; refine Oex ?_; refine Oex ?_; refine Oas ?_; refine Oas ?_; refine Oas ?_; refine S5 ?_; refine Omv ?_; refine Ont ?_; refine S2 ?_
  refine CW.cond rfl (fun h0 => ?_) (fun h0 => ?_)
  ·
   replace h0 := nm h0
   refine S2 ?_; refine Oas ?_; refine Oas ?_; refine Oas ?_; refine S4 ?_
   refine Done.retR (rs := [.tmp 2, .tmp 3, .tmp 4]) (H' := H) rfl (.tmp rfl (.tmp rfl (.tmp rfl (.nil)))) (.cons (AVle.nil 1) (.cons (AVle.nil 1) (.cons (.refl _) .nil))) (by repeat (first | exact List.Sublist.refl _ | refine List.Sublist.cons _ ?_)) ?_
   exact ⟨by rw [sectA, hq]; rfl, rfl⟩
  ·
   cases h0
 ·
  have hL := split_len hq
  replace hL : L.length ≤ l.length := hL
  refine OL.popC rfl rfl rfl (POp.call (.mk' rfl rfl rfl rfl rfl) (by have h := q78 l hl; rwa [pieA, hq] at h)) ?_
  refine Omv ?_; refine Oex ?_; refine Oex ?_; refine Oex ?_; refine Oas ?_; refine Oas ?_; refine Oas ?_; refine S5 ?_; refine Omv ?_; refine Ont ?_; refine S2 ?_
  refine CW.cond rfl (fun h1 => ?_) (fun h1 => ?_)
  ·
   cases h1
  ·
   refine S4 ?_; refine Oas ?_; refine S3 ?_
   refine CW.ownNil 8 48 1 rfl ?_
   refine S1 ?_; refine Oas ?_; refine S4 ?_
   refine CW.ownNil 9 3 1 rfl ?_
   refine S1 ?_; refine Omv ?_; refine Oln ?_; refine Omv ?_; refine S3 ?_
   refine lj (fun m st => ∃ (i : Nat) (v8 v9 : Value), st = ⟨[(22, .i i), (21, .i L.length), (20, pies L), (8, .as (.sl 1 (kindsP (L.take i))) v8), (9, .as (damA L i) v9)], .own 3 1 v9 :: .own 48 1 v8 :: H⟩ ∧ m = L.length - i ∧ i ≤ L.length) (⟨0, _, _, rfl, rfl, Nat.zero_le _⟩) ?_
   rintro m _ ⟨i, v8, v9, rfl, rfl, hi⟩
   refine S2 ?_; refine Ocm ?_; refine S3 ?_
   refine CW.cond rfl (fun h2 => ?_) (fun h2 => ?_)
   ·
    replace h2 := nm h2
    have hil : i < L.length := by omega
    obtain ⟨x, hx⟩ : ∃ x, x = L.getD i default := ⟨_, rfl⟩
    refine S6 ?_; refine Omv ?_
    refine OL.popC rfl rfl rfl ((by first | exact POp.ixM rfl rfl rfl rfl rfl hil | exact POp.ixI rfl rfl rfl rfl rfl hil)) ?_
    refine Ola ?_
    refine OL.alC rfl rfl rfl rfl (fun b0 => ?_)
    refine Oas ?_; refine Sto ?_; refine S3 ?_
    rw [← hx]
    refine S1 ?_; refine Omv ?_; refine Ofa ?_; refine Old ?_
    refine OL.popC rfl rfl rfl (POp.cv rfl rfl rfl (wrap64 (by have := x.kind.isLt; omega))) ?_
    refine OL.popC (x := .sl 1 [[.i x.kind.val]]) rfl rfl rfl (POp.row rfl rfl (by first | rfl | simp_all [strip]) rfl rfl rfl rfl rfl rfl) ?_
    refine OL.appendC rfl rfl rfl rfl rfl rfl rfl rfl (AVle.refl _) (rfl) (fun v => by repeat (first | exact Upd.head _ _ _ | apply Upd.tail)) (by have := dam_len L i; simp only [kinds_len, List.length_map, List.length_take, List.length_singleton, List.length_cons, List.length_nil] at *; omega) (by have := dam_len L i; simp only [kinds_len, List.length_map, List.length_take, List.length_singleton, List.length_cons, List.length_nil] at *; omega) (fun v32 => ?_)
    refine Oas ?_; refine S4 ?_; refine Ofa ?_; refine Old ?_; refine S2 ?_
    refine CW.cond rfl (fun h3 => ?_) (fun h3 => ?_)
    ·
     replace h3 := nm h3
     refine S1 ?_; refine Omv ?_; refine Omv ?_
     refine OL.popC (x := .sl 1 [[.i i]]) rfl rfl rfl (POp.row rfl rfl (by first | rfl | simp_all [strip]) rfl rfl rfl rfl rfl rfl) ?_
     refine OL.appendC rfl rfl rfl rfl rfl rfl rfl rfl (AVle.refl _) (rfl) (fun v => by repeat (first | exact Upd.head _ _ _ | apply Upd.tail)) (by have := dam_len L i; simp only [kinds_len, List.length_map, List.length_take, List.length_singleton, List.length_cons, List.length_nil] at *; omega) (by have := dam_len L i; simp only [kinds_len, List.length_map, List.length_take, List.length_singleton, List.length_cons, List.length_nil] at *; omega) (fun v38 => ?_)
     refine Oas ?_; refine S4 ?_; refine Oar ?_; refine Omv ?_; refine S1 ?_
     exact ag (⟨i + 1, v32, v38, by rw [kinds_snoc hil, ← hx, damA, dam_yes (by rw [← hx]; exact h3)], rfl, hil⟩)
    ·
     replace h3 := nm h3
     refine S4 ?_; refine Oar ?_; refine Omv ?_; refine S1 ?_
     exact ag (⟨i + 1, v32, v9, by rw [kinds_snoc hil, ← hx, damA, dam_no (by rw [← hx]; exact h3)], rfl, hil⟩)
   ·
    replace h2 := nm h2
    obtain rfl : i = L.length := by omega
    rw [List.take_length]
    refine S7 ?_; refine Omv ?_; refine Omv ?_; refine Oas ?_; refine Oas ?_; refine Oas ?_; refine S3 ?_
    refine Done.retR (rs := [.tmp 2, .tmp 3, .tmp 4]) (H' := H) rfl (.tmp rfl (.tmp rfl (.tmp rfl (.nil)))) (.cons (AVle.asL _ _) (.cons (AVle.asL _ _) (.cons (.refl _) .nil))) (by repeat (first | exact List.Sublist.refl _ | refine List.Sublist.cons _ ?_)) ?_
    exact ⟨by rw [sectA, hq]; rfl, rfl⟩
theorem q25 (a : List Int) (ha : a.length ≤ 1048576) : PCall Tryz.prog 25 [intsA a, intsA a] (.b true) := by
 intro H
 refine ACall.mk' (n := 26) Tryz.func25 rfl (by kernel_rfl) rfl rfl (fun B I w0 => ?_)
 refine S2 ?_; refine Oas ?_; refine S5 ?_; refine Omv ?_; refine Oln ?_; refine Omv ?_; refine Oln ?_; refine Ocm ?_; refine S2 ?_
 refine CW.cond rfl (fun h0 => ?_) (fun h0 => ?_)
 ·
  exact absurd h0 (by simp)
 ·
  replace h0 := nm h0
  refine S5 ?_; refine Omv ?_; refine Oln ?_; refine Omv ?_; refine S3 ?_
  refine lj (fun m st => ∃ (i : Nat), st = ⟨[(13, .i i), (12, .i a.length), (0, intsA a), (1, intsA a)], H⟩ ∧ m = a.length - i ∧ i ≤ a.length) (⟨0, rfl, rfl, Nat.zero_le _⟩) ?_
  rintro m _ ⟨i, rfl, rfl, hi⟩
  refine S2 ?_; refine Ocm ?_; refine S3 ?_
  refine CW.cond rfl (fun h1 => ?_) (fun h1 => ?_)
  ·
   replace h1 := nm h1
   have hil : i < a.length := by omega
   refine S6 ?_; refine Omv ?_; refine Oas ?_; refine S3 ?_
   refine CW.dp mixed ?_
   refine DP.anyC 0 8 26 rfl (by decide +kernel) rfl rfl (by decide +kernel) ?_
   refine Amv ?_; refine Amv ?_
   refine AD.popC rfl rfl rfl ((by first | exact POp.ixM rfl rfl rfl rfl rfl (by simpa using hil) | exact POp.ixI rfl rfl rfl rfl rfl (by simpa using hil))) ?_
   refine Ald ?_; refine Amv ?_; refine Amv ?_
   refine AD.popC rfl rfl rfl ((by first | exact POp.ixM rfl rfl rfl rfl rfl (by simpa using hil) | exact POp.ixI rfl rfl rfl rfl rfl (by simpa using hil))) ?_
   refine Ald ?_
   refine AD.nil ?_
   refine DP.tailC 8 (by decide +kernel) rfl ?_
   refine Ocm ?_; refine S2 ?_
   refine CW.cond rfl (fun h2 => ?_) (fun h2 => ?_)
   ·
    exact absurd h2 (by simp)
   ·
    replace h2 := nm h2
    refine S4 ?_; refine Oar ?_; refine Omv ?_; refine S1 ?_
    exact ag (⟨i + 1, rfl, rfl, hil⟩)
  ·
   replace h1 := nm h1
   refine S7 ?_; refine Oas ?_; refine S3 ?_
   refine r1 4 (H) ?_
   exact ⟨by first | rfl | exact retI (by simp_all) | exact retB (by simp_all) | simp_all, rfl⟩
abbrev kA (L : List Sec) : AV := .sl 1 (L.map fun s => [AV.i s.kind.val])
theorem sect_form {l : List U8} (hl : l.length ≤ 1048576) : ∃ (L : List Sec) (D : List Int) (e : Nat), sectA l = .tup [kA L, intsA D, .i e] ∧ L.length ≤ 1048576 ∧ D.length ≤ 1048576 := by
 unfold sectA
 rcases hq : splitR l with _ | p
 ·exact ⟨[], [], 4, rfl, Nat.zero_le _, Nat.zero_le _⟩
 ·have h := split_len hq
  have h2 := dam_len p.2 p.2.length
  exact ⟨p.2, damP p.2 p.2.length, 0, rfl, by omega, by omega⟩
theorem q5 (hk : PCall Tryz.prog 18 [] (.b true)) (l : List U8) (hl : l.length ≤ 1048576) : PCall Tryz.prog 5 [u8s l] (.b true) := by
 intro H
 refine ACall.mk' (n := 54) Tryz.func5 rfl (by kernel_rfl) rfl rfl (fun B I w0 => ?_)
 refine S2 ?_; refine Oas ?_; refine S3 ?_
 obtain ⟨L, D, e, hs, hL, hD⟩ := sect_form hl
 refine S1 ?_; refine Omv ?_
 refine OL.popC rfl rfl rfl (POp.call (.mk' rfl rfl rfl rfl rfl) (by have h := q23 l hl; rwa [hs] at h)) ?_
 refine Omv ?_; refine Oex ?_; refine Oex ?_; refine Oex ?_; refine Oas ?_; refine Oas ?_; refine Oas ?_; refine S4 ?_; refine Omv ?_
 refine OL.popC rfl rfl rfl (POp.call (.mk' rfl rfl rfl rfl rfl) (by have h := q24 l hl; rwa [hs] at h)) ?_
 refine Omv ?_; refine Oex ?_; refine Oex ?_; refine Oex ?_; refine Oas ?_; refine Oas ?_; refine Oas ?_; refine S5 ?_; refine Omv ?_; refine Omv ?_; refine Ocm ?_; refine Omv ?_
 refine Pmv ?_; refine Pln ?_; refine Pmv ?_; refine Pln ?_; refine Pcm ?_; refine Opk ?_; refine Omv ?_; refine Pmv ?_; refine Pmv ?_
 refine OL.guardC rfl rfl rfl rfl rfl rfl (fun hg => POp.call (.mk' rfl rfl rfl rfl (by first | rfl | ((repeat (first | exact hg | rfl | refine Bool.and_eq_true_iff.2 ⟨?_, ?_⟩)); done) | simp_all [strip, constAV])) (q25 D hD)) ?_
 refine Pnt ?_; refine Opk ?_; refine S2 ?_
 refine CW.cond rfl (fun h0 => ?_) (fun h0 => ?_)
 ·
  exact absurd h0 (by simp)
 ·
  replace h0 := nm h0
  refine S5 ?_; refine Oas ?_; refine S3 ?_
  refine lj (fun m st => ∃ (i : Nat), st = ⟨[(9, .i i), (3, kA L), (6, kA L)], H⟩ ∧ m = L.length - i ∧ i ≤ L.length) (⟨0, rfl, rfl, Nat.zero_le _⟩) ?_
  rintro m _ ⟨i, rfl, rfl, hi⟩
  refine S3 ?_; refine Omv ?_; refine Omv ?_; refine Oln ?_; refine Ocm ?_; refine S2 ?_
  refine CW.cond rfl (fun h1 => ?_) (fun h1 => ?_)
  ·
   replace h1 := nm h1
   have hil : i < L.length := by simpa using h1
   refine S5 ?_
   refine CW.dp mixed ?_
   refine DP.anyC 0 8 54 rfl (by decide +kernel) rfl rfl (by decide +kernel) ?_
   refine Amv ?_; refine Amv ?_
   refine AD.popC rfl rfl rfl ((by first | exact POp.ixM rfl rfl rfl rfl rfl hil | exact POp.ixI rfl rfl rfl rfl rfl hil)) ?_
   refine Ald ?_; refine Amv ?_; refine Amv ?_
   refine AD.popC rfl rfl rfl ((by first | exact POp.ixM rfl rfl rfl rfl rfl hil | exact POp.ixI rfl rfl rfl rfl rfl hil)) ?_
   refine Ald ?_
   refine AD.nil ?_
   refine DP.tailC 8 (by decide +kernel) rfl ?_
   refine Ocm ?_; refine S2 ?_
   refine CW.cond rfl (fun h2 => ?_) (fun h2 => ?_)
   ·
    exact absurd h2 (by simp)
   ·
    replace h2 := nm h2
    refine S4 ?_; refine Omv ?_; refine Oar ?_; refine Oas ?_; refine S1 ?_
    exact ag (⟨i + 1, rfl, rfl, hil⟩)
  ·
   replace h1 := nm h1
   refine S7 ?_
   refine OL.popC rfl rfl rfl (POp.call (.mk' rfl rfl rfl rfl rfl) (hk)) ?_
   refine Oas ?_; refine S3 ?_
   refine r1 2 (H) ?_
   exact ⟨by first | rfl | exact retI (by simp_all) | exact retB (by simp_all) | simp_all, rfl⟩
end Go.Proofs.YtpgnjlngepfanaaGreat
