/- Part 14 of the proof: contracts of functions of the program and what they need. No condition beyond those that each theorem names. -/
import Derived.Test.YtiaadpngpempbaaGreatMeanObjectsP13
import Derived.DeepKeys4
import Derived.Test.YtiaadpngpempbaaGreatProg
import Derived.KernelRfl
import Derived.ProofKit
import Derived.Test.YtiaadpngpempbaaGreatRows
set_option maxHeartbeats 1000000
set_option linter.unusedVariables false
set_option linter.unusedSimpArgs false
set_option maxRecDepth 10000
namespace Go.Proofs.YtiaadpngpempbaaGreat
open Go.Eng
open Go.Eng.Fc
open Go.Eng.Bd
open Go.ChangeShapes Go.WideShapes
theorem laidOut:laidOutB Tryz.prog=true:=by kernel_rfl
instance:HasTy Tryz.prog 3 (false,1):=⟨Yb⟩
instance:HasTy Tryz.prog 4 (false,1):=⟨Yb⟩
instance:HasTy Tryz.prog 9 (false,1):=⟨Yb⟩
instance:HasTy Tryz.prog 22 (false,1):=⟨Yb⟩
instance:HasTy Tryz.prog 23 (false,1):=⟨Yb⟩
instance:HasTy Tryz.prog 24 (false,1):=⟨Yb⟩
instance:HasTy Tryz.prog 25 (false,1):=⟨Yb⟩
instance:HasTy Tryz.prog 27 (true,6):=⟨Yb⟩
instance:HasTy Tryz.prog 28 (false,1):=⟨Yb⟩
instance:HasTy Tryz.prog 29 (false,1):=⟨Yb⟩
instance:HasTy Tryz.prog 31 (true,2):=⟨Yb⟩
instance:HasTy Tryz.prog 42 (false,1):=⟨Yb⟩
instance:HasTy Tryz.prog 55 (false,1):=⟨Yb⟩
instance:HasTy Tryz.prog 56 (false,1):=⟨Yb⟩
instance:HasTy Tryz.prog 58 (true,2):=⟨Yb⟩
instance:HasTy Tryz.prog 59 (false,1):=⟨Yb⟩
instance:HasTy Tryz.prog 61 (true,6):=⟨Yb⟩
instance:HasTy Tryz.prog 70 (false,1):=⟨Yb⟩
instance:HasTy Tryz.prog 71 (false,1):=⟨Yb⟩
instance:HasTy Tryz.prog 74 (false,1):=⟨Yb⟩
instance:HasTy Tryz.prog 79 (true,2):=⟨Yb⟩
instance:HasTy Tryz.prog 85 (false,1):=⟨Yb⟩
instance:HasTy Tryz.prog 92 (false,1):=⟨Yb⟩
instance:HasTy Tryz.prog 94 (true,2):=⟨Yb⟩
instance:HasTy Tryz.prog 98 (true,3):=⟨Yb⟩
instance:HasTy Tryz.prog 99 (false,1):=⟨Yb⟩
instance:HasTy Tryz.prog 100 (false,1):=⟨Yb⟩
instance:HasTy Tryz.prog 101 (false,1):=⟨Yb⟩
instance:HasTy Tryz.prog 103 (true,6):=⟨Yb⟩
instance:HasTy Tryz.prog 105 (true,9):=⟨Yb⟩
instance:HasTy Tryz.prog 106 (false,1):=⟨Yb⟩
instance:HasTy Tryz.prog 108 (true,3):=⟨Yb⟩
instance:HasTy Tryz.prog 111 (false,1):=⟨Yb⟩
instance:HasTy Tryz.prog 116 (false,1):=⟨Yb⟩
instance:HasTy Tryz.prog 124 (false,1):=⟨Yb⟩
instance:HasTy Tryz.prog 140 (false,1):=⟨Yb⟩
instance:HasTy Tryz.prog 145 (true,2):=⟨Yb⟩
instance:HasTy Tryz.prog 149 (false,1):=⟨Yb⟩
instance:HasTy Tryz.prog 150 (false,1):=⟨Yb⟩
instance:HasTy Tryz.prog 155 (true,0):=⟨Yb⟩
instance:HasTy Tryz.prog 158 (true,2):=⟨Yb⟩
instance:HasTy Tryz.prog 162 (true,6):=⟨Yb⟩
instance:HasTy Tryz.prog 174 (false,1):=⟨Yb⟩
instance:HasTy Tryz.prog 182 (false,1):=⟨Yb⟩
instance:HasTy Tryz.prog 183 (false,1):=⟨Yb⟩
instance:HasTy Tryz.prog 195 (true,2):=⟨Yb⟩
instance:HasTy Tryz.prog 208 (false,1):=⟨Yb⟩
instance:HasTy Tryz.prog 213 (false,1):=⟨Yb⟩
instance:HasTy Tryz.prog 228 (false,1):=⟨Yb⟩
instance:HasTy Tryz.prog 230 (true,1):=⟨Yb⟩
instance:HasTy Tryz.prog 239 (true,0):=⟨Yb⟩
instance:HasTy Tryz.prog 244 (false,1):=⟨Yb⟩
instance:HasTy Tryz.prog 255 (false,1):=⟨Yb⟩
instance:HasTy Tryz.prog 259 (false,1):=⟨Yb⟩
instance:HasTy Tryz.prog 265 (false,1):=⟨Yb⟩
instance:HasTy Tryz.prog 269 (false,1):=⟨Yb⟩
instance:HasTy Tryz.prog 286 (false,1):=⟨Yb⟩
instance:HasTy Tryz.prog 300 (true,2):=⟨Yb⟩
instance:HasTy Tryz.prog 310 (false,1):=⟨Yb⟩
instance:HasTy Tryz.prog 311 (false,1):=⟨Yb⟩
instance:HasTy Tryz.prog 312 (false,1):=⟨Yb⟩
instance:HasTy Tryz.prog 314 (true,7):=⟨Yb⟩
instance:HasTy Tryz.prog 316 (true,0):=⟨Yb⟩
instance:HasTy Tryz.prog 318 (false,1):=⟨Yb⟩
instance:HasTy Tryz.prog 323 (false,1):=⟨Yb⟩
instance:HasTy Tryz.prog 329 (true,4):=⟨Yb⟩
instance:HasFld Tryz.prog 27 0 0:=⟨Yb⟩
instance:HasFld Tryz.prog 27 1 1:=⟨Yb⟩
instance:HasFld Tryz.prog 27 2 2:=⟨Yb⟩
instance:HasFld Tryz.prog 27 3 3:=⟨Yb⟩
instance:HasFld Tryz.prog 27 4 4:=⟨Yb⟩
instance:HasFld Tryz.prog 27 5 5:=⟨Yb⟩
instance:HasFld Tryz.prog 31 0 0:=⟨Yb⟩
instance:HasFld Tryz.prog 31 1 1:=⟨Yb⟩
instance:HasFld Tryz.prog 58 0 0:=⟨Yb⟩
instance:HasFld Tryz.prog 58 1 1:=⟨Yb⟩
instance:HasFld Tryz.prog 61 0 0:=⟨Yb⟩
instance:HasFld Tryz.prog 61 1 1:=⟨Yb⟩
instance:HasFld Tryz.prog 61 2 3:=⟨Yb⟩
instance:HasFld Tryz.prog 61 3 4:=⟨Yb⟩
instance:HasFld Tryz.prog 61 4 5:=⟨Yb⟩
instance:HasFld Tryz.prog 73 0 0:=⟨Yb⟩
instance:HasFld Tryz.prog 73 1 6:=⟨Yb⟩
instance:HasFld Tryz.prog 73 2 7:=⟨Yb⟩
instance:HasFld Tryz.prog 79 0 0:=⟨Yb⟩
instance:HasFld Tryz.prog 79 1 1:=⟨Yb⟩
instance:HasFld Tryz.prog 94 0 0:=⟨Yb⟩
instance:HasFld Tryz.prog 94 1 1:=⟨Yb⟩
instance:HasFld Tryz.prog 98 0 0:=⟨Yb⟩
instance:HasFld Tryz.prog 98 1 1:=⟨Yb⟩
instance:HasFld Tryz.prog 98 2 2:=⟨Yb⟩
instance:HasFld Tryz.prog 103 0 0:=⟨Yb⟩
instance:HasFld Tryz.prog 103 1 1:=⟨Yb⟩
instance:HasFld Tryz.prog 103 2 2:=⟨Yb⟩
instance:HasFld Tryz.prog 103 3 3:=⟨Yb⟩
instance:HasFld Tryz.prog 103 4 4:=⟨Yb⟩
instance:HasFld Tryz.prog 103 5 5:=⟨Yb⟩
instance:HasFld Tryz.prog 105 0 0:=⟨Yb⟩
instance:HasFld Tryz.prog 105 1 1:=⟨Yb⟩
instance:HasFld Tryz.prog 105 2 2:=⟨Yb⟩
instance:HasFld Tryz.prog 105 3 8:=⟨Yb⟩
instance:HasFld Tryz.prog 108 0 0:=⟨Yb⟩
instance:HasFld Tryz.prog 108 1 1:=⟨Yb⟩
instance:HasFld Tryz.prog 108 2 2:=⟨Yb⟩
instance:HasFld Tryz.prog 113 0 0:=⟨Yb⟩
instance:HasFld Tryz.prog 113 1 1:=⟨Yb⟩
instance:HasFld Tryz.prog 113 2 2:=⟨Yb⟩
instance:HasFld Tryz.prog 145 0 0:=⟨Yb⟩
instance:HasFld Tryz.prog 145 1 1:=⟨Yb⟩
instance:HasFld Tryz.prog 153 0 0:=⟨Yb⟩
instance:HasFld Tryz.prog 153 1 6:=⟨Yb⟩
instance:HasFld Tryz.prog 153 2 7:=⟨Yb⟩
instance:HasFld Tryz.prog 153 3 9:=⟨Yb⟩
instance:HasFld Tryz.prog 153 4 10:=⟨Yb⟩
instance:HasFld Tryz.prog 158 1 1:=⟨Yb⟩
instance:HasFld Tryz.prog 162 0 0:=⟨Yb⟩
instance:HasFld Tryz.prog 162 1 1:=⟨Yb⟩
instance:HasFld Tryz.prog 162 2 2:=⟨Yb⟩
instance:HasFld Tryz.prog 162 3 3:=⟨Yb⟩
instance:HasFld Tryz.prog 162 4 4:=⟨Yb⟩
instance:HasFld Tryz.prog 162 5 5:=⟨Yb⟩
instance:HasFld Tryz.prog 176 0 0:=⟨Yb⟩
instance:HasFld Tryz.prog 176 1 1:=⟨Yb⟩
instance:HasFld Tryz.prog 176 2 2:=⟨Yb⟩
instance:HasFld Tryz.prog 195 0 0:=⟨Yb⟩
instance:HasFld Tryz.prog 195 1 1:=⟨Yb⟩
instance:HasFld Tryz.prog 258 0 0:=⟨Yb⟩
instance:HasFld Tryz.prog 258 1 2:=⟨Yb⟩
instance:HasFld Tryz.prog 261 0 0:=⟨Yb⟩
instance:HasFld Tryz.prog 261 1 6:=⟨Yb⟩
instance:HasFld Tryz.prog 261 2 8:=⟨Yb⟩
instance:HasFld Tryz.prog 314 0 0:=⟨Yb⟩
instance:HasFld Tryz.prog 314 1 6:=⟨Yb⟩
instance:HasFld Tryz.prog 325 0 0:=⟨Yb⟩
instance:HasFld Tryz.prog 325 1 1:=⟨Yb⟩
instance:HasFld Tryz.prog 329 1 1:=⟨Yb⟩
instance:HasFld Tryz.prog 329 2 2:=⟨Yb⟩
instance:HasFld Tryz.prog 336 0 0:=⟨Yb⟩
instance:HasFld Tryz.prog 336 1 1:=⟨Yb⟩
instance:HasFld Tryz.prog 336 2 2:=⟨Yb⟩
instance:HasFld Tryz.prog 338 0 0:=⟨Yb⟩
instance:HasFld Tryz.prog 338 1 3:=⟨Yb⟩
instance:HasFld Tryz.prog 338 2 4:=⟨Yb⟩
instance:HasFld Tryz.prog 338 3 5:=⟨Yb⟩
instance:HasFld Tryz.prog 338 4 6:=⟨Yb⟩
instance:HasFld Tryz.prog 338 5 7:=⟨Yb⟩
instance:HasSl Tryz.prog 22 3:=⟨Yb⟩
instance:HasSl Tryz.prog 23 1:=⟨Yb⟩
instance:HasSl Tryz.prog 24 9:=⟨Yb⟩
instance:HasSl Tryz.prog 25 3:=⟨Yb⟩
instance:HasSl Tryz.prog 28 2:=⟨Yb⟩
instance:HasSl Tryz.prog 29 2:=⟨Yb⟩
instance:HasSl Tryz.prog 59 3:=⟨Yb⟩
instance:HasSl Tryz.prog 74 2:=⟨Yb⟩
instance:HasSl Tryz.prog 92 1:=⟨Yb⟩
instance:HasSl Tryz.prog 101 6:=⟨Yb⟩
instance:HasSl Tryz.prog 174 1:=⟨Yb⟩
instance:HasSl Tryz.prog 272 1:=⟨Yb⟩
instance:HasSl Tryz.prog 310 7:=⟨Yb⟩
instance:HasArr Tryz.prog 230 (1,1):=⟨Yb⟩
instance:HasArr Tryz.prog 256 (63,1):=⟨Yb⟩
instance:HasArr Tryz.prog 263 (5,1):=⟨Yb⟩
instance:HasArr Tryz.prog 300 (2,1):=⟨Yb⟩
instance:HasZero Tryz.prog 3 [.int .i64 0]:=⟨Yb⟩
instance:HasZero Tryz.prog 4 [.bool false]:=⟨Yb⟩
instance:HasZero Tryz.prog 23 [.slice none 0 0]:=⟨Yb⟩
instance:HasZero Tryz.prog 27 [.slice none 0 0,.int .i64 0,.slice none 0 0,.slice none 0 0,.slice none 0 0,.int .i64 0]:=⟨Yb⟩
instance:HasZero Tryz.prog 31 [.int .i64 0,.slice none 0 0]:=⟨Yb⟩
instance:HasZero Tryz.prog 58 [.int .i64 0,.int .i64 0]:=⟨Yb⟩
instance:HasZero Tryz.prog 61 [.int .i64 0,.int .i64 0,.int .i64 0,.slice none 0 0,.slice none 0 0,.int .i64 0]:=⟨Yb⟩
instance:HasZero Tryz.prog 79 [.int .i64 0,.int .i64 0]:=⟨Yb⟩
instance:HasZero Tryz.prog 94 [.slice none 0 0,.slice none 0 0]:=⟨Yb⟩
instance:HasZero Tryz.prog 98 [.slice none 0 0,.slice none 0 0,.slice none 0 0]:=⟨Yb⟩
instance:HasZero Tryz.prog 103 [.int .i64 0,.int .i64 0,.slice none 0 0,.int .i64 0,.int .i64 0,.slice none 0 0]:=⟨Yb⟩
instance:HasZero Tryz.prog 105 [.int .i64 0,.int .i64 0,.int .i64 0,.int .i64 0,.slice none 0 0,.int .i64 0,.int .i64 0,.slice none 0 0,.int .i64 0]:=⟨Yb⟩
instance:HasZero Tryz.prog 108 [.int .i64 0,.int .i64 0,.slice none 0 0]:=⟨Yb⟩
instance:HasZero Tryz.prog 116 [.pointer none]:=⟨Yb⟩
instance:HasZero Tryz.prog 124 [.map none]:=⟨Yb⟩
instance:HasZero Tryz.prog 145 [.slice none 0 0,.nilFunc]:=⟨Yb⟩
instance:HasZero Tryz.prog 155 []:=⟨Yb⟩
instance:HasZero Tryz.prog 158 [.int .i64 0,.string ⟨#[]⟩]:=⟨Yb⟩
instance:HasZero Tryz.prog 162 [.slice none 0 0,.bool false,.slice none 0 0,.slice none 0 0,.bool false,.slice none 0 0]:=⟨Yb⟩
instance:HasZero Tryz.prog 195 [.int .i64 0,.int .i64 0]:=⟨Yb⟩
instance:HasZero Tryz.prog 230 [.int .u64 0]:=⟨Yb⟩
instance:HasZero Tryz.prog 239 []:=⟨Yb⟩
instance:HasZero Tryz.prog 244 [.nilFunc]:=⟨Yb⟩
instance:HasZero Tryz.prog 263 [.slice none 0 0,.slice none 0 0,.slice none 0 0,.slice none 0 0,.slice none 0 0]:=⟨Yb⟩
instance:HasZero Tryz.prog 265 [.int .u64 0]:=⟨Yb⟩
instance:HasZero Tryz.prog 300 [.int .i64 0,.int .i64 0]:=⟨Yb⟩
instance:HasZero Tryz.prog 312 [.nilFunc]:=⟨Yb⟩
instance:HasZero Tryz.prog 314 [.int .i64 0,.int .i64 0,.slice none 0 0,.int .i64 0,.int .i64 0,.slice none 0 0,.bool false]:=⟨Yb⟩
instance:HasZero Tryz.prog 316 []:=⟨Yb⟩
instance:HasZero Tryz.prog 329 [.int .i64 0,.int .i64 0,.int .i64 0,.int .i64 0]:=⟨Yb⟩
instance:IsB Tryz.prog 4:=⟨Yb⟩
instance:HasInt Tryz.prog 3 .i64:=⟨Yb⟩
instance:HasInt Tryz.prog 5 .u8:=⟨Yb⟩
instance:HasInt Tryz.prog 21 .i32:=⟨Yb⟩
instance:HasInt Tryz.prog 170 .u64:=⟨Yb⟩
instance:HasInt Tryz.prog 226 .u32:=⟨Yb⟩
instance:HasInt Tryz.prog 228 .u64:=⟨Yb⟩
instance:HasInt Tryz.prog 265 .u64:=⟨Yb⟩
theorem key329:Go.Maps.Keyed Tryz.prog 329:=Go.Maps.Keyed.of_law (deep_law_laid laidOut (m:=3) Ya (of_decide_eq_true Yb) Yb Yb)
instance:HasMap Tryz.prog 323 (329,333):=⟨Yb,key329,Yb⟩
instance:HasBuild Tryz.prog 27 ([.slice none 0 0,.int .i64 0,.slice none 0 0,.slice none 0 0,.slice none 0 0,.int .i64 0],[(0,1),(1,1),(2,1),(3,1),(4,1),(5,1)]):=⟨Yb⟩
instance:HasBuild Tryz.prog 31 ([.int .i64 0,.slice none 0 0],[(0,1),(1,1)]):=⟨Yb⟩
instance:HasBuild Tryz.prog 58 ([.int .i64 0,.int .i64 0],[(0,1),(1,1)]):=⟨Yb⟩
instance:HasBuild Tryz.prog 61 ([.int .i64 0,.int .i64 0,.int .i64 0,.slice none 0 0,.slice none 0 0,.int .i64 0],[(0,1),(1,2),(3,1),(4,1),(5,1)]):=⟨Yb⟩
instance:HasBuild Tryz.prog 73 ([.slice none 0 0,.int .i64 0,.slice none 0 0,.slice none 0 0,.slice none 0 0,.int .i64 0,.map none,.map none],[(0,6),(6,1),(7,1)]):=⟨Yb⟩
instance:HasBuild Tryz.prog 79 ([.int .i64 0,.int .i64 0],[(0,1),(1,1)]):=⟨Yb⟩
instance:HasBuild Tryz.prog 94 ([.slice none 0 0,.slice none 0 0],[(0,1),(1,1)]):=⟨Yb⟩
instance:HasBuild Tryz.prog 98 ([.slice none 0 0,.slice none 0 0,.slice none 0 0],[(0,1),(1,1),(2,1)]):=⟨Yb⟩
instance:HasBuild Tryz.prog 103 ([.int .i64 0,.int .i64 0,.slice none 0 0,.int .i64 0,.int .i64 0,.slice none 0 0],[(0,1),(1,1),(2,1),(3,1),(4,1),(5,1)]):=⟨Yb⟩
instance:HasBuild Tryz.prog 105 ([.int .i64 0,.int .i64 0,.int .i64 0,.int .i64 0,.slice none 0 0,.int .i64 0,.int .i64 0,.slice none 0 0,.int .i64 0],[(0,1),(1,1),(2,6),(8,1)]):=⟨Yb⟩
instance:HasBuild Tryz.prog 108 ([.int .i64 0,.int .i64 0,.slice none 0 0],[(0,1),(1,1),(2,1)]):=⟨Yb⟩
instance:HasBuild Tryz.prog 113 ([.int .i64 0,.int .i64 0,.slice none 0 0],[(0,1),(1,1),(2,1)]):=⟨Yb⟩
instance:HasBuild Tryz.prog 145 ([.slice none 0 0,.nilFunc],[(0,1),(1,1)]):=⟨Yb⟩
instance:HasBuild Tryz.prog 153 ([.int .i64 0,.int .i64 0,.int .i64 0,.slice none 0 0,.slice none 0 0,.int .i64 0,.pointer none,.slice none 0 0,.slice none 0 0,.map none,.map none],[(0,6),(6,1),(7,2),(9,1),(10,1)]):=⟨Yb⟩
instance:HasBuild Tryz.prog 155 ([],[]):=⟨Yb⟩
instance:HasBuild Tryz.prog 158 ([.int .i64 0,.string ⟨#[]⟩],[(0,1),(1,1)]):=⟨Yb⟩
instance:HasBuild Tryz.prog 162 ([.slice none 0 0,.bool false,.slice none 0 0,.slice none 0 0,.bool false,.slice none 0 0],[(0,1),(1,1),(2,1),(3,1),(4,1),(5,1)]):=⟨Yb⟩
instance:HasBuild Tryz.prog 176 ([.slice none 0 0,.slice none 0 0,.map none],[(0,1),(1,1),(2,1)]):=⟨Yb⟩
instance:HasBuild Tryz.prog 195 ([.int .i64 0,.int .i64 0],[(0,1),(1,1)]):=⟨Yb⟩
instance:HasBuild Tryz.prog 200 ([],[]):=⟨Yb⟩
instance:HasBuild Tryz.prog 230 ([.int .u64 0],[(0,1)]):=⟨Yb⟩
instance:HasBuild Tryz.prog 239 ([],[]):=⟨Yb⟩
instance:HasBuild Tryz.prog 258 ([.slice none 0 0,.slice none 0 0,.int .u64 0,.int .u64 0,.int .u64 0,.int .u64 0,.int .u64 0,.int .u64 0,.int .u64 0,.int .u64 0,.int .u64 0,.int .u64 0,.int .u64 0,.int .u64 0,.int .u64 0,.int .u64 0,.int .u64 0,.int .u64 0,.int .u64 0,.int .u64 0,.int .u64 0,.int .u64 0,.int .u64 0,.int .u64 0,.int .u64 0,.int .u64 0,.int .u64 0,.int .u64 0,.int .u64 0,.int .u64 0,.int .u64 0,.int .u64 0,.int .u64 0,.int .u64 0,.int .u64 0,.int .u64 0,.int .u64 0,.int .u64 0,.int .u64 0,.int .u64 0,.int .u64 0,.int .u64 0,.int .u64 0,.int .u64 0,.int .u64 0,.int .u64 0,.int .u64 0,.int .u64 0,.int .u64 0,.int .u64 0,.int .u64 0,.int .u64 0,.int .u64 0,.int .u64 0,.int .u64 0,.int .u64 0,.int .u64 0,.int .u64 0,.int .u64 0,.int .u64 0,.int .u64 0,.int .u64 0,.int .u64 0,.int .u64 0,.int .u64 0],[(0,2),(2,63)]):=⟨Yb⟩
instance:HasBuild Tryz.prog 261 ([.slice none 0 0,.int .i64 0,.slice none 0 0,.slice none 0 0,.slice none 0 0,.int .i64 0,.slice none 0 0,.slice none 0 0,.map none],[(0,6),(6,2),(8,1)]):=⟨Yb⟩
instance:HasBuild Tryz.prog 300 ([.int .i64 0,.int .i64 0],[(0,1),(1,1)]):=⟨Yb⟩
instance:HasBuild Tryz.prog 314 ([.int .i64 0,.int .i64 0,.slice none 0 0,.int .i64 0,.int .i64 0,.slice none 0 0,.bool false],[(0,6),(6,1)]):=⟨Yb⟩
instance:HasBuild Tryz.prog 316 ([],[]):=⟨Yb⟩
instance:HasBuild Tryz.prog 325 ([.pointer none,.map none],[(0,1),(1,1)]):=⟨Yb⟩
instance:HasBuild Tryz.prog 329 ([.int .i64 0,.int .i64 0,.int .i64 0,.int .i64 0],[(0,1),(1,1),(2,2)]):=⟨Yb⟩
instance:HasBuild Tryz.prog 336 ([.int .i64 0,.int .i64 0,.slice none 0 0],[(0,1),(1,1),(2,1)]):=⟨Yb⟩
instance:HasBuild Tryz.prog 338 ([.int .i64 0,.int .i64 0,.slice none 0 0,.int .u64 0,.int .u64 0,.bool false,.bool false,.slice none 0 0],[(0,3),(3,1),(4,1),(5,1),(6,1),(7,1)]):=⟨Yb⟩
instance:HasRow Tryz.prog 22 (3,[.slice none 0 0,.slice none 0 0,.slice none 0 0]):=⟨Yb⟩
instance:HasRow Tryz.prog 23 (1,[.int .i64 0]):=⟨Yb⟩
instance:HasRow Tryz.prog 24 (9,[.int .i64 0,.int .i64 0,.int .i64 0,.int .i64 0,.slice none 0 0,.int .i64 0,.int .i64 0,.slice none 0 0,.int .i64 0]):=⟨Yb⟩
instance:HasRow Tryz.prog 25 (3,[.int .i64 0,.int .i64 0,.slice none 0 0]):=⟨Yb⟩
instance:HasRow Tryz.prog 28 (2,[.int .i64 0,.slice none 0 0]):=⟨Yb⟩
instance:HasRow Tryz.prog 29 (2,[.int .i64 0,.int .i64 0]):=⟨Yb⟩
instance:HasRow Tryz.prog 59 (3,[.int .i64 0,.int .i64 0,.slice none 0 0]):=⟨Yb⟩
instance:HasRow Tryz.prog 74 (2,[.int .i64 0,.int .i64 0]):=⟨Yb⟩
instance:HasRow Tryz.prog 92 (1,[.slice none 0 0]):=⟨Yb⟩
instance:HasRow Tryz.prog 101 (6,[.int .i64 0,.int .i64 0,.slice none 0 0,.int .i64 0,.int .i64 0,.slice none 0 0]):=⟨Yb⟩
instance:HasRow Tryz.prog 174 (1,[.int .u64 0]):=⟨Yb⟩
instance:HasRow Tryz.prog 310 (7,[.int .i64 0,.int .i64 0,.slice none 0 0,.int .i64 0,.int .i64 0,.slice none 0 0,.bool false]):=⟨Yb⟩
instance:HasApp Tryz.prog 23 (3,1,8):=⟨Yb⟩
instance:HasApp Tryz.prog 28 (31,2,32):=⟨Yb⟩
instance:HasApp Tryz.prog 29 (58,2,16):=⟨Yb⟩
instance:HasApp Tryz.prog 59 (113,3,40):=⟨Yb⟩
instance:HasApp Tryz.prog 74 (79,2,16):=⟨Yb⟩
instance:HasApp Tryz.prog 92 (23,1,24):=⟨Yb⟩
instance:HasApp Tryz.prog 174 (230,1,8):=⟨Yb⟩
instance:HasApp Tryz.prog 310 (314,7,88):=⟨Yb⟩
theorem mixed:Tryz.prog.follows .mixedOrders=true:=by kernel_rfl
section
variable{H:Type}{enc:TypeId×Value->H}{w:World}{base:Nat}{spare:Nat->Bool}{held:Bool}{sz:DataW H->Nat}
theorem rd_int(hB:Bulk sz)(n:Nat):ReadsB enc Tryz.prog w base spare held sz n 3 (λq:Int=>[AV.i q]) (λ_ _=>True):=(reads_int Tryz.underlying3).b
theorem rd_ints(hB:Bulk sz)(n:Nat):ReadsB enc Tryz.prog w base spare held sz n 23 (λl:List Int=>[AV.ints l]) (λ(l:List _) (b:Nat)=>l.length<=b):=λfuel hf cs x h=>by
 obtain⟨l,hl,hq⟩:=readsB_slice (n:=n) hB (k:=1) (Q:=λ_ _=>True) (λy a b=>λ_ _=>trivial) Tryz.underlying23 Yb Ya (λ_=>rfl) (rd_int hB n) fuel Ya cs x h;exact⟨l,hl,hq.1⟩
theorem rd_FormOp(hB:Bulk sz)(n:Nat):ReadsB enc Tryz.prog w base spare held sz n 106 (λq:Int=>[AV.i q]) (λ_ _=>True):=(reads_int Tryz.underlying106).b
theorem rd_FormKind(hB:Bulk sz)(n:Nat):ReadsB enc Tryz.prog w base spare held sz n 99 (λq:Int=>[AV.i q]) (λ_ _=>True):=(reads_int Tryz.underlying99).b
theorem rd_MeanKind(hB:Bulk sz)(n:Nat):ReadsB enc Tryz.prog w base spare held sz n 56 (λq:Int=>[AV.i q]) (λ_ _=>True):=(reads_int Tryz.underlying56).b
theorem rd_init(hB:Bulk sz)(n:Nat):ReadsB enc Tryz.prog w base spare held sz n 79 (initA) (λ_ _=>True):=λfuel hf cs x h=>by
 obtain⟨xs,m,rfl,hx,hl,hn,hg⟩:=DataW.trod_struct Tryz.underlying79 h;have hl:cs.length=2:=hl.trans Yb;have h0:=hg 0 _ rfl;have h1:=hg 1 _ rfl;rw[List.getElem?_eq_getElem Y3] at h0 h1;obtain⟨y0,r0,q0⟩:=rd_int hB m m (Nat.le_refl _) _ _ h0;obtain⟨y1,r1,q1⟩:=rd_int hB m m (Nat.le_refl _) _ _ h1;refine⟨⟨y0,y1⟩,?_,trivial⟩;have:=(relL_join (a:=0) (n:=1) (m:=1) r0 r1);rwa [List.drop_zero,List.take_of_length_le Ya] at this
theorem rd_inits(hB:Bulk sz)(n:Nat):ReadsB enc Tryz.prog w base spare held sz n 74 (λl:List (Int×Int)=>[AV.sl 2 (l.map initA)]) (λ_ _=>True):=λfuel hf cs x h=>by
 obtain⟨l,hl,_⟩:=readsB_slice (n:=n) hB (k:=2) (Q:=λ_ _=>True) (λy a b=>λ_ _=>trivial) Tryz.underlying74 Yb Ya (λ_=>rfl) (rd_init hB n) fuel Ya cs x h;exact⟨l,hl,trivial⟩
theorem rd_cls(hB:Bulk sz)(n:Nat):ReadsB enc Tryz.prog w base spare held sz n 98 (clsA) (λ(c:Cls) (b:Nat)=>c.parents.length<=b):=λfuel hf cs x h=>by
 obtain⟨xs,m,rfl,hx,hl,hn,hg⟩:=DataW.trod_struct Tryz.underlying98 h;have hl:cs.length=3:=hl.trans Yb;have h0:=hg 0 _ rfl;have h1:=hg 1 _ rfl;have h2:=hg 2 _ rfl;rw[List.getElem?_eq_getElem Y3] at h0 h1 h2;obtain⟨y0,r0,q0⟩:=rd_ints hB m m (Nat.le_refl _) _ _ h0;obtain⟨y1,r1,q1⟩:=rd_ints hB m m (Nat.le_refl _) _ _ h1;obtain⟨y2,r2,q2⟩:=rd_inits hB m m (Nat.le_refl _) _ _ h2;have hz0:sz (xs[0]'Y3).1<=sz x.1:=by rw[hx];exact hB.ag _ _ (List.mem_map.2 ⟨_,List.getElem_mem _,rfl⟩)
 replace q0:(λ(l:List _) (b:Nat)=>l.length<=b) y0 (sz x.1):=(λh1 h2=>Nat.le_trans h2 h1) hz0 q0;have hz1:sz (xs[1]'Y3).1<=sz x.1:=by rw[hx];exact hB.ag _ _ (List.mem_map.2 ⟨_,List.getElem_mem _,rfl⟩)
 replace q1:(λ(l:List _) (b:Nat)=>l.length<=b) y1 (sz x.1):=(λh1 h2=>Nat.le_trans h2 h1) hz1 q1;refine⟨⟨y0,y1,y2⟩,?_,q0⟩;have:=(relL_join (a:=0) (n:=2) (m:=1) (relL_join (a:=0) (n:=1) (m:=1) r0 r1) r2);rwa [List.drop_zero,List.take_of_length_le Ya] at this
theorem rd_clss(hB:Bulk sz)(n:Nat):ReadsB enc Tryz.prog w base spare held sz n 22 (λl:List Cls=>[AV.sl 3 (l.map clsA)]) (λ(l:List Cls) (b:Nat)=>l.length<=b/\∀c∈l,c.parents.length<=b):=λfuel hf cs x h=>by
 obtain⟨l,hl,hq⟩:=readsB_slice (n:=n) hB (k:=3) (Q:=λ(c:Cls) (b:Nat)=>c.parents.length<=b) (λy a b=>λh1 h2=>Nat.le_trans h2 h1) Tryz.underlying22 Yb Ya (λ_=>rfl) (rd_cls hB n) fuel Ya cs x h;exact⟨l,hl,hq⟩
theorem rd_factN:∀n:Nat,Reads enc Tryz.prog w base spare held n 103 Fcells
 | 0,fuel,hf,cs,x,h=>by
  obtain⟨xs,m,rfl,_⟩:=DataW.trod_struct Tryz.underlying103 h;omega
 | n+1,fuel,hf,cs,x,h=>by
  obtain⟨xs,m,rfl,_,hl,hn,hg⟩:=DataW.trod_struct Tryz.underlying103 h;have hl:cs.length=6:=hl.trans Yb;have h0:=hg 0 _ rfl;have h1:=hg 1 _ rfl;have h2:=hg 2 _ rfl;have h3:=hg 3 _ rfl;have h4:=hg 4 _ rfl;have h5:=hg 5 _ rfl;rw[List.getElem?_eq_getElem Y3] at h0 h1 h2 h3 h4 h5;have hi:Reads enc Tryz.prog w base spare held m 3 (λq:Int=>[AV.i q]):=reads_int Tryz.underlying3;obtain⟨y0,r0⟩:=reads_int (n:=m) Tryz.underlying100 m (Nat.le_refl _) _ _ h0;obtain⟨y1,r1⟩:=hi m (Nat.le_refl _) _ _ h1;obtain⟨y2,r2⟩:=reads_slice (n:=m) (k:=1) Tryz.underlying23 Yb Ya (λ_=>rfl) hi m Ya _ _ h2;obtain⟨y3,r3⟩:=hi m (Nat.le_refl _) _ _ h3;obtain⟨y4,r4⟩:=hi m (Nat.le_refl _) _ _ h4;obtain⟨y5,r5⟩:=reads_slice (n:=n) (k:=6) Tryz.underlying101 Yb Ya (λ_=>rfl) (rd_factN n) m Ya _ _ h5;refine⟨.mk y0 y1 y2 y3 y4 y5,?_⟩;have r5:RelL (allI w) w [AV.sl 6 (y5.map Fcells)] _:=r5;rw[<-encFs_map] at r5;have:=relL_join (a:=0) (n:=5) (m:=1) (relL_join (a:=0) (n:=4) (m:=1) (relL_join (a:=0) (n:=3) (m:=1) (relL_join (a:=0) (n:=2) (m:=1) (relL_join (a:=0) (n:=1) (m:=1) r0 r1) r2) r3) r4) r5;rwa [List.drop_zero,List.take_of_length_le Ya] at this
theorem rd_fact(hB:Bulk sz)(n:Nat):ReadsB enc Tryz.prog w base spare held sz n 103 Fcells (λ_ _=>True):=(rd_factN n).b
theorem rd_mth(hB:Bulk sz)(n:Nat):ReadsB enc Tryz.prog w base spare held sz n 105 (mthA) (λ_ _=>True):=λfuel hf cs x h=>by
 obtain⟨xs,m,rfl,hx,hl,hn,hg⟩:=DataW.trod_struct Tryz.underlying105 h;have hl:cs.length=9:=hl.trans Yb;have h0:=hg 0 _ rfl;have h1:=hg 1 _ rfl;have h2:=hg 2 _ rfl;have h3:=hg 3 _ rfl;rw[List.getElem?_eq_getElem Y3] at h0 h1 h2 h3;obtain⟨y0,r0,q0⟩:=rd_FormKind hB m m (Nat.le_refl _) _ _ h0;obtain⟨y1,r1,q1⟩:=rd_int hB m m (Nat.le_refl _) _ _ h1;obtain⟨y2,r2,q2⟩:=rd_fact hB m m (Nat.le_refl _) _ _ h2;obtain⟨y3,r3,q3⟩:=rd_int hB m m (Nat.le_refl _) _ _ h3;refine⟨⟨y0,y1,y2,y3⟩,?_,trivial⟩;have:=(relL_join (a:=0) (n:=8) (m:=1) (relL_join (a:=0) (n:=2) (m:=6) (relL_join (a:=0) (n:=1) (m:=1) r0 r1) r2) r3);rwa [List.drop_zero,List.take_of_length_le Ya] at this
theorem rd_mths(hB:Bulk sz)(n:Nat):ReadsB enc Tryz.prog w base spare held sz n 24 (λl:List Mth=>[AV.sl 9 (l.map mthA)]) (λ_ _=>True):=λfuel hf cs x h=>by
 obtain⟨l,hl,_⟩:=readsB_slice (n:=n) hB (k:=9) (Q:=λ_ _=>True) (λy a b=>λ_ _=>trivial) Tryz.underlying24 Yb Ya (λ_=>rfl) (rd_mth hB n) fuel Ya cs x h;exact⟨l,hl,trivial⟩
theorem rd_nd(hB:Bulk sz)(n:Nat):ReadsB enc Tryz.prog w base spare held sz n 108 (ndA) (λ_ _=>True):=λfuel hf cs x h=>by
 obtain⟨xs,m,rfl,hx,hl,hn,hg⟩:=DataW.trod_struct Tryz.underlying108 h;have hl:cs.length=3:=hl.trans Yb;have h0:=hg 0 _ rfl;have h1:=hg 1 _ rfl;have h2:=hg 2 _ rfl;rw[List.getElem?_eq_getElem Y3] at h0 h1 h2;obtain⟨y0,r0,q0⟩:=rd_FormOp hB m m (Nat.le_refl _) _ _ h0;obtain⟨y1,r1,q1⟩:=rd_int hB m m (Nat.le_refl _) _ _ h1;obtain⟨y2,r2,q2⟩:=rd_ints hB m m (Nat.le_refl _) _ _ h2;have hz2:sz (xs[2]'Y3).1<=sz x.1:=by rw[hx];exact hB.ag _ _ (List.mem_map.2 ⟨_,List.getElem_mem _,rfl⟩)
 replace q2:(λ(l:List _) (b:Nat)=>l.length<=b) y2 (sz x.1):=(λh1 h2=>Nat.le_trans h2 h1) hz2 q2;refine⟨⟨y0,y1,y2⟩,?_,trivial⟩;have:=(relL_join (a:=0) (n:=2) (m:=1) (relL_join (a:=0) (n:=1) (m:=1) r0 r1) r2);rwa [List.drop_zero,List.take_of_length_le Ya] at this
theorem rd_nds(hB:Bulk sz)(n:Nat):ReadsB enc Tryz.prog w base spare held sz n 25 (λl:List Nd=>[AV.sl 3 (l.map ndA)]) (λ_ _=>True):=λfuel hf cs x h=>by
 obtain⟨l,hl,_⟩:=readsB_slice (n:=n) hB (k:=3) (Q:=λ_ _=>True) (λy a b=>λ_ _=>trivial) Tryz.underlying25 Yb Ya (λ_=>rfl) (rd_nd hB n) fuel Ya cs x h;exact⟨l,hl,trivial⟩
theorem rd_prog(hB:Bulk sz)(n:Nat):ReadsB enc Tryz.prog w base spare held sz n 27 (progC) (λ(p:Prog) (b:Nat)=>p.classes.length<=b/\∀c∈p.classes,c.parents.length<=b):=λfuel hf cs x h=>by
 obtain⟨xs,m,rfl,hx,hl,hn,hg⟩:=DataW.trod_struct Tryz.underlying27 h;have hl:cs.length=6:=hl.trans Yb;have h0:=hg 0 _ rfl;have h1:=hg 1 _ rfl;have h2:=hg 2 _ rfl;have h3:=hg 3 _ rfl;have h4:=hg 4 _ rfl;have h5:=hg 5 _ rfl;rw[List.getElem?_eq_getElem Y3] at h0 h1 h2 h3 h4 h5;obtain⟨y0,r0,q0⟩:=rd_clss hB m m (Nat.le_refl _) _ _ h0;obtain⟨y1,r1,q1⟩:=rd_int hB m m (Nat.le_refl _) _ _ h1;obtain⟨y2,r2,q2⟩:=rd_ints hB m m (Nat.le_refl _) _ _ h2;obtain⟨y3,r3,q3⟩:=rd_mths hB m m (Nat.le_refl _) _ _ h3;obtain⟨y4,r4,q4⟩:=rd_nds hB m m (Nat.le_refl _) _ _ h4;obtain⟨y5,r5,q5⟩:=rd_int hB m m (Nat.le_refl _) _ _ h5;have hz0:sz (xs[0]'Y3).1<=sz x.1:=by rw[hx];exact hB.ag _ _ (List.mem_map.2 ⟨_,List.getElem_mem _,rfl⟩)
 replace q0:(λ(l:List Cls) (b:Nat)=>l.length<=b/\∀c∈l,c.parents.length<=b) y0 (sz x.1):=(λh1 h2=>⟨Nat.le_trans h2.1 h1,λc hc=>Nat.le_trans (h2.2 c hc) h1⟩) hz0 q0;have hz2:sz (xs[2]'Y3).1<=sz x.1:=by rw[hx];exact hB.ag _ _ (List.mem_map.2 ⟨_,List.getElem_mem _,rfl⟩)
 replace q2:(λ(l:List _) (b:Nat)=>l.length<=b) y2 (sz x.1):=(λh1 h2=>Nat.le_trans h2 h1) hz2 q2;refine⟨⟨y0,y1,y2,y3,y4,y5⟩,?_,q0⟩;have:=(relL_join (a:=0) (n:=5) (m:=1) (relL_join (a:=0) (n:=4) (m:=1) (relL_join (a:=0) (n:=3) (m:=1) (relL_join (a:=0) (n:=2) (m:=1) (relL_join (a:=0) (n:=1) (m:=1) r0 r1) r2) r3) r4) r5);rwa [List.drop_zero,List.take_of_length_le Ya] at this
theorem rd_val(hB:Bulk sz)(n:Nat):ReadsB enc Tryz.prog w base spare held sz n 58 (initA) (λ_ _=>True):=λfuel hf cs x h=>by
 obtain⟨xs,m,rfl,hx,hl,hn,hg⟩:=DataW.trod_struct Tryz.underlying58 h;have hl:cs.length=2:=hl.trans Yb;have h0:=hg 0 _ rfl;have h1:=hg 1 _ rfl;rw[List.getElem?_eq_getElem Y3] at h0 h1;obtain⟨y0,r0,q0⟩:=rd_MeanKind hB m m (Nat.le_refl _) _ _ h0;obtain⟨y1,r1,q1⟩:=rd_int hB m m (Nat.le_refl _) _ _ h1;refine⟨⟨y0,y1⟩,?_,trivial⟩;have:=(relL_join (a:=0) (n:=1) (m:=1) r0 r1);rwa [List.drop_zero,List.take_of_length_le Ya] at this
theorem rd_vals(hB:Bulk sz)(n:Nat):ReadsB enc Tryz.prog w base spare held sz n 29 (λl:List (Int×Int)=>[AV.mvs l]) (λ_ _=>True):=λfuel hf cs x h=>by
 obtain⟨l,hl,_⟩:=readsB_slice (n:=n) hB (k:=2) (Q:=λ_ _=>True) (λy a b=>λ_ _=>trivial) Tryz.underlying29 Yb Ya (λ_=>rfl) (rd_val hB n) fuel Ya cs x h;exact⟨l,hl,trivial⟩
theorem rd_th(hB:Bulk sz)(n:Nat):ReadsB enc Tryz.prog w base spare held sz n 31 (thA) (λ_ _=>True):=λfuel hf cs x h=>by
 obtain⟨xs,m,rfl,hx,hl,hn,hg⟩:=DataW.trod_struct Tryz.underlying31 h;have hl:cs.length=2:=hl.trans Yb;have h0:=hg 0 _ rfl;have h1:=hg 1 _ rfl;rw[List.getElem?_eq_getElem Y3] at h0 h1;obtain⟨y0,r0,q0⟩:=rd_int hB m m (Nat.le_refl _) _ _ h0;obtain⟨y1,r1,q1⟩:=rd_vals hB m m (Nat.le_refl _) _ _ h1;refine⟨⟨y0,y1⟩,?_,trivial⟩;have:=(relL_join (a:=0) (n:=1) (m:=1) r0 r1);rwa [List.drop_zero,List.take_of_length_le Ya] at this
theorem rd_ths(hB:Bulk sz)(n:Nat):ReadsB enc Tryz.prog w base spare held sz n 28 (λl:List Th=>[AV.ths l]) (λ_ _=>True):=λfuel hf cs x h=>by
 obtain⟨l,hl,_⟩:=readsB_slice (n:=n) hB (k:=2) (Q:=λ_ _=>True) (λy a b=>λ_ _=>trivial) Tryz.underlying28 Yb Ya (λ_=>rfl) (rd_th hB n) fuel Ya cs x h;exact⟨l,hl,trivial⟩
end
section
variable{H:Type}{enc:TypeId×Value->H}{w:World}{v:Value}{d:DataW H}{ps:List MemPlace}{base base':Nat}{r:Reach}{sz:DataW H->Nat}
theorem prog_of(hB:Bulk sz)(h:DataW.Trod enc Tryz.prog w base (λ_=>true) true 27 v d ps):∃g:Prog,Rel (allI w) w (AV.prog g) v/\(g.classes.length<=sz d/\∀c∈g.classes,c.parents.length<=sz d):=by
 obtain⟨fuel,h⟩:=h;obtain⟨g,hg,hq⟩:=rd_prog hB fuel fuel (Nat.le_refl _) _ _ h;exact⟨g,rel_agg hg Yn,hq⟩
theorem ths_of(hB:Bulk sz)(h:DataW.Trod enc Tryz.prog w base (λ_=>true) true 28 v d ps):∃l:List Th,RelL (allI w) w [AV.ths l] v.cells.toList:=by
 obtain⟨fuel,h⟩:=h;obtain⟨g,hg,_⟩:=rd_ths hB fuel fuel (Nat.le_refl _) _ _ h;exact⟨g,hg⟩
theorem small_of{p:Prog}{n:Nat}(hn:n<=1048576)(h:p.classes.length<=n/\∀c∈p.classes,c.parents.length<=n):p.Small:=⟨Ya,λc hc=>by have:=h.2 c hc;omega⟩
end
theorem bulk_pos{H:Type}(d:DataW H):1<=Rows.uptoBulk d:=by
 cases d with
 | lit l=>cases l <;> simp[Rows.uptoBulk]
 | _=>simp[Rows.uptoBulk]
theorem bulk_len{H:Type}:∀l:List (DataW H),l.length<=Rows.uptoBulkAll l
 | []=>by simp
 | d::r=>by
  have h1:=bulk_pos d;have h2:=bulk_len r;simp only[Rows.uptoBulkAll,List.length_cons];omega
theorem bulk_el{H:Type}:∀l:List (DataW H),∀e∈l,Rows.uptoBulk e<=Rows.uptoBulkAll l
 | d::r,e,he=>by
  simp only[Rows.uptoBulkAll];rcases List.mem_cons.1 he with rfl | he
  ·omega
  ·have:=bulk_el r e he;omega
theorem bulk{H:Type}:Bulk (Rows.uptoBulk (H:=H)):=
 ⟨λes sp=>by have:=bulk_len es;simp only[Rows.uptoBulk];omega,λes sp e he=>by have:=bulk_el es e he;simp only[Rows.uptoBulk];omega,λps e he=>by have:=bulk_el ps e he;simp only[Rows.uptoBulk];omega⟩
end Go.Proofs.YtiaadpngpempbaaGreat
