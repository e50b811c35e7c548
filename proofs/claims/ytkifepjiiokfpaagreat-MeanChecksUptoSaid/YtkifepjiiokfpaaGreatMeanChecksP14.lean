/- Part 14 of the proof: contracts of functions of the program and what they need. No condition beyond those that each theorem names. -/
import Derived.Test.YtkifepjiiokfpaaGreatMeanChecksP13
import Derived.DeepKeys4
import Derived.Test.YtkifepjiiokfpaaGreatProg
import Derived.KernelRfl
import Derived.ProofKit
import Derived.Test.YtkifepjiiokfpaaGreatRows
set_option maxHeartbeats 1000000
set_option linter.unusedVariables false
set_option linter.unusedSimpArgs false
set_option maxRecDepth 10000
namespace Go.Proofs.YtkifepjiiokfpaaGreat
open Go.Eng
open Go.Eng.Fc
open Go.Eng.Bd
open Go.ChangeShapes Go.WideShapes
theorem laidOut:laidOutB Tryz.prog=true:=by kernel_rfl
instance:HasTy Tryz.prog 3 (false,1):=⟨Ya⟩
instance:HasTy Tryz.prog 4 (false,1):=⟨Ya⟩
instance:HasTy Tryz.prog 9 (false,1):=⟨Ya⟩
instance:HasTy Tryz.prog 22 (false,1):=⟨Ya⟩
instance:HasTy Tryz.prog 23 (false,1):=⟨Ya⟩
instance:HasTy Tryz.prog 24 (false,1):=⟨Ya⟩
instance:HasTy Tryz.prog 25 (false,1):=⟨Ya⟩
instance:HasTy Tryz.prog 27 (true,6):=⟨Ya⟩
instance:HasTy Tryz.prog 28 (false,1):=⟨Ya⟩
instance:HasTy Tryz.prog 33 (false,1):=⟨Ya⟩
instance:HasTy Tryz.prog 35 (true,2):=⟨Ya⟩
instance:HasTy Tryz.prog 42 (false,1):=⟨Ya⟩
instance:HasTy Tryz.prog 43 (false,1):=⟨Ya⟩
instance:HasTy Tryz.prog 45 (true,2):=⟨Ya⟩
instance:HasTy Tryz.prog 46 (false,1):=⟨Ya⟩
instance:HasTy Tryz.prog 48 (true,6):=⟨Ya⟩
instance:HasTy Tryz.prog 60 (false,1):=⟨Ya⟩
instance:HasTy Tryz.prog 62 (true,3):=⟨Ya⟩
instance:HasTy Tryz.prog 64 (false,1):=⟨Ya⟩
instance:HasTy Tryz.prog 65 (false,1):=⟨Ya⟩
instance:HasTy Tryz.prog 66 (false,1):=⟨Ya⟩
instance:HasTy Tryz.prog 68 (true,6):=⟨Ya⟩
instance:HasTy Tryz.prog 70 (true,9):=⟨Ya⟩
instance:HasTy Tryz.prog 71 (false,1):=⟨Ya⟩
instance:HasTy Tryz.prog 73 (true,3):=⟨Ya⟩
instance:HasTy Tryz.prog 75 (true,6):=⟨Ya⟩
instance:HasTy Tryz.prog 82 (true,2):=⟨Ya⟩
instance:HasTy Tryz.prog 83 (false,1):=⟨Ya⟩
instance:HasTy Tryz.prog 85 (true,3):=⟨Ya⟩
instance:HasTy Tryz.prog 94 (false,1):=⟨Ya⟩
instance:HasTy Tryz.prog 104 (false,1):=⟨Ya⟩
instance:HasTy Tryz.prog 106 (false,1):=⟨Ya⟩
instance:HasTy Tryz.prog 108 (true,2):=⟨Ya⟩
instance:HasTy Tryz.prog 118 (false,1):=⟨Ya⟩
instance:HasTy Tryz.prog 120 (true,2):=⟨Ya⟩
instance:HasTy Tryz.prog 130 (false,1):=⟨Ya⟩
instance:HasTy Tryz.prog 132 (false,1):=⟨Ya⟩
instance:HasTy Tryz.prog 133 (false,1):=⟨Ya⟩
instance:HasTy Tryz.prog 148 (false,1):=⟨Ya⟩
instance:HasTy Tryz.prog 149 (false,1):=⟨Ya⟩
instance:HasTy Tryz.prog 154 (true,0):=⟨Ya⟩
instance:HasTy Tryz.prog 164 (true,11):=⟨Ya⟩
instance:HasTy Tryz.prog 167 (true,2):=⟨Ya⟩
instance:HasTy Tryz.prog 179 (false,1):=⟨Ya⟩
instance:HasTy Tryz.prog 194 (true,2):=⟨Ya⟩
instance:HasTy Tryz.prog 209 (false,1):=⟨Ya⟩
instance:HasTy Tryz.prog 224 (false,1):=⟨Ya⟩
instance:HasTy Tryz.prog 229 (false,1):=⟨Ya⟩
instance:HasTy Tryz.prog 240 (false,1):=⟨Ya⟩
instance:HasTy Tryz.prog 245 (false,1):=⟨Ya⟩
instance:HasTy Tryz.prog 246 (false,1):=⟨Ya⟩
instance:HasTy Tryz.prog 247 (true,0):=⟨Ya⟩
instance:HasTy Tryz.prog 253 (false,1):=⟨Ya⟩
instance:HasTy Tryz.prog 260 (false,1):=⟨Ya⟩
instance:HasTy Tryz.prog 276 (false,1):=⟨Ya⟩
instance:HasTy Tryz.prog 277 (false,1):=⟨Ya⟩
instance:HasTy Tryz.prog 281 (false,1):=⟨Ya⟩
instance:HasTy Tryz.prog 307 (true,1):=⟨Ya⟩
instance:HasTy Tryz.prog 318 (false,1):=⟨Ya⟩
instance:HasTy Tryz.prog 321 (false,1):=⟨Ya⟩
instance:HasTy Tryz.prog 330 (false,1):=⟨Ya⟩
instance:HasTy Tryz.prog 343 (true,6):=⟨Ya⟩
instance:HasTy Tryz.prog 349 (true,2):=⟨Ya⟩
instance:HasTy Tryz.prog 366 (false,1):=⟨Ya⟩
instance:HasTy Tryz.prog 367 (false,1):=⟨Ya⟩
instance:HasTy Tryz.prog 368 (false,1):=⟨Ya⟩
instance:HasTy Tryz.prog 370 (true,7):=⟨Ya⟩
instance:HasTy Tryz.prog 372 (true,0):=⟨Ya⟩
instance:HasTy Tryz.prog 374 (false,1):=⟨Ya⟩
instance:HasTy Tryz.prog 379 (false,1):=⟨Ya⟩
instance:HasTy Tryz.prog 385 (true,4):=⟨Ya⟩
instance:HasFld Tryz.prog 27 0 0:=⟨Ya⟩
instance:HasFld Tryz.prog 27 1 1:=⟨Ya⟩
instance:HasFld Tryz.prog 27 2 2:=⟨Ya⟩
instance:HasFld Tryz.prog 27 3 3:=⟨Ya⟩
instance:HasFld Tryz.prog 27 4 4:=⟨Ya⟩
instance:HasFld Tryz.prog 27 5 5:=⟨Ya⟩
instance:HasFld Tryz.prog 35 0 0:=⟨Ya⟩
instance:HasFld Tryz.prog 35 1 1:=⟨Ya⟩
instance:HasFld Tryz.prog 45 0 0:=⟨Ya⟩
instance:HasFld Tryz.prog 45 1 1:=⟨Ya⟩
instance:HasFld Tryz.prog 48 0 0:=⟨Ya⟩
instance:HasFld Tryz.prog 48 1 1:=⟨Ya⟩
instance:HasFld Tryz.prog 48 2 3:=⟨Ya⟩
instance:HasFld Tryz.prog 48 3 4:=⟨Ya⟩
instance:HasFld Tryz.prog 48 4 5:=⟨Ya⟩
instance:HasFld Tryz.prog 62 0 0:=⟨Ya⟩
instance:HasFld Tryz.prog 62 1 1:=⟨Ya⟩
instance:HasFld Tryz.prog 62 2 2:=⟨Ya⟩
instance:HasFld Tryz.prog 68 0 0:=⟨Ya⟩
instance:HasFld Tryz.prog 68 1 1:=⟨Ya⟩
instance:HasFld Tryz.prog 68 2 2:=⟨Ya⟩
instance:HasFld Tryz.prog 68 3 3:=⟨Ya⟩
instance:HasFld Tryz.prog 68 4 4:=⟨Ya⟩
instance:HasFld Tryz.prog 68 5 5:=⟨Ya⟩
instance:HasFld Tryz.prog 70 0 0:=⟨Ya⟩
instance:HasFld Tryz.prog 70 1 1:=⟨Ya⟩
instance:HasFld Tryz.prog 70 2 2:=⟨Ya⟩
instance:HasFld Tryz.prog 70 3 8:=⟨Ya⟩
instance:HasFld Tryz.prog 73 0 0:=⟨Ya⟩
instance:HasFld Tryz.prog 73 1 1:=⟨Ya⟩
instance:HasFld Tryz.prog 73 2 2:=⟨Ya⟩
instance:HasFld Tryz.prog 75 0 0:=⟨Ya⟩
instance:HasFld Tryz.prog 75 1 1:=⟨Ya⟩
instance:HasFld Tryz.prog 75 2 2:=⟨Ya⟩
instance:HasFld Tryz.prog 75 3 3:=⟨Ya⟩
instance:HasFld Tryz.prog 75 4 4:=⟨Ya⟩
instance:HasFld Tryz.prog 75 5 5:=⟨Ya⟩
instance:HasFld Tryz.prog 82 0 0:=⟨Ya⟩
instance:HasFld Tryz.prog 82 1 1:=⟨Ya⟩
instance:HasFld Tryz.prog 85 0 0:=⟨Ya⟩
instance:HasFld Tryz.prog 85 1 1:=⟨Ya⟩
instance:HasFld Tryz.prog 85 2 2:=⟨Ya⟩
instance:HasFld Tryz.prog 108 0 0:=⟨Ya⟩
instance:HasFld Tryz.prog 108 1 1:=⟨Ya⟩
instance:HasFld Tryz.prog 120 0 0:=⟨Ya⟩
instance:HasFld Tryz.prog 120 1 1:=⟨Ya⟩
instance:HasFld Tryz.prog 135 0 0:=⟨Ya⟩
instance:HasFld Tryz.prog 135 1 6:=⟨Ya⟩
instance:HasFld Tryz.prog 135 2 7:=⟨Ya⟩
instance:HasFld Tryz.prog 152 0 0:=⟨Ya⟩
instance:HasFld Tryz.prog 152 1 6:=⟨Ya⟩
instance:HasFld Tryz.prog 152 2 7:=⟨Ya⟩
instance:HasFld Tryz.prog 152 3 9:=⟨Ya⟩
instance:HasFld Tryz.prog 152 4 10:=⟨Ya⟩
instance:HasFld Tryz.prog 164 0 0:=⟨Ya⟩
instance:HasFld Tryz.prog 164 1 1:=⟨Ya⟩
instance:HasFld Tryz.prog 164 2 2:=⟨Ya⟩
instance:HasFld Tryz.prog 164 3 3:=⟨Ya⟩
instance:HasFld Tryz.prog 164 4 4:=⟨Ya⟩
instance:HasFld Tryz.prog 164 5 10:=⟨Ya⟩
instance:HasFld Tryz.prog 167 1 1:=⟨Ya⟩
instance:HasFld Tryz.prog 194 0 0:=⟨Ya⟩
instance:HasFld Tryz.prog 194 1 1:=⟨Ya⟩
instance:HasFld Tryz.prog 218 0 0:=⟨Ya⟩
instance:HasFld Tryz.prog 218 1 6:=⟨Ya⟩
instance:HasFld Tryz.prog 218 2 12:=⟨Ya⟩
instance:HasFld Tryz.prog 262 0 0:=⟨Ya⟩
instance:HasFld Tryz.prog 262 1 1:=⟨Ya⟩
instance:HasFld Tryz.prog 262 2 2:=⟨Ya⟩
instance:HasFld Tryz.prog 280 0 0:=⟨Ya⟩
instance:HasFld Tryz.prog 280 1 2:=⟨Ya⟩
instance:HasFld Tryz.prog 283 0 0:=⟨Ya⟩
instance:HasFld Tryz.prog 283 1 6:=⟨Ya⟩
instance:HasFld Tryz.prog 283 2 8:=⟨Ya⟩
instance:HasFld Tryz.prog 343 0 0:=⟨Ya⟩
instance:HasFld Tryz.prog 343 1 2:=⟨Ya⟩
instance:HasFld Tryz.prog 343 2 3:=⟨Ya⟩
instance:HasFld Tryz.prog 343 3 4:=⟨Ya⟩
instance:HasFld Tryz.prog 343 4 5:=⟨Ya⟩
instance:HasFld Tryz.prog 370 0 0:=⟨Ya⟩
instance:HasFld Tryz.prog 370 1 6:=⟨Ya⟩
instance:HasFld Tryz.prog 381 0 0:=⟨Ya⟩
instance:HasFld Tryz.prog 381 1 1:=⟨Ya⟩
instance:HasFld Tryz.prog 385 1 1:=⟨Ya⟩
instance:HasFld Tryz.prog 385 2 2:=⟨Ya⟩
instance:HasFld Tryz.prog 391 0 0:=⟨Ya⟩
instance:HasFld Tryz.prog 391 1 1:=⟨Ya⟩
instance:HasFld Tryz.prog 391 2 2:=⟨Ya⟩
instance:HasFld Tryz.prog 393 0 0:=⟨Ya⟩
instance:HasFld Tryz.prog 393 1 3:=⟨Ya⟩
instance:HasFld Tryz.prog 393 2 4:=⟨Ya⟩
instance:HasFld Tryz.prog 393 3 5:=⟨Ya⟩
instance:HasFld Tryz.prog 393 4 6:=⟨Ya⟩
instance:HasFld Tryz.prog 393 5 7:=⟨Ya⟩
instance:HasSl Tryz.prog 22 3:=⟨Ya⟩
instance:HasSl Tryz.prog 23 1:=⟨Ya⟩
instance:HasSl Tryz.prog 24 9:=⟨Ya⟩
instance:HasSl Tryz.prog 25 3:=⟨Ya⟩
instance:HasSl Tryz.prog 28 2:=⟨Ya⟩
instance:HasSl Tryz.prog 33 2:=⟨Ya⟩
instance:HasSl Tryz.prog 46 3:=⟨Ya⟩
instance:HasSl Tryz.prog 66 6:=⟨Ya⟩
instance:HasSl Tryz.prog 83 2:=⟨Ya⟩
instance:HasSl Tryz.prog 118 1:=⟨Ya⟩
instance:HasSl Tryz.prog 179 1:=⟨Ya⟩
instance:HasSl Tryz.prog 240 1:=⟨Ya⟩
instance:HasSl Tryz.prog 260 1:=⟨Ya⟩
instance:HasSl Tryz.prog 327 1:=⟨Ya⟩
instance:HasSl Tryz.prog 366 7:=⟨Ya⟩
instance:HasArr Tryz.prog 278 (63,1):=⟨Ya⟩
instance:HasArr Tryz.prog 285 (5,1):=⟨Ya⟩
instance:HasArr Tryz.prog 307 (1,1):=⟨Ya⟩
instance:HasArr Tryz.prog 349 (2,1):=⟨Ya⟩
instance:HasZero Tryz.prog 3 [.int .i64 0]:=⟨Ya⟩
instance:HasZero Tryz.prog 4 [.bool false]:=⟨Ya⟩
instance:HasZero Tryz.prog 23 [.slice none 0 0]:=⟨Ya⟩
instance:HasZero Tryz.prog 27 [.slice none 0 0,.int .i64 0,.slice none 0 0,.slice none 0 0,.slice none 0 0,.int .i64 0]:=⟨Ya⟩
instance:HasZero Tryz.prog 35 [.int .i64 0,.slice none 0 0]:=⟨Ya⟩
instance:HasZero Tryz.prog 45 [.int .i64 0,.int .i64 0]:=⟨Ya⟩
instance:HasZero Tryz.prog 48 [.int .i64 0,.int .i64 0,.int .i64 0,.slice none 0 0,.slice none 0 0,.int .i64 0]:=⟨Ya⟩
instance:HasZero Tryz.prog 62 [.int .i64 0,.int .i64 0,.slice none 0 0]:=⟨Ya⟩
instance:HasZero Tryz.prog 68 [.int .i64 0,.int .i64 0,.slice none 0 0,.int .i64 0,.int .i64 0,.slice none 0 0]:=⟨Ya⟩
instance:HasZero Tryz.prog 70 [.int .i64 0,.int .i64 0,.int .i64 0,.int .i64 0,.slice none 0 0,.int .i64 0,.int .i64 0,.slice none 0 0,.int .i64 0]:=⟨Ya⟩
instance:HasZero Tryz.prog 73 [.int .i64 0,.int .i64 0,.slice none 0 0]:=⟨Ya⟩
instance:HasZero Tryz.prog 75 [.slice none 0 0,.bool false,.slice none 0 0,.slice none 0 0,.bool false,.slice none 0 0]:=⟨Ya⟩
instance:HasZero Tryz.prog 82 [.int .i64 0,.int .i64 0]:=⟨Ya⟩
instance:HasZero Tryz.prog 85 [.slice none 0 0,.slice none 0 0,.slice none 0 0]:=⟨Ya⟩
instance:HasZero Tryz.prog 104 [.pointer none]:=⟨Ya⟩
instance:HasZero Tryz.prog 108 [.slice none 0 0,.nilFunc]:=⟨Ya⟩
instance:HasZero Tryz.prog 120 [.slice none 0 0,.slice none 0 0]:=⟨Ya⟩
instance:HasZero Tryz.prog 154 []:=⟨Ya⟩
instance:HasZero Tryz.prog 167 [.int .i64 0,.string ⟨#[]⟩]:=⟨Ya⟩
instance:HasZero Tryz.prog 194 [.int .i64 0,.int .i64 0]:=⟨Ya⟩
instance:HasZero Tryz.prog 209 [.map none]:=⟨Ya⟩
instance:HasZero Tryz.prog 247 []:=⟨Ya⟩
instance:HasZero Tryz.prog 253 [.nilFunc]:=⟨Ya⟩
instance:HasZero Tryz.prog 285 [.slice none 0 0,.slice none 0 0,.slice none 0 0,.slice none 0 0,.slice none 0 0]:=⟨Ya⟩
instance:HasZero Tryz.prog 307 [.int .u64 0]:=⟨Ya⟩
instance:HasZero Tryz.prog 330 [.int .u64 0]:=⟨Ya⟩
instance:HasZero Tryz.prog 343 [.slice none 0 0,.slice none 0 0,.slice none 0 0,.int .i64 0,.slice none 0 0,.bool false]:=⟨Ya⟩
instance:HasZero Tryz.prog 349 [.int .i64 0,.int .i64 0]:=⟨Ya⟩
instance:HasZero Tryz.prog 368 [.nilFunc]:=⟨Ya⟩
instance:HasZero Tryz.prog 370 [.int .i64 0,.int .i64 0,.slice none 0 0,.int .i64 0,.int .i64 0,.slice none 0 0,.bool false]:=⟨Ya⟩
instance:HasZero Tryz.prog 372 []:=⟨Ya⟩
instance:HasZero Tryz.prog 385 [.int .i64 0,.int .i64 0,.int .i64 0,.int .i64 0]:=⟨Ya⟩
instance:IsB Tryz.prog 4:=⟨Ya⟩
instance:HasInt Tryz.prog 3 .i64:=⟨Ya⟩
instance:HasInt Tryz.prog 5 .u8:=⟨Ya⟩
instance:HasInt Tryz.prog 21 .i32:=⟨Ya⟩
instance:HasInt Tryz.prog 250 .u64:=⟨Ya⟩
instance:HasInt Tryz.prog 276 .u64:=⟨Ya⟩
instance:HasInt Tryz.prog 292 .u32:=⟨Ya⟩
instance:HasInt Tryz.prog 330 .u64:=⟨Ya⟩
theorem key385:Go.Maps.Keyed Tryz.prog 385:=Go.Maps.Keyed.of_law (deep_law_laid laidOut (m:=3) Yb (of_decide_eq_true Ya) Ya Ya)
instance:HasMap Tryz.prog 379 (385,388):=⟨Ya,key385,Ya⟩
instance:HasBuild Tryz.prog 27 ([.slice none 0 0,.int .i64 0,.slice none 0 0,.slice none 0 0,.slice none 0 0,.int .i64 0],[(0,1),(1,1),(2,1),(3,1),(4,1),(5,1)]):=⟨Ya⟩
instance:HasBuild Tryz.prog 35 ([.int .i64 0,.slice none 0 0],[(0,1),(1,1)]):=⟨Ya⟩
instance:HasBuild Tryz.prog 45 ([.int .i64 0,.int .i64 0],[(0,1),(1,1)]):=⟨Ya⟩
instance:HasBuild Tryz.prog 48 ([.int .i64 0,.int .i64 0,.int .i64 0,.slice none 0 0,.slice none 0 0,.int .i64 0],[(0,1),(1,2),(3,1),(4,1),(5,1)]):=⟨Ya⟩
instance:HasBuild Tryz.prog 62 ([.int .i64 0,.int .i64 0,.slice none 0 0],[(0,1),(1,1),(2,1)]):=⟨Ya⟩
instance:HasBuild Tryz.prog 68 ([.int .i64 0,.int .i64 0,.slice none 0 0,.int .i64 0,.int .i64 0,.slice none 0 0],[(0,1),(1,1),(2,1),(3,1),(4,1),(5,1)]):=⟨Ya⟩
instance:HasBuild Tryz.prog 70 ([.int .i64 0,.int .i64 0,.int .i64 0,.int .i64 0,.slice none 0 0,.int .i64 0,.int .i64 0,.slice none 0 0,.int .i64 0],[(0,1),(1,1),(2,6),(8,1)]):=⟨Ya⟩
instance:HasBuild Tryz.prog 73 ([.int .i64 0,.int .i64 0,.slice none 0 0],[(0,1),(1,1),(2,1)]):=⟨Ya⟩
instance:HasBuild Tryz.prog 75 ([.slice none 0 0,.bool false,.slice none 0 0,.slice none 0 0,.bool false,.slice none 0 0],[(0,1),(1,1),(2,1),(3,1),(4,1),(5,1)]):=⟨Ya⟩
instance:HasBuild Tryz.prog 82 ([.int .i64 0,.int .i64 0],[(0,1),(1,1)]):=⟨Ya⟩
instance:HasBuild Tryz.prog 85 ([.slice none 0 0,.slice none 0 0,.slice none 0 0],[(0,1),(1,1),(2,1)]):=⟨Ya⟩
instance:HasBuild Tryz.prog 108 ([.slice none 0 0,.nilFunc],[(0,1),(1,1)]):=⟨Ya⟩
instance:HasBuild Tryz.prog 120 ([.slice none 0 0,.slice none 0 0],[(0,1),(1,1)]):=⟨Ya⟩
instance:HasBuild Tryz.prog 135 ([.slice none 0 0,.int .i64 0,.slice none 0 0,.slice none 0 0,.slice none 0 0,.int .i64 0,.map none,.map none],[(0,6),(6,1),(7,1)]):=⟨Ya⟩
instance:HasBuild Tryz.prog 152 ([.int .i64 0,.int .i64 0,.int .i64 0,.slice none 0 0,.slice none 0 0,.int .i64 0,.pointer none,.slice none 0 0,.slice none 0 0,.map none,.map none],[(0,6),(6,1),(7,2),(9,1),(10,1)]):=⟨Ya⟩
instance:HasBuild Tryz.prog 154 ([],[]):=⟨Ya⟩
instance:HasBuild Tryz.prog 164 ([.bool false,.slice none 0 0,.bool false,.bool false,.slice none 0 0,.bool false,.slice none 0 0,.slice none 0 0,.bool false,.slice none 0 0,.slice none 0 0],[(0,1),(1,1),(2,1),(3,1),(4,6),(10,1)]):=⟨Ya⟩
instance:HasBuild Tryz.prog 167 ([.int .i64 0,.string ⟨#[]⟩],[(0,1),(1,1)]):=⟨Ya⟩
instance:HasBuild Tryz.prog 194 ([.int .i64 0,.int .i64 0],[(0,1),(1,1)]):=⟨Ya⟩
instance:HasBuild Tryz.prog 200 ([],[]):=⟨Ya⟩
instance:HasBuild Tryz.prog 218 ([.slice none 0 0,.int .i64 0,.slice none 0 0,.slice none 0 0,.slice none 0 0,.int .i64 0,.int .i64 0,.int .i64 0,.int .i64 0,.slice none 0 0,.slice none 0 0,.int .i64 0,.slice none 0 0],[(0,6),(6,6),(12,1)]):=⟨Ya⟩
instance:HasBuild Tryz.prog 247 ([],[]):=⟨Ya⟩
instance:HasBuild Tryz.prog 262 ([.slice none 0 0,.slice none 0 0,.map none],[(0,1),(1,1),(2,1)]):=⟨Ya⟩
instance:HasBuild Tryz.prog 280 ([.slice none 0 0,.slice none 0 0,.int .u64 0,.int .u64 0,.int .u64 0,.int .u64 0,.int .u64 0,.int .u64 0,.int .u64 0,.int .u64 0,.int .u64 0,.int .u64 0,.int .u64 0,.int .u64 0,.int .u64 0,.int .u64 0,.int .u64 0,.int .u64 0,.int .u64 0,.int .u64 0,.int .u64 0,.int .u64 0,.int .u64 0,.int .u64 0,.int .u64 0,.int .u64 0,.int .u64 0,.int .u64 0,.int .u64 0,.int .u64 0,.int .u64 0,.int .u64 0,.int .u64 0,.int .u64 0,.int .u64 0,.int .u64 0,.int .u64 0,.int .u64 0,.int .u64 0,.int .u64 0,.int .u64 0,.int .u64 0,.int .u64 0,.int .u64 0,.int .u64 0,.int .u64 0,.int .u64 0,.int .u64 0,.int .u64 0,.int .u64 0,.int .u64 0,.int .u64 0,.int .u64 0,.int .u64 0,.int .u64 0,.int .u64 0,.int .u64 0,.int .u64 0,.int .u64 0,.int .u64 0,.int .u64 0,.int .u64 0,.int .u64 0,.int .u64 0,.int .u64 0],[(0,2),(2,63)]):=⟨Ya⟩
instance:HasBuild Tryz.prog 283 ([.slice none 0 0,.int .i64 0,.slice none 0 0,.slice none 0 0,.slice none 0 0,.int .i64 0,.slice none 0 0,.slice none 0 0,.map none],[(0,6),(6,2),(8,1)]):=⟨Ya⟩
instance:HasBuild Tryz.prog 307 ([.int .u64 0],[(0,1)]):=⟨Ya⟩
instance:HasBuild Tryz.prog 343 ([.slice none 0 0,.slice none 0 0,.slice none 0 0,.int .i64 0,.slice none 0 0,.bool false],[(0,2),(2,1),(3,1),(4,1),(5,1)]):=⟨Ya⟩
instance:HasBuild Tryz.prog 349 ([.int .i64 0,.int .i64 0],[(0,1),(1,1)]):=⟨Ya⟩
instance:HasBuild Tryz.prog 370 ([.int .i64 0,.int .i64 0,.slice none 0 0,.int .i64 0,.int .i64 0,.slice none 0 0,.bool false],[(0,6),(6,1)]):=⟨Ya⟩
instance:HasBuild Tryz.prog 372 ([],[]):=⟨Ya⟩
instance:HasBuild Tryz.prog 381 ([.pointer none,.map none],[(0,1),(1,1)]):=⟨Ya⟩
instance:HasBuild Tryz.prog 385 ([.int .i64 0,.int .i64 0,.int .i64 0,.int .i64 0],[(0,1),(1,1),(2,2)]):=⟨Ya⟩
instance:HasBuild Tryz.prog 391 ([.int .i64 0,.int .i64 0,.slice none 0 0],[(0,1),(1,1),(2,1)]):=⟨Ya⟩
instance:HasBuild Tryz.prog 393 ([.int .i64 0,.int .i64 0,.slice none 0 0,.int .u64 0,.int .u64 0,.bool false,.bool false,.slice none 0 0],[(0,3),(3,1),(4,1),(5,1),(6,1),(7,1)]):=⟨Ya⟩
instance:HasRow Tryz.prog 22 (3,[.slice none 0 0,.slice none 0 0,.slice none 0 0]):=⟨Ya⟩
instance:HasRow Tryz.prog 23 (1,[.int .i64 0]):=⟨Ya⟩
instance:HasRow Tryz.prog 24 (9,[.int .i64 0,.int .i64 0,.int .i64 0,.int .i64 0,.slice none 0 0,.int .i64 0,.int .i64 0,.slice none 0 0,.int .i64 0]):=⟨Ya⟩
instance:HasRow Tryz.prog 25 (3,[.int .i64 0,.int .i64 0,.slice none 0 0]):=⟨Ya⟩
instance:HasRow Tryz.prog 28 (2,[.int .i64 0,.slice none 0 0]):=⟨Ya⟩
instance:HasRow Tryz.prog 33 (2,[.int .i64 0,.int .i64 0]):=⟨Ya⟩
instance:HasRow Tryz.prog 46 (3,[.int .i64 0,.int .i64 0,.slice none 0 0]):=⟨Ya⟩
instance:HasRow Tryz.prog 66 (6,[.int .i64 0,.int .i64 0,.slice none 0 0,.int .i64 0,.int .i64 0,.slice none 0 0]):=⟨Ya⟩
instance:HasRow Tryz.prog 83 (2,[.int .i64 0,.int .i64 0]):=⟨Ya⟩
instance:HasRow Tryz.prog 118 (1,[.slice none 0 0]):=⟨Ya⟩
instance:HasRow Tryz.prog 179 (1,[.slice none 0 0]):=⟨Ya⟩
instance:HasRow Tryz.prog 260 (1,[.int .u64 0]):=⟨Ya⟩
instance:HasRow Tryz.prog 327 (1,[.slice none 0 0]):=⟨Ya⟩
instance:HasRow Tryz.prog 366 (7,[.int .i64 0,.int .i64 0,.slice none 0 0,.int .i64 0,.int .i64 0,.slice none 0 0,.bool false]):=⟨Ya⟩
instance:HasApp Tryz.prog 22 (85,3,72):=⟨Ya⟩
instance:HasApp Tryz.prog 23 (3,1,8):=⟨Ya⟩
instance:HasApp Tryz.prog 24 (70,9,104):=⟨Ya⟩
instance:HasApp Tryz.prog 25 (73,3,40):=⟨Ya⟩
instance:HasApp Tryz.prog 28 (35,2,32):=⟨Ya⟩
instance:HasApp Tryz.prog 33 (45,2,16):=⟨Ya⟩
instance:HasApp Tryz.prog 46 (62,3,40):=⟨Ya⟩
instance:HasApp Tryz.prog 66 (68,6,80):=⟨Ya⟩
instance:HasApp Tryz.prog 83 (82,2,16):=⟨Ya⟩
instance:HasApp Tryz.prog 118 (23,1,24):=⟨Ya⟩
instance:HasApp Tryz.prog 179 (240,1,24):=⟨Ya⟩
instance:HasApp Tryz.prog 260 (307,1,8):=⟨Ya⟩
instance:HasApp Tryz.prog 327 (66,1,24):=⟨Ya⟩
instance:HasApp Tryz.prog 366 (370,7,88):=⟨Ya⟩
theorem mixed:Tryz.prog.follows .mixedOrders=true:=by kernel_rfl
section
variable{H:Type}{enc:TypeId×Value->H}{w:World}{base:Nat}{spare:Nat->Bool}{held:Bool}{sz:DataW H->Nat}
theorem rd_int(hB:Bulk sz)(n:Nat):ReadsB enc Tryz.prog w base spare held sz n 3 (λq:Int=>[AV.i q]) (λ_ _=>True):=(reads_int Tryz.underlying3).b
theorem rd_ints(hB:Bulk sz)(n:Nat):ReadsB enc Tryz.prog w base spare held sz n 23 (λl:List Int=>[AV.ints l]) (λ(l:List _) (b:Nat)=>l.length<=b):=λfuel hf cs x h=>by
 obtain⟨l,hl,hq⟩:=readsB_slice (n:=n) hB (k:=1) (Q:=λ_ _=>True) (λy a b=>λ_ _=>trivial) Tryz.underlying23 Ya Yb (λ_=>rfl) (rd_int hB n) fuel Yb cs x h;exact⟨l,hl,hq.1⟩
theorem rd_FormOp(hB:Bulk sz)(n:Nat):ReadsB enc Tryz.prog w base spare held sz n 71 (λq:Int=>[AV.i q]) (λ_ _=>True):=(reads_int Tryz.underlying71).b
theorem rd_FormKind(hB:Bulk sz)(n:Nat):ReadsB enc Tryz.prog w base spare held sz n 64 (λq:Int=>[AV.i q]) (λ_ _=>True):=(reads_int Tryz.underlying64).b
theorem rd_MeanKind(hB:Bulk sz)(n:Nat):ReadsB enc Tryz.prog w base spare held sz n 43 (λq:Int=>[AV.i q]) (λ_ _=>True):=(reads_int Tryz.underlying43).b
theorem rd_init(hB:Bulk sz)(n:Nat):ReadsB enc Tryz.prog w base spare held sz n 82 (initA) (λ_ _=>True):=λfuel hf cs x h=>by
 obtain⟨xs,m,rfl,hx,hl,hn,hg⟩:=DataW.trod_struct Tryz.underlying82 h;have hl:cs.length=2:=hl.trans Ya;have h0:=hg 0 _ rfl;have h1:=hg 1 _ rfl;rw[List.getElem?_eq_getElem YS] at h0 h1;obtain⟨y0,r0,q0⟩:=rd_int hB m m (Nat.le_refl _) _ _ h0;obtain⟨y1,r1,q1⟩:=rd_int hB m m (Nat.le_refl _) _ _ h1;refine⟨⟨y0,y1⟩,?_,trivial⟩;have:=(relL_join (a:=0) (n:=1) (m:=1) r0 r1);rwa [List.drop_zero,List.take_of_length_le Yb] at this
theorem rd_inits(hB:Bulk sz)(n:Nat):ReadsB enc Tryz.prog w base spare held sz n 83 (λl:List (Int×Int)=>[AV.sl 2 (l.map initA)]) (λ_ _=>True):=λfuel hf cs x h=>by
 obtain⟨l,hl,_⟩:=readsB_slice (n:=n) hB (k:=2) (Q:=λ_ _=>True) (λy a b=>λ_ _=>trivial) Tryz.underlying83 Ya Yb (λ_=>rfl) (rd_init hB n) fuel Yb cs x h;exact⟨l,hl,trivial⟩
theorem rd_cls(hB:Bulk sz)(n:Nat):ReadsB enc Tryz.prog w base spare held sz n 85 (clsA) (λ(c:Cls) (b:Nat)=>c.parents.length<=b):=λfuel hf cs x h=>by
 obtain⟨xs,m,rfl,hx,hl,hn,hg⟩:=DataW.trod_struct Tryz.underlying85 h;have hl:cs.length=3:=hl.trans Ya;have h0:=hg 0 _ rfl;have h1:=hg 1 _ rfl;have h2:=hg 2 _ rfl;rw[List.getElem?_eq_getElem YS] at h0 h1 h2;obtain⟨y0,r0,q0⟩:=rd_ints hB m m (Nat.le_refl _) _ _ h0;obtain⟨y1,r1,q1⟩:=rd_ints hB m m (Nat.le_refl _) _ _ h1;obtain⟨y2,r2,q2⟩:=rd_inits hB m m (Nat.le_refl _) _ _ h2;have hz0:sz (xs[0]'YS).1<=sz x.1:=by rw[hx];exact hB.ag _ _ (List.mem_map.2 ⟨_,List.getElem_mem _,rfl⟩)
 replace q0:(λ(l:List _) (b:Nat)=>l.length<=b) y0 (sz x.1):=(λh1 h2=>Nat.le_trans h2 h1) hz0 q0;have hz1:sz (xs[1]'YS).1<=sz x.1:=by rw[hx];exact hB.ag _ _ (List.mem_map.2 ⟨_,List.getElem_mem _,rfl⟩)
 replace q1:(λ(l:List _) (b:Nat)=>l.length<=b) y1 (sz x.1):=(λh1 h2=>Nat.le_trans h2 h1) hz1 q1;refine⟨⟨y0,y1,y2⟩,?_,q0⟩;have:=(relL_join (a:=0) (n:=2) (m:=1) (relL_join (a:=0) (n:=1) (m:=1) r0 r1) r2);rwa [List.drop_zero,List.take_of_length_le Yb] at this
theorem rd_clss(hB:Bulk sz)(n:Nat):ReadsB enc Tryz.prog w base spare held sz n 22 (λl:List Cls=>[AV.sl 3 (l.map clsA)]) (λ(l:List Cls) (b:Nat)=>l.length<=b/\∀c∈l,c.parents.length<=b):=λfuel hf cs x h=>by
 obtain⟨l,hl,hq⟩:=readsB_slice (n:=n) hB (k:=3) (Q:=λ(c:Cls) (b:Nat)=>c.parents.length<=b) (λy a b=>λh1 h2=>Nat.le_trans h2 h1) Tryz.underlying22 Ya Yb (λ_=>rfl) (rd_cls hB n) fuel Yb cs x h;exact⟨l,hl,hq⟩
theorem rd_factN:∀n:Nat,Reads enc Tryz.prog w base spare held n 68 Fcells
 | 0,fuel,hf,cs,x,h=>by
  obtain⟨xs,m,rfl,_⟩:=DataW.trod_struct Tryz.underlying68 h;omega
 | n+1,fuel,hf,cs,x,h=>by
  obtain⟨xs,m,rfl,_,hl,hn,hg⟩:=DataW.trod_struct Tryz.underlying68 h;have hl:cs.length=6:=hl.trans Ya;have h0:=hg 0 _ rfl;have h1:=hg 1 _ rfl;have h2:=hg 2 _ rfl;have h3:=hg 3 _ rfl;have h4:=hg 4 _ rfl;have h5:=hg 5 _ rfl;rw[List.getElem?_eq_getElem YS] at h0 h1 h2 h3 h4 h5;have hi:Reads enc Tryz.prog w base spare held m 3 (λq:Int=>[AV.i q]):=reads_int Tryz.underlying3;obtain⟨y0,r0⟩:=reads_int (n:=m) Tryz.underlying65 m (Nat.le_refl _) _ _ h0;obtain⟨y1,r1⟩:=hi m (Nat.le_refl _) _ _ h1;obtain⟨y2,r2⟩:=reads_slice (n:=m) (k:=1) Tryz.underlying23 Ya Yb (λ_=>rfl) hi m Yb _ _ h2;obtain⟨y3,r3⟩:=hi m (Nat.le_refl _) _ _ h3;obtain⟨y4,r4⟩:=hi m (Nat.le_refl _) _ _ h4;obtain⟨y5,r5⟩:=reads_slice (n:=n) (k:=6) Tryz.underlying66 Ya Yb (λ_=>rfl) (rd_factN n) m Yb _ _ h5;refine⟨.mk y0 y1 y2 y3 y4 y5,?_⟩;have r5:RelL (allI w) w [AV.sl 6 (y5.map Fcells)] _:=r5;rw[<-encFs_map] at r5;have:=relL_join (a:=0) (n:=5) (m:=1) (relL_join (a:=0) (n:=4) (m:=1) (relL_join (a:=0) (n:=3) (m:=1) (relL_join (a:=0) (n:=2) (m:=1) (relL_join (a:=0) (n:=1) (m:=1) r0 r1) r2) r3) r4) r5;rwa [List.drop_zero,List.take_of_length_le Yb] at this
theorem rd_fact(hB:Bulk sz)(n:Nat):ReadsB enc Tryz.prog w base spare held sz n 68 Fcells (λ_ _=>True):=(rd_factN n).b
theorem rd_mth(hB:Bulk sz)(n:Nat):ReadsB enc Tryz.prog w base spare held sz n 70 (mthA) (λ_ _=>True):=λfuel hf cs x h=>by
 obtain⟨xs,m,rfl,hx,hl,hn,hg⟩:=DataW.trod_struct Tryz.underlying70 h;have hl:cs.length=9:=hl.trans Ya;have h0:=hg 0 _ rfl;have h1:=hg 1 _ rfl;have h2:=hg 2 _ rfl;have h3:=hg 3 _ rfl;rw[List.getElem?_eq_getElem YS] at h0 h1 h2 h3;obtain⟨y0,r0,q0⟩:=rd_FormKind hB m m (Nat.le_refl _) _ _ h0;obtain⟨y1,r1,q1⟩:=rd_int hB m m (Nat.le_refl _) _ _ h1;obtain⟨y2,r2,q2⟩:=rd_fact hB m m (Nat.le_refl _) _ _ h2;obtain⟨y3,r3,q3⟩:=rd_int hB m m (Nat.le_refl _) _ _ h3;refine⟨⟨y0,y1,y2,y3⟩,?_,trivial⟩;have:=(relL_join (a:=0) (n:=8) (m:=1) (relL_join (a:=0) (n:=2) (m:=6) (relL_join (a:=0) (n:=1) (m:=1) r0 r1) r2) r3);rwa [List.drop_zero,List.take_of_length_le Yb] at this
theorem rd_mths(hB:Bulk sz)(n:Nat):ReadsB enc Tryz.prog w base spare held sz n 24 (λl:List Mth=>[AV.sl 9 (l.map mthA)]) (λ_ _=>True):=λfuel hf cs x h=>by
 obtain⟨l,hl,_⟩:=readsB_slice (n:=n) hB (k:=9) (Q:=λ_ _=>True) (λy a b=>λ_ _=>trivial) Tryz.underlying24 Ya Yb (λ_=>rfl) (rd_mth hB n) fuel Yb cs x h;exact⟨l,hl,trivial⟩
theorem rd_nd(hB:Bulk sz)(n:Nat):ReadsB enc Tryz.prog w base spare held sz n 73 (ndA) (λ_ _=>True):=λfuel hf cs x h=>by
 obtain⟨xs,m,rfl,hx,hl,hn,hg⟩:=DataW.trod_struct Tryz.underlying73 h;have hl:cs.length=3:=hl.trans Ya;have h0:=hg 0 _ rfl;have h1:=hg 1 _ rfl;have h2:=hg 2 _ rfl;rw[List.getElem?_eq_getElem YS] at h0 h1 h2;obtain⟨y0,r0,q0⟩:=rd_FormOp hB m m (Nat.le_refl _) _ _ h0;obtain⟨y1,r1,q1⟩:=rd_int hB m m (Nat.le_refl _) _ _ h1;obtain⟨y2,r2,q2⟩:=rd_ints hB m m (Nat.le_refl _) _ _ h2;have hz2:sz (xs[2]'YS).1<=sz x.1:=by rw[hx];exact hB.ag _ _ (List.mem_map.2 ⟨_,List.getElem_mem _,rfl⟩)
 replace q2:(λ(l:List _) (b:Nat)=>l.length<=b) y2 (sz x.1):=(λh1 h2=>Nat.le_trans h2 h1) hz2 q2;refine⟨⟨y0,y1,y2⟩,?_,trivial⟩;have:=(relL_join (a:=0) (n:=2) (m:=1) (relL_join (a:=0) (n:=1) (m:=1) r0 r1) r2);rwa [List.drop_zero,List.take_of_length_le Yb] at this
theorem rd_nds(hB:Bulk sz)(n:Nat):ReadsB enc Tryz.prog w base spare held sz n 25 (λl:List Nd=>[AV.sl 3 (l.map ndA)]) (λ_ _=>True):=λfuel hf cs x h=>by
 obtain⟨l,hl,_⟩:=readsB_slice (n:=n) hB (k:=3) (Q:=λ_ _=>True) (λy a b=>λ_ _=>trivial) Tryz.underlying25 Ya Yb (λ_=>rfl) (rd_nd hB n) fuel Yb cs x h;exact⟨l,hl,trivial⟩
theorem rd_prog(hB:Bulk sz)(n:Nat):ReadsB enc Tryz.prog w base spare held sz n 27 (progC) (λ(p:Prog) (b:Nat)=>p.classes.length<=b/\∀c∈p.classes,c.parents.length<=b):=λfuel hf cs x h=>by
 obtain⟨xs,m,rfl,hx,hl,hn,hg⟩:=DataW.trod_struct Tryz.underlying27 h;have hl:cs.length=6:=hl.trans Ya;have h0:=hg 0 _ rfl;have h1:=hg 1 _ rfl;have h2:=hg 2 _ rfl;have h3:=hg 3 _ rfl;have h4:=hg 4 _ rfl;have h5:=hg 5 _ rfl;rw[List.getElem?_eq_getElem YS] at h0 h1 h2 h3 h4 h5;obtain⟨y0,r0,q0⟩:=rd_clss hB m m (Nat.le_refl _) _ _ h0;obtain⟨y1,r1,q1⟩:=rd_int hB m m (Nat.le_refl _) _ _ h1;obtain⟨y2,r2,q2⟩:=rd_ints hB m m (Nat.le_refl _) _ _ h2;obtain⟨y3,r3,q3⟩:=rd_mths hB m m (Nat.le_refl _) _ _ h3;obtain⟨y4,r4,q4⟩:=rd_nds hB m m (Nat.le_refl _) _ _ h4;obtain⟨y5,r5,q5⟩:=rd_int hB m m (Nat.le_refl _) _ _ h5;have hz0:sz (xs[0]'YS).1<=sz x.1:=by rw[hx];exact hB.ag _ _ (List.mem_map.2 ⟨_,List.getElem_mem _,rfl⟩)
 replace q0:(λ(l:List Cls) (b:Nat)=>l.length<=b/\∀c∈l,c.parents.length<=b) y0 (sz x.1):=(λh1 h2=>⟨Nat.le_trans h2.1 h1,λc hc=>Nat.le_trans (h2.2 c hc) h1⟩) hz0 q0;have hz2:sz (xs[2]'YS).1<=sz x.1:=by rw[hx];exact hB.ag _ _ (List.mem_map.2 ⟨_,List.getElem_mem _,rfl⟩)
 replace q2:(λ(l:List _) (b:Nat)=>l.length<=b) y2 (sz x.1):=(λh1 h2=>Nat.le_trans h2 h1) hz2 q2;refine⟨⟨y0,y1,y2,y3,y4,y5⟩,?_,q0⟩;have:=(relL_join (a:=0) (n:=5) (m:=1) (relL_join (a:=0) (n:=4) (m:=1) (relL_join (a:=0) (n:=3) (m:=1) (relL_join (a:=0) (n:=2) (m:=1) (relL_join (a:=0) (n:=1) (m:=1) r0 r1) r2) r3) r4) r5);rwa [List.drop_zero,List.take_of_length_le Yb] at this
theorem rd_val(hB:Bulk sz)(n:Nat):ReadsB enc Tryz.prog w base spare held sz n 45 (initA) (λ_ _=>True):=λfuel hf cs x h=>by
 obtain⟨xs,m,rfl,hx,hl,hn,hg⟩:=DataW.trod_struct Tryz.underlying45 h;have hl:cs.length=2:=hl.trans Ya;have h0:=hg 0 _ rfl;have h1:=hg 1 _ rfl;rw[List.getElem?_eq_getElem YS] at h0 h1;obtain⟨y0,r0,q0⟩:=rd_MeanKind hB m m (Nat.le_refl _) _ _ h0;obtain⟨y1,r1,q1⟩:=rd_int hB m m (Nat.le_refl _) _ _ h1;refine⟨⟨y0,y1⟩,?_,trivial⟩;have:=(relL_join (a:=0) (n:=1) (m:=1) r0 r1);rwa [List.drop_zero,List.take_of_length_le Yb] at this
theorem rd_vals(hB:Bulk sz)(n:Nat):ReadsB enc Tryz.prog w base spare held sz n 33 (λl:List (Int×Int)=>[AV.mvs l]) (λ_ _=>True):=λfuel hf cs x h=>by
 obtain⟨l,hl,_⟩:=readsB_slice (n:=n) hB (k:=2) (Q:=λ_ _=>True) (λy a b=>λ_ _=>trivial) Tryz.underlying33 Ya Yb (λ_=>rfl) (rd_val hB n) fuel Yb cs x h;exact⟨l,hl,trivial⟩
theorem rd_th(hB:Bulk sz)(n:Nat):ReadsB enc Tryz.prog w base spare held sz n 35 (thA) (λ_ _=>True):=λfuel hf cs x h=>by
 obtain⟨xs,m,rfl,hx,hl,hn,hg⟩:=DataW.trod_struct Tryz.underlying35 h;have hl:cs.length=2:=hl.trans Ya;have h0:=hg 0 _ rfl;have h1:=hg 1 _ rfl;rw[List.getElem?_eq_getElem YS] at h0 h1;obtain⟨y0,r0,q0⟩:=rd_int hB m m (Nat.le_refl _) _ _ h0;obtain⟨y1,r1,q1⟩:=rd_vals hB m m (Nat.le_refl _) _ _ h1;refine⟨⟨y0,y1⟩,?_,trivial⟩;have:=(relL_join (a:=0) (n:=1) (m:=1) r0 r1);rwa [List.drop_zero,List.take_of_length_le Yb] at this
theorem rd_ths(hB:Bulk sz)(n:Nat):ReadsB enc Tryz.prog w base spare held sz n 28 (λl:List Th=>[AV.ths l]) (λ_ _=>True):=λfuel hf cs x h=>by
 obtain⟨l,hl,_⟩:=readsB_slice (n:=n) hB (k:=2) (Q:=λ_ _=>True) (λy a b=>λ_ _=>trivial) Tryz.underlying28 Ya Yb (λ_=>rfl) (rd_th hB n) fuel Yb cs x h;exact⟨l,hl,trivial⟩
end
section
variable{H:Type}{enc:TypeId×Value->H}{w:World}{v:Value}{d:DataW H}{ps:List MemPlace}{base base':Nat}{r:Reach}{sz:DataW H->Nat}
theorem prog_of(hB:Bulk sz)(h:DataW.Trod enc Tryz.prog w base (λ_=>true) true 27 v d ps):∃g:Prog,Rel (allI w) w (AV.prog g) v/\(g.classes.length<=sz d/\∀c∈g.classes,c.parents.length<=sz d):=by
 obtain⟨fuel,h⟩:=h;obtain⟨g,hg,hq⟩:=rd_prog hB fuel fuel (Nat.le_refl _) _ _ h;exact⟨g,rel_agg hg Yl,hq⟩
theorem ths_of(hB:Bulk sz)(h:DataW.Trod enc Tryz.prog w base (λ_=>true) true 28 v d ps):∃l:List Th,RelL (allI w) w [AV.ths l] v.cells.toList:=by
 obtain⟨fuel,h⟩:=h;obtain⟨g,hg,_⟩:=rd_ths hB fuel fuel (Nat.le_refl _) _ _ h;exact⟨g,hg⟩
theorem small_of{p:Prog}{n:Nat}(hn:n<=1048576)(h:p.classes.length<=n/\∀c∈p.classes,c.parents.length<=n):p.Small:=⟨Yb,λc hc=>by have:=h.2 c hc;omega⟩
end
theorem bulk_pos{H:Type}(d:DataW H):1<=Rows.uptoBulk d:=by
 cases d with
 | lit l=>cases l <;> simp[Rows.uptoBulk]
 | _=>simp[Rows.uptoBulk]
theorem bulk_len{H:Type}:∀l:List (DataW H),l.length<=Rows.uptoBulkAll l
 | []=>by simp
 | d::r=>by
  have h1:=bulk_pos d;have h2:=bulk_len r;simp only[Rows.uptoBulkAll,List.length_cons];omega
theorem bulk_el{H:Type}:∀l:List (DataW H),∀e∈l,Rows.uptoBulk e<=Rows.uptoBulkAll l
 | d::r,e,he=>by
  simp only[Rows.uptoBulkAll];rcases List.mem_cons.1 he with rfl | he
  ·omega
  ·have:=bulk_el r e he;omega
theorem bulk{H:Type}:Bulk (Rows.uptoBulk (H:=H)):=
 ⟨λes sp=>by have:=bulk_len es;simp only[Rows.uptoBulk];omega,λes sp e he=>by have:=bulk_el es e he;simp only[Rows.uptoBulk];omega,λps e he=>by have:=bulk_el ps e he;simp only[Rows.uptoBulk];omega⟩
end Go.Proofs.YtkifepjiiokfpaaGreat
