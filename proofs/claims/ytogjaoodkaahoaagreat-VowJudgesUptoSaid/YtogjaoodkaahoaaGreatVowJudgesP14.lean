/- Part 14 of the proof: contracts of functions of the program and what they need. No condition beyond those that each theorem names. -/
import Derived.Test.YtogjaoodkaahoaaGreatVowJudgesP13
import Derived.DeepKeys4
import Derived.Test.YtogjaoodkaahoaaGreatProg
import Derived.KernelRfl
set_option maxHeartbeats 1000000
set_option linter.unusedVariables false
set_option linter.unusedSimpArgs false
set_option maxRecDepth 10000
namespace Go.Proofs.YtogjaoodkaahoaaGreat
open Go.Eng
open Go.Eng.Fc
open Go.Eng.Bd
variable{α:Type}{B i s k off j:Nat}{f:Fn}{fs cs:List AV}{F:List Ent->Prop}{J Jx:List Fact->List Ent->Prop}{Hm:List Ent}{p:Int->Bool}{l:List Int}{W:FW}{deep left v:Int}{U U':List Nat}
theorem laidOut:laidOutB Tryz.prog=true:=by kernel_rfl
instance:HasTy Tryz.prog 3 (false,1):=⟨Ya⟩
instance:HasTy Tryz.prog 4 (false,1):=⟨Ya⟩
instance:HasTy Tryz.prog 9 (false,1):=⟨Ya⟩
instance:HasTy Tryz.prog 22 (false,1):=⟨Ya⟩
instance:HasTy Tryz.prog 23 (false,1):=⟨Ya⟩
instance:HasTy Tryz.prog 24 (false,1):=⟨Ya⟩
instance:HasTy Tryz.prog 25 (false,1):=⟨Ya⟩
instance:HasTy Tryz.prog 27 (true,6):=⟨Ya⟩
instance:HasTy Tryz.prog 28 (false,1):=⟨Ya⟩
instance:HasTy Tryz.prog 30 (true,2):=⟨Ya⟩
instance:HasTy Tryz.prog 31 (false,1):=⟨Ya⟩
instance:HasTy Tryz.prog 32 (false,1):=⟨Ya⟩
instance:HasTy Tryz.prog 35 (false,1):=⟨Ya⟩
instance:HasTy Tryz.prog 36 (false,1):=⟨Ya⟩
instance:HasTy Tryz.prog 38 (true,6):=⟨Ya⟩
instance:HasTy Tryz.prog 39 (false,1):=⟨Ya⟩
instance:HasTy Tryz.prog 41 (true,8):=⟨Ya⟩
instance:HasTy Tryz.prog 48 (false,1):=⟨Ya⟩
instance:HasTy Tryz.prog 50 (true,2):=⟨Ya⟩
instance:HasTy Tryz.prog 52 (true,5):=⟨Ya⟩
instance:HasTy Tryz.prog 55 (true,2):=⟨Ya⟩
instance:HasTy Tryz.prog 59 (false,1):=⟨Ya⟩
instance:HasTy Tryz.prog 60 (false,1):=⟨Ya⟩
instance:HasTy Tryz.prog 62 (true,4):=⟨Ya⟩
instance:HasTy Tryz.prog 87 (false,1):=⟨Ya⟩
instance:HasTy Tryz.prog 89 (true,3):=⟨Ya⟩
instance:HasTy Tryz.prog 90 (false,1):=⟨Ya⟩
instance:HasTy Tryz.prog 92 (true,3):=⟨Ya⟩
instance:HasTy Tryz.prog 93 (false,1):=⟨Ya⟩
instance:HasTy Tryz.prog 95 (true,9):=⟨Ya⟩
instance:HasTy Tryz.prog 98 (false,1):=⟨Ya⟩
instance:HasTy Tryz.prog 101 (true,2):=⟨Ya⟩
instance:HasTy Tryz.prog 103 (true,8):=⟨Ya⟩
instance:HasTy Tryz.prog 105 (true,33):=⟨Ya⟩
instance:HasTy Tryz.prog 112 (true,12):=⟨Ya⟩
instance:HasTy Tryz.prog 117 (true,27):=⟨Ya⟩
instance:HasTy Tryz.prog 133 (false,1):=⟨Ya⟩
instance:HasTy Tryz.prog 134 (false,1):=⟨Ya⟩
instance:HasTy Tryz.prog 135 (false,1):=⟨Ya⟩
instance:HasTy Tryz.prog 137 (true,6):=⟨Ya⟩
instance:HasTy Tryz.prog 151 (false,1):=⟨Ya⟩
instance:HasTy Tryz.prog 154 (false,1):=⟨Ya⟩
instance:HasTy Tryz.prog 155 (false,1):=⟨Ya⟩
instance:HasTy Tryz.prog 156 (false,1):=⟨Ya⟩
instance:HasTy Tryz.prog 157 (false,1):=⟨Ya⟩
instance:HasTy Tryz.prog 160 (false,1):=⟨Ya⟩
instance:HasTy Tryz.prog 179 (false,1):=⟨Ya⟩
instance:HasTy Tryz.prog 187 (false,1):=⟨Ya⟩
instance:HasTy Tryz.prog 193 (true,12):=⟨Ya⟩
instance:HasTy Tryz.prog 198 (true,4):=⟨Ya⟩
instance:HasTy Tryz.prog 215 (true,2):=⟨Ya⟩
instance:HasTy Tryz.prog 222 (true,2):=⟨Ya⟩
instance:HasTy Tryz.prog 243 (false,1):=⟨Ya⟩
instance:HasTy Tryz.prog 253 (false,1):=⟨Ya⟩
instance:HasTy Tryz.prog 260 (false,1):=⟨Ya⟩
instance:HasTy Tryz.prog 261 (false,1):=⟨Ya⟩
instance:HasTy Tryz.prog 275 (false,1):=⟨Ya⟩
instance:HasTy Tryz.prog 282 (true,2):=⟨Ya⟩
instance:HasTy Tryz.prog 290 (true,9):=⟨Ya⟩
instance:HasTy Tryz.prog 294 (false,1):=⟨Ya⟩
instance:HasTy Tryz.prog 312 (true,2):=⟨Ya⟩
instance:HasTy Tryz.prog 323 (false,1):=⟨Ya⟩
instance:HasTy Tryz.prog 324 (false,1):=⟨Ya⟩
instance:HasTy Tryz.prog 330 (false,1):=⟨Ya⟩
instance:HasTy Tryz.prog 340 (false,1):=⟨Ya⟩
instance:HasTy Tryz.prog 342 (false,1):=⟨Ya⟩
instance:HasTy Tryz.prog 344 (false,1):=⟨Ya⟩
instance:HasTy Tryz.prog 345 (false,1):=⟨Ya⟩
instance:HasTy Tryz.prog 349 (true,0):=⟨Ya⟩
instance:HasTy Tryz.prog 352 (true,2):=⟨Ya⟩
instance:HasTy Tryz.prog 353 (false,1):=⟨Ya⟩
instance:HasTy Tryz.prog 354 (false,1):=⟨Ya⟩
instance:HasTy Tryz.prog 358 (true,6):=⟨Ya⟩
instance:HasTy Tryz.prog 366 (true,2):=⟨Ya⟩
instance:HasTy Tryz.prog 370 (true,0):=⟨Ya⟩
instance:HasTy Tryz.prog 376 (false,1):=⟨Ya⟩
instance:HasTy Tryz.prog 382 (false,1):=⟨Ya⟩
instance:HasTy Tryz.prog 391 (false,1):=⟨Ya⟩
instance:HasTy Tryz.prog 392 (false,1):=⟨Ya⟩
instance:HasTy Tryz.prog 404 (false,1):=⟨Ya⟩
instance:HasTy Tryz.prog 422 (true,1):=⟨Ya⟩
instance:HasTy Tryz.prog 430 (false,1):=⟨Ya⟩
instance:HasTy Tryz.prog 432 (true,7):=⟨Ya⟩
instance:HasTy Tryz.prog 434 (true,0):=⟨Ya⟩
instance:HasTy Tryz.prog 436 (false,1):=⟨Ya⟩
instance:HasTy Tryz.prog 440 (false,1):=⟨Ya⟩
instance:HasTy Tryz.prog 442 (true,2):=⟨Ya⟩
instance:HasTy Tryz.prog 459 (true,6):=⟨Ya⟩
instance:HasTy Tryz.prog 475 (false,1):=⟨Ya⟩
instance:HasTy Tryz.prog 481 (true,4):=⟨Ya⟩
instance:HasTy Tryz.prog 487 (false,1):=⟨Ya⟩
instance:HasFld Tryz.prog 27 0 0:=⟨Ya⟩
instance:HasFld Tryz.prog 27 1 1:=⟨Ya⟩
instance:HasFld Tryz.prog 27 2 2:=⟨Ya⟩
instance:HasFld Tryz.prog 27 3 3:=⟨Ya⟩
instance:HasFld Tryz.prog 27 4 4:=⟨Ya⟩
instance:HasFld Tryz.prog 27 5 5:=⟨Ya⟩
instance:HasFld Tryz.prog 30 0 0:=⟨Ya⟩
instance:HasFld Tryz.prog 30 1 1:=⟨Ya⟩
instance:HasFld Tryz.prog 34 0 0:=⟨Ya⟩
instance:HasFld Tryz.prog 34 1 6:=⟨Ya⟩
instance:HasFld Tryz.prog 34 3 9:=⟨Ya⟩
instance:HasFld Tryz.prog 38 0 0:=⟨Ya⟩
instance:HasFld Tryz.prog 38 1 1:=⟨Ya⟩
instance:HasFld Tryz.prog 38 2 2:=⟨Ya⟩
instance:HasFld Tryz.prog 38 3 3:=⟨Ya⟩
instance:HasFld Tryz.prog 38 4 4:=⟨Ya⟩
instance:HasFld Tryz.prog 38 5 5:=⟨Ya⟩
instance:HasFld Tryz.prog 41 0 0:=⟨Ya⟩
instance:HasFld Tryz.prog 41 1 1:=⟨Ya⟩
instance:HasFld Tryz.prog 41 2 7:=⟨Ya⟩
instance:HasFld Tryz.prog 50 0 0:=⟨Ya⟩
instance:HasFld Tryz.prog 50 1 1:=⟨Ya⟩
instance:HasFld Tryz.prog 52 0 0:=⟨Ya⟩
instance:HasFld Tryz.prog 52 1 1:=⟨Ya⟩
instance:HasFld Tryz.prog 52 2 2:=⟨Ya⟩
instance:HasFld Tryz.prog 52 3 4:=⟨Ya⟩
instance:HasFld Tryz.prog 62 0 0:=⟨Ya⟩
instance:HasFld Tryz.prog 62 1 1:=⟨Ya⟩
instance:HasFld Tryz.prog 62 2 2:=⟨Ya⟩
instance:HasFld Tryz.prog 62 3 3:=⟨Ya⟩
instance:HasFld Tryz.prog 89 0 0:=⟨Ya⟩
instance:HasFld Tryz.prog 89 1 1:=⟨Ya⟩
instance:HasFld Tryz.prog 89 2 2:=⟨Ya⟩
instance:HasFld Tryz.prog 92 0 0:=⟨Ya⟩
instance:HasFld Tryz.prog 92 1 1:=⟨Ya⟩
instance:HasFld Tryz.prog 92 2 2:=⟨Ya⟩
instance:HasFld Tryz.prog 95 0 0:=⟨Ya⟩
instance:HasFld Tryz.prog 95 1 1:=⟨Ya⟩
instance:HasFld Tryz.prog 95 2 2:=⟨Ya⟩
instance:HasFld Tryz.prog 95 3 8:=⟨Ya⟩
instance:HasFld Tryz.prog 101 0 0:=⟨Ya⟩
instance:HasFld Tryz.prog 101 1 1:=⟨Ya⟩
instance:HasFld Tryz.prog 103 0 0:=⟨Ya⟩
instance:HasFld Tryz.prog 103 1 6:=⟨Ya⟩
instance:HasFld Tryz.prog 105 0 0:=⟨Ya⟩
instance:HasFld Tryz.prog 105 1 8:=⟨Ya⟩
instance:HasFld Tryz.prog 105 2 17:=⟨Ya⟩
instance:HasFld Tryz.prog 105 3 25:=⟨Ya⟩
instance:HasFld Tryz.prog 112 0 0:=⟨Ya⟩
instance:HasFld Tryz.prog 112 1 6:=⟨Ya⟩
instance:HasFld Tryz.prog 117 0 0:=⟨Ya⟩
instance:HasFld Tryz.prog 117 2 11:=⟨Ya⟩
instance:HasFld Tryz.prog 117 3 19:=⟨Ya⟩
instance:HasFld Tryz.prog 137 0 0:=⟨Ya⟩
instance:HasFld Tryz.prog 137 1 1:=⟨Ya⟩
instance:HasFld Tryz.prog 137 2 3:=⟨Ya⟩
instance:HasFld Tryz.prog 137 3 4:=⟨Ya⟩
instance:HasFld Tryz.prog 137 4 5:=⟨Ya⟩
instance:HasFld Tryz.prog 159 0 0:=⟨Ya⟩
instance:HasFld Tryz.prog 159 1 4:=⟨Ya⟩
instance:HasFld Tryz.prog 159 3 12:=⟨Ya⟩
instance:HasFld Tryz.prog 159 4 13:=⟨Ya⟩
instance:HasFld Tryz.prog 159 5 14:=⟨Ya⟩
instance:HasFld Tryz.prog 159 6 15:=⟨Ya⟩
instance:HasFld Tryz.prog 159 7 16:=⟨Ya⟩
instance:HasFld Tryz.prog 159 8 17:=⟨Ya⟩
instance:HasFld Tryz.prog 193 0 0:=⟨Ya⟩
instance:HasFld Tryz.prog 193 1 6:=⟨Ya⟩
instance:HasFld Tryz.prog 198 0 0:=⟨Ya⟩
instance:HasFld Tryz.prog 198 1 1:=⟨Ya⟩
instance:HasFld Tryz.prog 215 0 0:=⟨Ya⟩
instance:HasFld Tryz.prog 215 1 1:=⟨Ya⟩
instance:HasFld Tryz.prog 222 0 0:=⟨Ya⟩
instance:HasFld Tryz.prog 222 1 1:=⟨Ya⟩
instance:HasFld Tryz.prog 282 0 0:=⟨Ya⟩
instance:HasFld Tryz.prog 282 1 1:=⟨Ya⟩
instance:HasFld Tryz.prog 290 0 0:=⟨Ya⟩
instance:HasFld Tryz.prog 290 1 1:=⟨Ya⟩
instance:HasFld Tryz.prog 290 2 4:=⟨Ya⟩
instance:HasFld Tryz.prog 290 3 7:=⟨Ya⟩
instance:HasFld Tryz.prog 290 4 8:=⟨Ya⟩
instance:HasFld Tryz.prog 299 0 0:=⟨Ya⟩
instance:HasFld Tryz.prog 299 1 6:=⟨Ya⟩
instance:HasFld Tryz.prog 299 2 10:=⟨Ya⟩
instance:HasFld Tryz.prog 312 0 0:=⟨Ya⟩
instance:HasFld Tryz.prog 312 1 1:=⟨Ya⟩
instance:HasFld Tryz.prog 327 0 0:=⟨Ya⟩
instance:HasFld Tryz.prog 327 1 2:=⟨Ya⟩
instance:HasFld Tryz.prog 348 0 0:=⟨Ya⟩
instance:HasFld Tryz.prog 348 1 6:=⟨Ya⟩
instance:HasFld Tryz.prog 348 2 7:=⟨Ya⟩
instance:HasFld Tryz.prog 348 3 9:=⟨Ya⟩
instance:HasFld Tryz.prog 348 4 10:=⟨Ya⟩
instance:HasFld Tryz.prog 352 1 1:=⟨Ya⟩
instance:HasFld Tryz.prog 356 0 0:=⟨Ya⟩
instance:HasFld Tryz.prog 356 1 6:=⟨Ya⟩
instance:HasFld Tryz.prog 356 2 7:=⟨Ya⟩
instance:HasFld Tryz.prog 358 0 0:=⟨Ya⟩
instance:HasFld Tryz.prog 358 1 1:=⟨Ya⟩
instance:HasFld Tryz.prog 358 2 2:=⟨Ya⟩
instance:HasFld Tryz.prog 358 3 3:=⟨Ya⟩
instance:HasFld Tryz.prog 358 4 4:=⟨Ya⟩
instance:HasFld Tryz.prog 358 5 5:=⟨Ya⟩
instance:HasFld Tryz.prog 384 0 0:=⟨Ya⟩
instance:HasFld Tryz.prog 384 1 1:=⟨Ya⟩
instance:HasFld Tryz.prog 384 2 2:=⟨Ya⟩
instance:HasFld Tryz.prog 432 0 0:=⟨Ya⟩
instance:HasFld Tryz.prog 432 1 6:=⟨Ya⟩
instance:HasFld Tryz.prog 442 0 0:=⟨Ya⟩
instance:HasFld Tryz.prog 442 1 1:=⟨Ya⟩
instance:HasFld Tryz.prog 454 0 0:=⟨Ya⟩
instance:HasFld Tryz.prog 454 1 6:=⟨Ya⟩
instance:HasFld Tryz.prog 454 2 8:=⟨Ya⟩
instance:HasFld Tryz.prog 459 0 0:=⟨Ya⟩
instance:HasFld Tryz.prog 459 1 2:=⟨Ya⟩
instance:HasFld Tryz.prog 459 2 3:=⟨Ya⟩
instance:HasFld Tryz.prog 459 3 4:=⟨Ya⟩
instance:HasFld Tryz.prog 459 4 5:=⟨Ya⟩
instance:HasFld Tryz.prog 477 0 0:=⟨Ya⟩
instance:HasFld Tryz.prog 477 1 1:=⟨Ya⟩
instance:HasFld Tryz.prog 481 1 1:=⟨Ya⟩
instance:HasFld Tryz.prog 481 2 2:=⟨Ya⟩
instance:HasFld Tryz.prog 498 0 0:=⟨Ya⟩
instance:HasFld Tryz.prog 498 1 1:=⟨Ya⟩
instance:HasFld Tryz.prog 498 2 2:=⟨Ya⟩
instance:HasFld Tryz.prog 500 0 0:=⟨Ya⟩
instance:HasFld Tryz.prog 500 1 3:=⟨Ya⟩
instance:HasFld Tryz.prog 500 2 4:=⟨Ya⟩
instance:HasFld Tryz.prog 500 3 5:=⟨Ya⟩
instance:HasFld Tryz.prog 500 4 6:=⟨Ya⟩
instance:HasFld Tryz.prog 500 5 7:=⟨Ya⟩
instance:HasSl Tryz.prog 22 3:=⟨Ya⟩
instance:HasSl Tryz.prog 23 1:=⟨Ya⟩
instance:HasSl Tryz.prog 24 9:=⟨Ya⟩
instance:HasSl Tryz.prog 25 3:=⟨Ya⟩
instance:HasSl Tryz.prog 28 8:=⟨Ya⟩
instance:HasSl Tryz.prog 31 2:=⟨Ya⟩
instance:HasSl Tryz.prog 32 2:=⟨Ya⟩
instance:HasSl Tryz.prog 36 6:=⟨Ya⟩
instance:HasSl Tryz.prog 39 12:=⟨Ya⟩
instance:HasSl Tryz.prog 59 1:=⟨Ya⟩
instance:HasSl Tryz.prog 60 1:=⟨Ya⟩
instance:HasSl Tryz.prog 90 2:=⟨Ya⟩
instance:HasSl Tryz.prog 135 3:=⟨Ya⟩
instance:HasSl Tryz.prog 154 1:=⟨Ya⟩
instance:HasSl Tryz.prog 155 1:=⟨Ya⟩
instance:HasSl Tryz.prog 194 4:=⟨Ya⟩
instance:HasSl Tryz.prog 382 1:=⟨Ya⟩
instance:HasSl Tryz.prog 391 7:=⟨Ya⟩
instance:HasSl Tryz.prog 411 1:=⟨Ya⟩
instance:HasArr Tryz.prog 288 (3,1):=⟨Ya⟩
instance:HasArr Tryz.prog 325 (63,1):=⟨Ya⟩
instance:HasArr Tryz.prog 366 (2,1):=⟨Ya⟩
instance:HasArr Tryz.prog 422 (1,1):=⟨Ya⟩
instance:HasArr Tryz.prog 455 (5,1):=⟨Ya⟩
instance:HasZero Tryz.prog 3 [.int .i64 0]:=⟨Ya⟩
instance:HasZero Tryz.prog 4 [.bool false]:=⟨Ya⟩
instance:HasZero Tryz.prog 23 [.slice none 0 0]:=⟨Ya⟩
instance:HasZero Tryz.prog 27 [.slice none 0 0,.int .i64 0,.slice none 0 0,.slice none 0 0,.slice none 0 0,.int .i64 0]:=⟨Ya⟩
instance:HasZero Tryz.prog 30 [.slice none 0 0,.slice none 0 0]:=⟨Ya⟩
instance:HasZero Tryz.prog 38 [.int .i64 0,.int .i64 0,.slice none 0 0,.int .i64 0,.int .i64 0,.slice none 0 0]:=⟨Ya⟩
instance:HasZero Tryz.prog 41 [.int .i64 0,.int .i64 0,.int .i64 0,.slice none 0 0,.int .i64 0,.int .i64 0,.slice none 0 0,.slice none 0 0]:=⟨Ya⟩
instance:HasZero Tryz.prog 50 [.int .i64 0,.int .i64 0]:=⟨Ya⟩
instance:HasZero Tryz.prog 52 [.slice none 0 0,.slice none 0 0,.int .i64 0,.int .i64 0,.slice none 0 0]:=⟨Ya⟩
instance:HasZero Tryz.prog 55 [.int .i64 0,.int .i64 0]:=⟨Ya⟩
instance:HasZero Tryz.prog 62 [.slice none 0 0,.slice none 0 0,.slice none 0 0,.slice none 0 0]:=⟨Ya⟩
instance:HasZero Tryz.prog 89 [.int .i64 0,.int .i64 0,.slice none 0 0]:=⟨Ya⟩
instance:HasZero Tryz.prog 92 [.slice none 0 0,.slice none 0 0,.slice none 0 0]:=⟨Ya⟩
instance:HasZero Tryz.prog 95 [.int .i64 0,.int .i64 0,.int .i64 0,.int .i64 0,.slice none 0 0,.int .i64 0,.int .i64 0,.slice none 0 0,.int .i64 0]:=⟨Ya⟩
instance:HasZero Tryz.prog 98 [.nilFunc]:=⟨Ya⟩
instance:HasZero Tryz.prog 101 [.slice none 0 0,.slice none 0 0]:=⟨Ya⟩
instance:HasZero Tryz.prog 103 [.slice none 0 0,.int .i64 0,.slice none 0 0,.slice none 0 0,.slice none 0 0,.int .i64 0,.slice none 0 0,.slice none 0 0]:=⟨Ya⟩
instance:HasZero Tryz.prog 105 [.slice none 0 0,.int .i64 0,.slice none 0 0,.slice none 0 0,.slice none 0 0,.int .i64 0,.slice none 0 0,.slice none 0 0,.int .i64 0,.int .i64 0,.int .i64 0,.int .i64 0,.slice none 0 0,.int .i64 0,.int .i64 0,.slice none 0 0,.int .i64 0,.int .i64 0,.int .i64 0,.int .i64 0,.slice none 0 0,.int .i64 0,.int .i64 0,.slice none 0 0,.slice none 0 0,.int .i64 0,.int .i64 0,.int .i64 0,.slice none 0 0,.int .i64 0,.int .i64 0,.slice none 0 0,.slice none 0 0]:=⟨Ya⟩
instance:HasZero Tryz.prog 112 [.int .i64 0,.int .i64 0,.slice none 0 0,.int .i64 0,.int .i64 0,.slice none 0 0,.int .i64 0,.int .i64 0,.slice none 0 0,.int .i64 0,.int .i64 0,.slice none 0 0]:=⟨Ya⟩
instance:HasZero Tryz.prog 117 [.slice none 0 0,.slice none 0 0,.int .i64 0,.int .i64 0,.int .i64 0,.int .i64 0,.slice none 0 0,.int .i64 0,.int .i64 0,.slice none 0 0,.int .i64 0,.int .i64 0,.int .i64 0,.int .i64 0,.slice none 0 0,.int .i64 0,.int .i64 0,.slice none 0 0,.slice none 0 0,.int .i64 0,.int .i64 0,.int .i64 0,.slice none 0 0,.int .i64 0,.int .i64 0,.slice none 0 0,.slice none 0 0]:=⟨Ya⟩
instance:HasZero Tryz.prog 137 [.int .i64 0,.int .i64 0,.int .i64 0,.slice none 0 0,.slice none 0 0,.int .i64 0]:=⟨Ya⟩
instance:HasZero Tryz.prog 151 [.pointer none]:=⟨Ya⟩
instance:HasZero Tryz.prog 160 [.int .u8 0]:=⟨Ya⟩
instance:HasZero Tryz.prog 193 [.int .i64 0,.int .i64 0,.slice none 0 0,.int .i64 0,.int .i64 0,.slice none 0 0,.int .i64 0,.int .i64 0,.slice none 0 0,.int .i64 0,.int .i64 0,.slice none 0 0]:=⟨Ya⟩
instance:HasZero Tryz.prog 198 [.slice none 0 0,.int .i64 0,.int .i64 0,.slice none 0 0]:=⟨Ya⟩
instance:HasZero Tryz.prog 215 [.int .i64 0,.int .i64 0]:=⟨Ya⟩
instance:HasZero Tryz.prog 222 [.int .i64 0,.bool false]:=⟨Ya⟩
instance:HasZero Tryz.prog 261 [.nilFunc]:=⟨Ya⟩
instance:HasZero Tryz.prog 275 [.pointer none]:=⟨Ya⟩
instance:HasZero Tryz.prog 282 [.int .i64 0,.slice none 0 0]:=⟨Ya⟩
instance:HasZero Tryz.prog 290 [.int .i64 0,.int .i64 0,.int .i64 0,.slice none 0 0,.int .i64 0,.int .i64 0,.int .i64 0,.slice none 0 0,.int .i64 0]:=⟨Ya⟩
instance:HasZero Tryz.prog 312 [.int .i64 0,.int .i64 0]:=⟨Ya⟩
instance:HasZero Tryz.prog 330 [.map none]:=⟨Ya⟩
instance:HasZero Tryz.prog 349 []:=⟨Ya⟩
instance:HasZero Tryz.prog 352 [.int .i64 0,.string ⟨#[]⟩]:=⟨Ya⟩
instance:HasZero Tryz.prog 358 [.slice none 0 0,.bool false,.slice none 0 0,.slice none 0 0,.bool false,.slice none 0 0]:=⟨Ya⟩
instance:HasZero Tryz.prog 366 [.int .i64 0,.int .i64 0]:=⟨Ya⟩
instance:HasZero Tryz.prog 370 []:=⟨Ya⟩
instance:HasZero Tryz.prog 376 [.nilFunc]:=⟨Ya⟩
instance:HasZero Tryz.prog 422 [.int .u64 0]:=⟨Ya⟩
instance:HasZero Tryz.prog 430 [.nilFunc]:=⟨Ya⟩
instance:HasZero Tryz.prog 432 [.int .i64 0,.int .i64 0,.slice none 0 0,.int .i64 0,.int .i64 0,.slice none 0 0,.bool false]:=⟨Ya⟩
instance:HasZero Tryz.prog 434 []:=⟨Ya⟩
instance:HasZero Tryz.prog 455 [.slice none 0 0,.slice none 0 0,.slice none 0 0,.slice none 0 0,.slice none 0 0]:=⟨Ya⟩
instance:HasZero Tryz.prog 459 [.slice none 0 0,.slice none 0 0,.slice none 0 0,.int .i64 0,.slice none 0 0,.bool false]:=⟨Ya⟩
instance:HasZero Tryz.prog 481 [.int .i64 0,.int .i64 0,.int .i64 0,.int .i64 0]:=⟨Ya⟩
instance:HasZero Tryz.prog 487 [.int .u64 0]:=⟨Ya⟩
instance:IsB Tryz.prog 4:=⟨Ya⟩
instance:HasInt Tryz.prog 3 .i64:=⟨Ya⟩
instance:HasInt Tryz.prog 5 .u8:=⟨Ya⟩
instance:HasInt Tryz.prog 21 .i32:=⟨Ya⟩
instance:HasInt Tryz.prog 82 .u16:=⟨Ya⟩
instance:HasInt Tryz.prog 323 .u64:=⟨Ya⟩
instance:HasInt Tryz.prog 373 .u64:=⟨Ya⟩
instance:HasInt Tryz.prog 414 .u32:=⟨Ya⟩
instance:HasInt Tryz.prog 487 .u64:=⟨Ya⟩
theorem key481:Go.Maps.Keyed Tryz.prog 481:=Go.Maps.Keyed.of_law (deep_law_laid laidOut (m:=3) Yb (of_decide_eq_true Ya) Ya Ya)
instance:HasMap Tryz.prog 475 (481,495):=⟨Ya,key481,Ya⟩
instance:HasBuild Tryz.prog 27 ([.slice none 0 0,.int .i64 0,.slice none 0 0,.slice none 0 0,.slice none 0 0,.int .i64 0],[(0,1),(1,1),(2,1),(3,1),(4,1),(5,1)]):=⟨Ya⟩
instance:HasBuild Tryz.prog 30 ([.slice none 0 0,.slice none 0 0],[(0,1),(1,1)]):=⟨Ya⟩
instance:HasBuild Tryz.prog 38 ([.int .i64 0,.int .i64 0,.slice none 0 0,.int .i64 0,.int .i64 0,.slice none 0 0],[(0,1),(1,1),(2,1),(3,1),(4,1),(5,1)]):=⟨Ya⟩
instance:HasBuild Tryz.prog 41 ([.int .i64 0,.int .i64 0,.int .i64 0,.slice none 0 0,.int .i64 0,.int .i64 0,.slice none 0 0,.slice none 0 0],[(0,1),(1,6),(7,1)]):=⟨Ya⟩
instance:HasBuild Tryz.prog 50 ([.int .i64 0,.int .i64 0],[(0,1),(1,1)]):=⟨Ya⟩
instance:HasBuild Tryz.prog 52 ([.slice none 0 0,.slice none 0 0,.int .i64 0,.int .i64 0,.slice none 0 0],[(0,1),(1,1),(2,2),(4,1)]):=⟨Ya⟩
instance:HasBuild Tryz.prog 55 ([.int .i64 0,.int .i64 0],[(0,1),(1,1)]):=⟨Ya⟩
instance:HasBuild Tryz.prog 62 ([.slice none 0 0,.slice none 0 0,.slice none 0 0,.slice none 0 0],[(0,1),(1,1),(2,1),(3,1)]):=⟨Ya⟩
instance:HasBuild Tryz.prog 89 ([.int .i64 0,.int .i64 0,.slice none 0 0],[(0,1),(1,1),(2,1)]):=⟨Ya⟩
instance:HasBuild Tryz.prog 92 ([.slice none 0 0,.slice none 0 0,.slice none 0 0],[(0,1),(1,1),(2,1)]):=⟨Ya⟩
instance:HasBuild Tryz.prog 95 ([.int .i64 0,.int .i64 0,.int .i64 0,.int .i64 0,.slice none 0 0,.int .i64 0,.int .i64 0,.slice none 0 0,.int .i64 0],[(0,1),(1,1),(2,6),(8,1)]):=⟨Ya⟩
instance:HasBuild Tryz.prog 101 ([.slice none 0 0,.slice none 0 0],[(0,1),(1,1)]):=⟨Ya⟩
instance:HasBuild Tryz.prog 103 ([.slice none 0 0,.int .i64 0,.slice none 0 0,.slice none 0 0,.slice none 0 0,.int .i64 0,.slice none 0 0,.slice none 0 0],[(0,6),(6,2)]):=⟨Ya⟩
instance:HasBuild Tryz.prog 105 ([.slice none 0 0,.int .i64 0,.slice none 0 0,.slice none 0 0,.slice none 0 0,.int .i64 0,.slice none 0 0,.slice none 0 0,.int .i64 0,.int .i64 0,.int .i64 0,.int .i64 0,.slice none 0 0,.int .i64 0,.int .i64 0,.slice none 0 0,.int .i64 0,.int .i64 0,.int .i64 0,.int .i64 0,.slice none 0 0,.int .i64 0,.int .i64 0,.slice none 0 0,.slice none 0 0,.int .i64 0,.int .i64 0,.int .i64 0,.slice none 0 0,.int .i64 0,.int .i64 0,.slice none 0 0,.slice none 0 0],[(0,8),(8,9),(17,8),(25,8)]):=⟨Ya⟩
instance:HasBuild Tryz.prog 112 ([.int .i64 0,.int .i64 0,.slice none 0 0,.int .i64 0,.int .i64 0,.slice none 0 0,.int .i64 0,.int .i64 0,.slice none 0 0,.int .i64 0,.int .i64 0,.slice none 0 0],[(0,6),(6,6)]):=⟨Ya⟩
instance:HasBuild Tryz.prog 117 ([.slice none 0 0,.slice none 0 0,.int .i64 0,.int .i64 0,.int .i64 0,.int .i64 0,.slice none 0 0,.int .i64 0,.int .i64 0,.slice none 0 0,.int .i64 0,.int .i64 0,.int .i64 0,.int .i64 0,.slice none 0 0,.int .i64 0,.int .i64 0,.slice none 0 0,.slice none 0 0,.int .i64 0,.int .i64 0,.int .i64 0,.slice none 0 0,.int .i64 0,.int .i64 0,.slice none 0 0,.slice none 0 0],[(0,2),(2,9),(11,8),(19,8)]):=⟨Ya⟩
instance:HasBuild Tryz.prog 137 ([.int .i64 0,.int .i64 0,.int .i64 0,.slice none 0 0,.slice none 0 0,.int .i64 0],[(0,1),(1,2),(3,1),(4,1),(5,1)]):=⟨Ya⟩
instance:HasBuild Tryz.prog 159 ([.slice none 0 0,.slice none 0 0,.slice none 0 0,.slice none 0 0,.slice none 0 0,.int .i64 0,.slice none 0 0,.slice none 0 0,.slice none 0 0,.int .i64 0,.slice none 0 0,.slice none 0 0,.slice none 0 0,.slice none 0 0,.slice none 0 0,.map none,.map none,.bool false],[(0,4),(4,6),(10,2),(12,1),(13,1),(14,1),(15,1),(16,1),(17,1)]):=⟨Ya⟩
instance:HasBuild Tryz.prog 193 ([.int .i64 0,.int .i64 0,.slice none 0 0,.int .i64 0,.int .i64 0,.slice none 0 0,.int .i64 0,.int .i64 0,.slice none 0 0,.int .i64 0,.int .i64 0,.slice none 0 0],[(0,6),(6,6)]):=⟨Ya⟩
instance:HasBuild Tryz.prog 198 ([.slice none 0 0,.int .i64 0,.int .i64 0,.slice none 0 0],[(0,1),(1,3)]):=⟨Ya⟩
instance:HasBuild Tryz.prog 215 ([.int .i64 0,.int .i64 0],[(0,1),(1,1)]):=⟨Ya⟩
instance:HasBuild Tryz.prog 222 ([.int .i64 0,.bool false],[(0,1),(1,1)]):=⟨Ya⟩
instance:HasBuild Tryz.prog 282 ([.int .i64 0,.slice none 0 0],[(0,1),(1,1)]):=⟨Ya⟩
instance:HasBuild Tryz.prog 290 ([.int .i64 0,.int .i64 0,.int .i64 0,.slice none 0 0,.int .i64 0,.int .i64 0,.int .i64 0,.slice none 0 0,.int .i64 0],[(0,1),(1,3),(4,3),(7,1),(8,1)]):=⟨Ya⟩
instance:HasBuild Tryz.prog 299 ([.slice none 0 0,.int .i64 0,.slice none 0 0,.slice none 0 0,.slice none 0 0,.int .i64 0,.slice none 0 0,.slice none 0 0,.slice none 0 0,.slice none 0 0,.slice none 0 0],[(0,6),(6,4),(10,1)]):=⟨Ya⟩
instance:HasBuild Tryz.prog 312 ([.int .i64 0,.int .i64 0],[(0,1),(1,1)]):=⟨Ya⟩
instance:HasBuild Tryz.prog 319 ([],[]):=⟨Ya⟩
instance:HasBuild Tryz.prog 327 ([.slice none 0 0,.slice none 0 0,.int .u64 0,.int .u64 0,.int .u64 0,.int .u64 0,.int .u64 0,.int .u64 0,.int .u64 0,.int .u64 0,.int .u64 0,.int .u64 0,.int .u64 0,.int .u64 0,.int .u64 0,.int .u64 0,.int .u64 0,.int .u64 0,.int .u64 0,.int .u64 0,.int .u64 0,.int .u64 0,.int .u64 0,.int .u64 0,.int .u64 0,.int .u64 0,.int .u64 0,.int .u64 0,.int .u64 0,.int .u64 0,.int .u64 0,.int .u64 0,.int .u64 0,.int .u64 0,.int .u64 0,.int .u64 0,.int .u64 0,.int .u64 0,.int .u64 0,.int .u64 0,.int .u64 0,.int .u64 0,.int .u64 0,.int .u64 0,.int .u64 0,.int .u64 0,.int .u64 0,.int .u64 0,.int .u64 0,.int .u64 0,.int .u64 0,.int .u64 0,.int .u64 0,.int .u64 0,.int .u64 0,.int .u64 0,.int .u64 0,.int .u64 0,.int .u64 0,.int .u64 0,.int .u64 0,.int .u64 0,.int .u64 0,.int .u64 0,.int .u64 0],[(0,2),(2,63)]):=⟨Ya⟩
instance:HasBuild Tryz.prog 348 ([.int .i64 0,.int .i64 0,.int .i64 0,.slice none 0 0,.slice none 0 0,.int .i64 0,.pointer none,.slice none 0 0,.slice none 0 0,.map none,.map none],[(0,6),(6,1),(7,2),(9,1),(10,1)]):=⟨Ya⟩
instance:HasBuild Tryz.prog 349 ([],[]):=⟨Ya⟩
instance:HasBuild Tryz.prog 352 ([.int .i64 0,.string ⟨#[]⟩],[(0,1),(1,1)]):=⟨Ya⟩
instance:HasBuild Tryz.prog 356 ([.slice none 0 0,.int .i64 0,.slice none 0 0,.slice none 0 0,.slice none 0 0,.int .i64 0,.map none,.map none],[(0,6),(6,1),(7,1)]):=⟨Ya⟩
instance:HasBuild Tryz.prog 358 ([.slice none 0 0,.bool false,.slice none 0 0,.slice none 0 0,.bool false,.slice none 0 0],[(0,1),(1,1),(2,1),(3,1),(4,1),(5,1)]):=⟨Ya⟩
instance:HasBuild Tryz.prog 366 ([.int .i64 0,.int .i64 0],[(0,1),(1,1)]):=⟨Ya⟩
instance:HasBuild Tryz.prog 370 ([],[]):=⟨Ya⟩
instance:HasBuild Tryz.prog 384 ([.slice none 0 0,.slice none 0 0,.map none],[(0,1),(1,1),(2,1)]):=⟨Ya⟩
instance:HasBuild Tryz.prog 422 ([.int .u64 0],[(0,1)]):=⟨Ya⟩
instance:HasBuild Tryz.prog 432 ([.int .i64 0,.int .i64 0,.slice none 0 0,.int .i64 0,.int .i64 0,.slice none 0 0,.bool false],[(0,6),(6,1)]):=⟨Ya⟩
instance:HasBuild Tryz.prog 434 ([],[]):=⟨Ya⟩
instance:HasBuild Tryz.prog 442 ([.slice none 0 0,.nilFunc],[(0,1),(1,1)]):=⟨Ya⟩
instance:HasBuild Tryz.prog 452 ([.int .i64 0,.int .i64 0,.slice none 0 0],[(0,1),(1,1),(2,1)]):=⟨Ya⟩
instance:HasBuild Tryz.prog 454 ([.slice none 0 0,.int .i64 0,.slice none 0 0,.slice none 0 0,.slice none 0 0,.int .i64 0,.slice none 0 0,.slice none 0 0,.map none],[(0,6),(6,2),(8,1)]):=⟨Ya⟩
instance:HasBuild Tryz.prog 459 ([.slice none 0 0,.slice none 0 0,.slice none 0 0,.int .i64 0,.slice none 0 0,.bool false],[(0,2),(2,1),(3,1),(4,1),(5,1)]):=⟨Ya⟩
instance:HasBuild Tryz.prog 477 ([.pointer none,.map none],[(0,1),(1,1)]):=⟨Ya⟩
instance:HasBuild Tryz.prog 481 ([.int .i64 0,.int .i64 0,.int .i64 0,.int .i64 0],[(0,1),(1,1),(2,2)]):=⟨Ya⟩
instance:HasBuild Tryz.prog 498 ([.int .i64 0,.int .i64 0,.slice none 0 0],[(0,1),(1,1),(2,1)]):=⟨Ya⟩
instance:HasBuild Tryz.prog 500 ([.int .i64 0,.int .i64 0,.slice none 0 0,.int .u64 0,.int .u64 0,.bool false,.bool false,.slice none 0 0],[(0,3),(3,1),(4,1),(5,1),(6,1),(7,1)]):=⟨Ya⟩
instance:HasRow Tryz.prog 22 (3,[.slice none 0 0,.slice none 0 0,.slice none 0 0]):=⟨Ya⟩
instance:HasRow Tryz.prog 23 (1,[.int .i64 0]):=⟨Ya⟩
instance:HasRow Tryz.prog 24 (9,[.int .i64 0,.int .i64 0,.int .i64 0,.int .i64 0,.slice none 0 0,.int .i64 0,.int .i64 0,.slice none 0 0,.int .i64 0]):=⟨Ya⟩
instance:HasRow Tryz.prog 25 (3,[.int .i64 0,.int .i64 0,.slice none 0 0]):=⟨Ya⟩
instance:HasRow Tryz.prog 28 (8,[.int .i64 0,.int .i64 0,.int .i64 0,.slice none 0 0,.int .i64 0,.int .i64 0,.slice none 0 0,.slice none 0 0]):=⟨Ya⟩
instance:HasRow Tryz.prog 31 (2,[.int .i64 0,.slice none 0 0]):=⟨Ya⟩
instance:HasRow Tryz.prog 32 (2,[.int .i64 0,.int .i64 0]):=⟨Ya⟩
instance:HasRow Tryz.prog 36 (6,[.int .i64 0,.int .i64 0,.slice none 0 0,.int .i64 0,.int .i64 0,.slice none 0 0]):=⟨Ya⟩
instance:HasRow Tryz.prog 39 (12,[.int .i64 0,.int .i64 0,.slice none 0 0,.int .i64 0,.int .i64 0,.slice none 0 0,.int .i64 0,.int .i64 0,.slice none 0 0,.int .i64 0,.int .i64 0,.slice none 0 0]):=⟨Ya⟩
instance:HasRow Tryz.prog 59 (1,[.bool false]):=⟨Ya⟩
instance:HasRow Tryz.prog 60 (1,[.slice none 0 0]):=⟨Ya⟩
instance:HasRow Tryz.prog 90 (2,[.int .i64 0,.int .i64 0]):=⟨Ya⟩
instance:HasRow Tryz.prog 135 (3,[.int .i64 0,.int .i64 0,.slice none 0 0]):=⟨Ya⟩
instance:HasRow Tryz.prog 154 (1,[.slice none 0 0]):=⟨Ya⟩
instance:HasRow Tryz.prog 155 (1,[.map none]):=⟨Ya⟩
instance:HasRow Tryz.prog 194 (4,[.slice none 0 0,.int .i64 0,.int .i64 0,.slice none 0 0]):=⟨Ya⟩
instance:HasRow Tryz.prog 382 (1,[.int .u64 0]):=⟨Ya⟩
instance:HasRow Tryz.prog 391 (7,[.int .i64 0,.int .i64 0,.slice none 0 0,.int .i64 0,.int .i64 0,.slice none 0 0,.bool false]):=⟨Ya⟩
instance:HasRow Tryz.prog 411 (1,[.slice none 0 0]):=⟨Ya⟩
instance:HasApp Tryz.prog 22 (92,3,72):=⟨Ya⟩
instance:HasApp Tryz.prog 23 (3,1,8):=⟨Ya⟩
instance:HasApp Tryz.prog 24 (95,9,104):=⟨Ya⟩
instance:HasApp Tryz.prog 25 (89,3,40):=⟨Ya⟩
instance:HasApp Tryz.prog 31 (282,2,32):=⟨Ya⟩
instance:HasApp Tryz.prog 32 (50,2,16):=⟨Ya⟩
instance:HasApp Tryz.prog 36 (38,6,80):=⟨Ya⟩
instance:HasApp Tryz.prog 39 (112,12,160):=⟨Ya⟩
instance:HasApp Tryz.prog 59 (4,1,1):=⟨Ya⟩
instance:HasApp Tryz.prog 60 (23,1,24):=⟨Ya⟩
instance:HasApp Tryz.prog 90 (215,2,16):=⟨Ya⟩
instance:HasApp Tryz.prog 135 (452,3,40):=⟨Ya⟩
instance:HasApp Tryz.prog 154 (59,1,24):=⟨Ya⟩
instance:HasApp Tryz.prog 155 (243,1,8):=⟨Ya⟩
instance:HasApp Tryz.prog 194 (198,4,64):=⟨Ya⟩
instance:HasApp Tryz.prog 382 (422,1,8):=⟨Ya⟩
instance:HasApp Tryz.prog 391 (432,7,88):=⟨Ya⟩
instance:HasApp Tryz.prog 411 (36,1,24):=⟨Ya⟩
theorem mixed:Tryz.prog.follows .mixedOrders=true:=by kernel_rfl
abbrev unfV:Value:=.iface 370 (.agg #[])
abbrev unfA:AV:=.iface 370 (.agg [])
theorem unf_c:unfA.Const unfV where
 is I w u h:=by
  cases h with
  | iface _ _ v h=>cases h with
   | agg _ vs h=>
    have:vs= #[]:=by cases vs with | mk l=>cases h;rfl
    rw[this]
 rel I w:=.iface _ _ _ (.agg _ _ .nil)
def kindA:Option (Option Nat)->AV
 | none=>.val .nilIface
 | some none=>.iface 319 (.agg [])
 | some (some k)=>.iface 317 (.i k)
theorem needT{b:Bool}(hb:b=true)(H:List Ent):RCall Tryz.prog 242 [.b b] H (some (.tup [],H)) H unfA:=by
 refine aC (n:=6) Tryz.func242 λB I w0=>?_;refine Z6 ?_;refine CW.cond rfl (λh0=>?_) (λh0=>?_)
 ·simp[hb] at h0
 ·replace h0:=nm h0;refine Z1 ?_;refine nR [] (H) ?_;exact rfl
theorem needF{b:Bool}(hb:b=false)(H:List Ent):RCall Tryz.prog 242 [.b b] H none H unfA:=by
 refine aC (n:=6) Tryz.func242 λB I w0=>?_;refine Z6 ?_;refine CW.cond rfl (λh0=>?_) (λh0=>?_)
 ·replace h0:=nm h0;refine Z2 ?_;refine oP (POp.makeIface rfl rfl rfl Ya) ?_;refine OL.panicC rfl rfl rfl rfl unf_c ?_;exact outP unf_c (.refl _) ⟨rfl,rfl,rfl⟩
 ·simp[hb] at h0
theorem between(n:Int):PCall Tryz.prog 296 [.i n] (.b (inP n)):=by
 intro H;refine aC (n:=9) Tryz.func296 λB I w0=>?_;refine Z17 ?_;refine r1 2 (H) ?_;exact⟨retB (by unfold inP;by_cases h: -1000000000<=n <;> simp[h]),rfl⟩
theorem sIndex(l:List Int)(v:Int):PCall Tryz.prog 237 [AV.ints l,.i v] (.i (idxB l v)):=by
 intro H;refine aC (n:=19) Tryz.func237 λB I w0=>?_;refine CW.boundM (t:=0) rfl (λhb0=>?_);refine Z14 ?_;refine lj (λm st=>∃k:Nat,st=⟨[(8,.i k),(7,.i l.length),(0,AV.ints l),(1,.i v)],H⟩/\m=l.length - k/\k<=l.length/\∀x∈l.take k,x≠v) (⟨0,rfl,rfl,Yn,Yn⟩) ?_;rintro m _ ⟨k,rfl,rfl,hk,hp⟩;refine Z6 ?_;refine cd (λh0=>?_) λh0=>?_
 ·refine Z20 ?_;refine cd (λh1=>?_) λh1=>?_
  ·refine Z12 ?_;refine r1 4 (H) ?_;exact⟨retI (idxB_at Yb hp h1),rfl⟩
  ·refine Z7 ?_;exact ag (⟨k+1,rfl,rfl,Yb,ne_step Yb hp h1⟩)
 ·refine Z11 ?_;refine r1 4 (H) ?_;exact⟨retI (idxB_none YG),rfl⟩
theorem sContains(l:List Int)(v:Int):PCall Tryz.prog 171 [AV.ints l,.i v] (.b (l.contains v)):=by
 intro H;refine aC (n:=9) Tryz.func171 λB I w0=>?_;refine Z9 ?_;refine oP (POp.call .k ((sIndex _ _))) ?_;refine Z5 ?_;refine r1 4 (H) ?_;exact⟨retB (idxB_contains _ _),rfl⟩
theorem fine(g:List (List Int)):PCall Tryz.prog 360 [AV.intss g] (.b (fineP g)):=by
 intro H;refine aC (n:=44) Tryz.func360 λB I w0=>?_;refine CW.boundM (t:=0) rfl (λhb0=>?_);refine Z13 ?_;refine cd (λh0=>?_) λh0=>?_
 ·refine Z7 ?_;refine r1 2 (H) ?_;exact⟨retB (fine_no1 Yb).symm,rfl⟩
 ·refine Z11 ?_;refine lj (λm st=>∃i:Nat,st=⟨[(12,.i i),(11,.i g.length),(10,AV.intss g)],H⟩/\m=g.length - i/\i<=g.length/\fineG 0 (g.take i)=true) (⟨0,rfl,rfl,Yb,rfl⟩) ?_;rintro m _ ⟨i,rfl,rfl,hi,hg⟩;refine Z6 ?_;refine cd (λh1=>?_) λh1=>?_
  ·have hil:i<g.length:=by simpa using h1
   obtain⟨L,hL⟩:∃L,L=g.getD i default:=⟨_,rfl⟩;refine Z15 ?_;rw[<-hL];refine CW.boundM (t:=4) rfl (λhb4=>?_);refine Z6 ?_;refine cd (λh2=>?_) λh2=>?_
   ·refine Z12 ?_;refine r1 2 (H) ?_;exact⟨retB (fine_no2 hil (by rw[<-hL];have: ¬L.length<=3:=Yb;simp[this])).symm,rfl⟩
   ·refine Z10 ?_;refine lj (λm st=>∃k:Nat,st=⟨[(22,.i k),(21,.i L.length),(20,AV.ints L),(3,.i i),(4,AV.ints L),(12,.i i),(11,.i g.length),(10,AV.intss g)],H⟩/\m=L.length - k/\k<=L.length/\fineL i [] (L.take k)=true) (⟨0,rfl,rfl,Yb,rfl⟩) ?_;rintro m _ ⟨k,rfl,rfl,hk,hl⟩;refine Z6 ?_;refine cd (λh3=>?_) λh3=>?_
    ·have hkl:k<L.length:=by simpa using h3
     refine Z26 ?_;refine OL.guardC rfl rfl rfl rfl rfl rfl (λhg=>POp.slTo rfl rfl YT rfl YT Yb) ?_;refine Z1 ?_;refine OL.guardC rfl rfl rfl rfl rfl rfl (λhg=>POp.call (.mk' rfl rfl rfl rfl Yc) ((sContains _ _))) ?_;refine Z3 ?_;refine cd (λh4=>?_) λh4=>?_
     ·refine Z15 ?_;refine r1 2 (H) ?_;exact⟨retB (fine_no2 hil (by rw[<-hL,fine_no3 hkl Ys,Bool.and_false])).symm,rfl⟩
     ·refine Z7 ?_;exact ag (⟨k+1,rfl,rfl,hkl,by rw[fineL_take i L [] k hkl,hl];simp_all⟩)
    ·have e3:k=L.length:=by omega
     rw[e3,List.take_length] at hl;refine Z10 ?_;exact ag (⟨i+1,rfl,rfl,hil,by rw[fineG_take g 0 i hil,hg, <-hL,Nat.zero_add,hl];simp;omega⟩)
  ·have e1:i=g.length:=by omega
   rw[e1,List.take_length] at hg;refine Z11 ?_;refine r1 2 (H) ?_;exact⟨retB (by unfold fineP;rw[hg];simp;omega),rfl⟩
theorem lineCheck(g:List (List Int)):PCall Tryz.prog 295 [AV.intss g] (.i (if fineP g then 0 else 2)):=by
 intro H;refine aC (n:=6) Tryz.func295 λB I w0=>?_;refine Z9 ?_;refine oP (POp.call .k ((fine _))) ?_;refine Z3 ?_;refine cd (λh0=>?_) λh0=>?_
 ·refine Z7 ?_;refine r1 2 (H) ?_;exact⟨retI Ys,rfl⟩
 ·refine Z8 ?_;refine r1 2 (H) ?_;exact⟨retI Ys,rfl⟩
theorem kidsOf(op:Int):PCall Tryz.prog 247 [.i op] (kindA (kindOf op)):=by
 intro H;refine aC (n:=33) Tryz.func247 λB I w0=>?_;refine Z18 ?_;refine cd (λh0=>?_) λh0=>?_
 ·refine Z3 ?_;refine oP (POp.makeIface rfl rfl rfl Ya) ?_;refine Z6 ?_;refine r1 2 (H) ?_;exact⟨retX Y9,rfl⟩
 ·refine CW.cutJ (λst=>∃u:Bool,st=⟨[(8,.b u),(3,.i op)],H⟩/\u=decide (op=1\/op=2\/op=3\/op=6\/op=18)) ?_ ?_
  ·refine Z6 ?_;refine cd (λh1=>?_) λh1=>?_
   ·refine Z1 ?_;exact cj ⟨op==1,rfl,by by_cases hz:op=1 <;> simp_all⟩
   ·refine Z6 ?_;refine cd (λh2=>?_) λh2=>?_
    ·refine Z1 ?_;exact cj ⟨op==2,rfl,by by_cases hz:op=2 <;> simp_all⟩
    ·refine Z6 ?_;refine cd (λh3=>?_) λh3=>?_
     ·refine Z1 ?_;exact cj ⟨op==3,rfl,by by_cases hz:op=3 <;> simp_all⟩
     ·refine Z6 ?_;refine cd (λh4=>?_) λh4=>?_
      ·refine Z1 ?_;exact cj ⟨op==6,rfl,by by_cases hz:op=6 <;> simp_all⟩
      ·refine Z4 ?_;exact cj ⟨op==18,rfl,by by_cases hz:op=18 <;> simp_all⟩
  ·rintro _ ⟨u,rfl,hu4⟩;refine cd (λh5=>?_) λh5=>?_
   ·refine Z2 ?_;refine oP (POp.makeIface rfl rfl rfl Ya) ?_;refine Z6 ?_;refine r1 2 (H) ?_;exact⟨retX Y9,rfl⟩
   ·refine CW.cutJ (λst=>∃u:Bool,st=⟨[(15,.b u),(3,.i op)],H⟩/\u=decide (op=4\/op=8\/op=17)) ?_ ?_
    ·refine Z6 ?_;refine cd (λh6=>?_) λh6=>?_
     ·refine Z1 ?_;exact cj ⟨op==4,rfl,by by_cases hz:op=4 <;> simp_all⟩
     ·refine Z6 ?_;refine cd (λh7=>?_) λh7=>?_
      ·refine Z1 ?_;exact cj ⟨op==8,rfl,by by_cases hz:op=8 <;> simp_all⟩
      ·refine Z4 ?_;exact cj ⟨op==17,rfl,by by_cases hz:op=17 <;> simp_all⟩
    ·rintro _ ⟨u,rfl,hu10⟩;refine cd (λh8=>?_) λh8=>?_
     ·refine Z2 ?_;refine oP (POp.makeIface rfl rfl rfl Ya) ?_;refine Z6 ?_;refine r1 2 (H) ?_;exact⟨retX Y9,rfl⟩
     ·refine CW.cutJ (λst=>∃u:Bool,st=⟨[(20,.b u),(3,.i op)],H⟩/\u=decide (op=7\/op=9\/op=11\/op=12\/op=13\/op=14\/op=15\/op=16)) ?_ ?_
      ·refine Z6 ?_;refine cd (λh9=>?_) λh9=>?_
       ·refine Z1 ?_;exact cj ⟨op==7,rfl,by by_cases hz:op=7 <;> simp_all⟩
       ·refine Z6 ?_;refine cd (λh10=>?_) λh10=>?_
        ·refine Z1 ?_;exact cj ⟨op==9,rfl,by by_cases hz:op=9 <;> simp_all⟩
        ·refine Z6 ?_;refine cd (λh11=>?_) λh11=>?_
         ·refine Z1 ?_;exact cj ⟨op==11,rfl,by by_cases hz:op=11 <;> simp_all⟩
         ·refine Z6 ?_;refine cd (λh12=>?_) λh12=>?_
          ·refine Z1 ?_;exact cj ⟨op==12,rfl,by by_cases hz:op=12 <;> simp_all⟩
          ·refine Z6 ?_;refine cd (λh13=>?_) λh13=>?_
           ·refine Z1 ?_;exact cj ⟨op==13,rfl,by by_cases hz:op=13 <;> simp_all⟩
           ·refine Z6 ?_;refine cd (λh14=>?_) λh14=>?_
            ·refine Z1 ?_;exact cj ⟨op==14,rfl,by by_cases hz:op=14 <;> simp_all⟩
            ·refine Z6 ?_;refine cd (λh15=>?_) λh15=>?_
             ·refine Z1 ?_;exact cj ⟨op==15,rfl,by by_cases hz:op=15 <;> simp_all⟩
             ·refine Z4 ?_;exact cj ⟨op==16,rfl,by by_cases hz:op=16 <;> simp_all⟩
      ·rintro _ ⟨u,rfl,hu14⟩;refine cd (λh16=>?_) λh16=>?_
       ·refine Z2 ?_;refine oP (POp.makeIface rfl rfl rfl Ya) ?_;refine Z6 ?_;refine r1 2 (H) ?_;exact⟨retX Y9,rfl⟩
       ·refine Z6 ?_;refine cd (λh17=>?_) λh17=>?_
        ·refine Z2 ?_;refine oP (POp.makeIface rfl rfl rfl Ya) ?_;refine Z6 ?_;refine r1 2 (H) ?_;exact⟨retX Y9,rfl⟩
        ·refine Z9 ?_;refine r1 2 (H) ?_;exact⟨retX Y9,rfl⟩
theorem number(p:Prog)(hC:p.classes.length<=100)(x:Nd)(size:Int):PCall Tryz.prog 246 [AV.prog p,AV.nd x,.i size] (.b (numP p x size)):=by
 intro H;refine aC (n:=52) Tryz.func246 λB I w0=>?_;refine Z26 ?_;refine cd (λh0=>?_) λh0=>?_
 ·refine Z4 ?_;refine oP (POp.call .k (between x.n)) ?_;refine Z6 ?_;refine r1 6 (H) ?_;exact⟨retB (by simp[numP,h0]),rfl⟩
 ·refine Z6 ?_;refine cd (λh1=>?_) λh1=>?_
  ·refine Z21 ?_;refine r1 6 (H) ?_;exact⟨retB Yi,rfl⟩
  ·refine Z7 ?_;refine cd (λh2=>?_) λh2=>?_
   ·refine Z2 ?_;refine cd (λh3=>?_) λh3=>?_
    ·refine Z22 ?_;refine r1 6 (H) ?_;exact⟨retB Yi,rfl⟩
    ·refine Z7 ?_;refine cd (λh4=>?_) λh4=>?_
     ·refine Z2 ?_;refine cd (λh5=>?_) λh5=>?_
      ·refine Z20 ?_;refine r1 6 (H) ?_;exact⟨retB Yi,rfl⟩
      ·refine Z6 ?_;refine cd (λh6=>?_) λh6=>?_
       ·refine Z23 ?_;refine r1 6 (H) ?_;exact⟨retB Yi,rfl⟩
       ·refine Z18 ?_;refine r1 6 (H) ?_;exact⟨retB Yi,rfl⟩
     ·refine Z5 ?_;refine cd (λh7=>?_) λh7=>?_
      ·refine Z20 ?_;refine r1 6 (H) ?_;exact⟨retB Yi,rfl⟩
      ·refine Z6 ?_;refine cd (λh8=>?_) λh8=>?_
       ·refine Z23 ?_;refine r1 6 (H) ?_;exact⟨retB Yi,rfl⟩
       ·refine Z18 ?_;refine r1 6 (H) ?_;exact⟨retB Yi,rfl⟩
   ·refine Z5 ?_;refine cd (λh9=>?_) λh9=>?_
    ·refine Z22 ?_;refine r1 6 (H) ?_;exact⟨retB Yi,rfl⟩
    ·refine Z7 ?_;refine cd (λh10=>?_) λh10=>?_
     ·refine Z2 ?_;refine cd (λh11=>?_) λh11=>?_
      ·refine Z20 ?_;refine r1 6 (H) ?_;exact⟨retB Yi,rfl⟩
      ·refine Z6 ?_;refine cd (λh12=>?_) λh12=>?_
       ·refine Z23 ?_;refine r1 6 (H) ?_;exact⟨retB Yi,rfl⟩
       ·refine Z18 ?_;refine r1 6 (H) ?_;exact⟨retB Yi,rfl⟩
     ·refine Z5 ?_;refine cd (λh13=>?_) λh13=>?_
      ·refine Z20 ?_;refine r1 6 (H) ?_;exact⟨retB Yi,rfl⟩
      ·refine Z6 ?_;refine cd (λh14=>?_) λh14=>?_
       ·refine Z23 ?_;refine r1 6 (H) ?_;exact⟨retB Yi,rfl⟩
       ·refine Z18 ?_;refine r1 6 (H) ?_;exact⟨retB Yi,rfl⟩
theorem soMany(n:Int)(p:Prog)(x:Nd):PCall Tryz.prog 492 [.i n,AV.prog p,AV.nd x] (.i n):=by
 intro H;refine aC (n:=8) Tryz.func492 λB I w0=>?_;refine Z14 ?_;refine r1 6 (H) ?_;exact⟨Ye,rfl⟩
theorem argMany(p:Prog)(x:Nd)(h0:0<=x.n)(h1:x.n<p.gens.length):PCall Tryz.prog 493 [.agg [],AV.prog p,AV.nd x] (.i (p.gens.getD x.n.toNat default)):=by
 intro H;refine aC (n:=13) Tryz.func493 λB I w0=>?_;refine Z20 ?_;refine r1 6 (H) ?_;exact⟨Ye,rfl⟩
theorem cloneI(l:List Int)(hl:l.length<=4000000):PCall Tryz.prog 39 [AV.ints l] (AV.ints l):=by
 intro H;refine aC (n:=8) Tryz.func39 λB I w0=>?_;refine Z9 ?_;refine OL.isNilC rfl rfl rfl rfl rfl rfl rfl (AVle.refl _) rfl rfl (λn4 hn4=>?_);refine Z2 ?_;refine cd (λh0=>?_) λh0=>?_
 ·refine Z7 ?_;refine Done.retR (rs:=[.tmp 2]) (H':=H) rfl (.tmp rfl (.nil)) (.cons (AVle.nil 1) .nil) Yd ?_;exact⟨by show AV.sl 1 []=AV.sl 1 _;rw[hn4 h0],rfl⟩
 ·refine Z6 ?_;refine oP (POp.appendI rfl rfl rfl (AVle.refl _) rfl rfl (AVle.refl _) (one_ints l) YB YB) ?_;refine Z4 ?_;refine r1 2 (H) ?_;exact⟨Ye,rfl⟩
theorem clipS(els:List (List AV)):PCall Tryz.prog 369 [.sl 1 els] (.sl 1 els):=by
 intro H;refine aC (n:=9) Tryz.func369 λB I w0=>?_;refine Z12 ?_;refine oP (POp.slClip rfl rfl rfl rfl rfl rfl rfl) ?_;refine Z4 ?_;refine r1 2 (H) ?_;exact⟨Ye,rfl⟩
theorem clipI(els:List (List AV)):PCall Tryz.prog 232 [.sl 1 els] (.sl 1 els):=by
 intro H;refine aC (n:=9) Tryz.func232 λB I w0=>?_;refine Z12 ?_;refine oP (POp.slClip rfl rfl rfl rfl rfl rfl rfl) ?_;refine Z4 ?_;refine r1 2 (H) ?_;exact⟨Ye,rfl⟩
theorem graph1(c:Cls)(hc:c.parents.length<=4000000):PCall Tryz.prog 306 [AV.cls c] (AV.ints c.parents):=by
 intro H;refine aC (n:=6) Tryz.func306 λB I w0=>?_;refine Z10 ?_;refine oP (POp.call .k ((cloneI _ Yb))) ?_;refine Z4 ?_;refine r1 2 (H) ?_;exact⟨Ye,rfl⟩
theorem eachP(cs:List Cls)(hs:cs.length<=4000000)(hc:∀c∈cs,c.parents.length<=4000000):PCall Tryz.prog 305 [.sl 3 (cs.map clsA),.fn (.func 306) [] []] (AV.intss (cs.map (·.parents))):=by
 intro H;refine aC (n:=23) Tryz.func305 λB I w0=>?_;refine Z12 ?_;refine CW.ownNil 5 23 1 rfl ?_;refine Z7 ?_;refine lj (λm st=>∃(i:Nat) (v:Value),st=⟨[(10,.i i),(9,.i cs.length),(8,.sl 3 (cs.map clsA)),(1,.fn (.func 306) [] []),(5,.as (AV.intss ((cs.take i).map (·.parents))) v)],.own 23 1 v::H⟩/\m=cs.length - i/\i<=cs.length) (⟨0,_,rfl,rfl,Yb⟩) ?_;rintro m _ ⟨i,v,rfl,rfl,hi⟩;refine Z6 ?_;refine cd (λh0=>?_) λh0=>?_
 ·have hil:i<cs.length:=by omega
  have hcc:=hc _ (getD_memB hil);refine Z8 ?_;refine OL.alC rfl rfl rfl rfl (λb0=>?_);refine Z7 ?_;refine oP (POp.call .k (graph1 (cs.getD i default) hcc)) ?_;refine OL.popC (x:=.sl 1 [[AV.ints (cs.getD i default).parents]]) rfl rfl rfl (POp.row rfl rfl Yj rfl rfl rfl rfl rfl rfl) ?_;refine OL.appendC rfl rfl rfl rfl rfl rfl rfl rfl (AVle.refl _) (rfl) (λv=>by repeat (first | exact Upd.head _ _ _ | apply Upd.tail)) Yg Yg (λv19=>?_);refine Z8 ?_;exact ag (⟨i+1,v19,by rw[intss_snoc hil],rfl,hil⟩)
 ·obtain rfl:i=cs.length:=by omega
  rw[List.take_length];refine Z8 ?_;refine oP (POp.callLe .k (.cons (AVle.asL _ _) .nil) (clipS _)) ?_;refine Z4 ?_;refine r1 4 (H) ?_;exact⟨Ye,rfl⟩
theorem graph(p:Prog)(hs:p.classes.length<=4000000)(hc:∀c∈p.classes,c.parents.length<=4000000):PCall Tryz.prog 255 [AV.prog p] (AV.intss (graphP p)):=by
 intro H;refine aC (n:=6) Tryz.func255 λB I w0=>?_;refine Z10 ?_;refine oP (POp.call .k (eachP p.classes hs hc)) ?_;refine Z4 ?_;refine r1 2 (H) ?_;exact⟨Ye,rfl⟩
theorem speaks_step(f:Fact)(hf:smallA f=true)(ih:∀k∈f.kids,PCall Tryz.prog 248 [AV.fact k] (.i (speaksP k))):PCall Tryz.prog 248 [AV.fact f] (.i (speaksP f)):=by
 intro H;refine aC (n:=35) Tryz.func248 λB I w0=>?_;rw[speaksP_eq];obtain⟨ha1,ha2,hk⟩:=smallA_iff hf;refine Z11 ?_;refine CW.cutJ (λst=>st=⟨[(3,.i (argB f)),(1,.ptr (Fcells f))],H⟩) ?_ ?_
 ·refine Z17 ?_;refine CW.cond rfl (λh0=>?_) (λh0=>?_)
  ·have ha:argB f=f.arg+1:=by unfold argB;rw[if_pos Yas]
   rw[ha] at ha1 ha2;refine Z6 ?_;refine Done.le 3 (y:=.i (argB f)) rfl (AVle.eqI (by rw[ha])) ?_;exact cj rfl
  ·have ha:argB f=0:=by unfold argB;rw[if_neg Yas]
   refine Z1 ?_;refine Done.le 3 (y:=.i (argB f)) rfl (AVle.eqI (by rw[ha])) ?_;exact cj rfl
 ·rintro _ rfl;refine Z10 ?_;refine CW.boundM (t:=23) rfl (λhb23=>?_);refine lj (λm st=>∃j:Nat,st=⟨[(25,.i j),(24,.i f.kids.length),(23,AV.facts f.kids),(3,.i (speaksL (f.kids.take j) (argB f)))],H⟩/\m=f.kids.length - j/\j<=f.kids.length) (⟨0,rfl,rfl,Yb⟩) ?_;rintro m _ ⟨j,rfl,rfl,hj⟩;refine Z6 ?_;refine cd (λh1=>?_) λh1=>?_
  ·have hjl:j<f.kids.length:=by omega
   have hkm:=getD_memB hjl;have hsn:=speaksL_snoc (f.kids.getD j default) (f.kids.take j) (argB f);rw[take_getD hjl] at hsn;refine Z8 ?_;refine OL.alC rfl rfl rfl rfl (λb0=>?_);refine Z6 ?_;refine oP (POp.call .k (ih _ hkm)) ?_;refine oP (POp.max2 rfl rfl rfl rfl rfl rfl) ?_;refine Z4 ?_;refine CW.le 3 (y:=.i (speaksL (f.kids.take (j+1)) (argB f))) rfl (AVle.eqI (by rw[hsn,Int.max_def];split <;> split <;> omega)) ?_;refine Z4 ?_;exact ag (⟨j+1,rfl,rfl,Yb⟩)
  ·obtain rfl:j=f.kids.length:=by omega
   rw[List.take_length];refine Z12 ?_;refine r1 2 (H) ?_;exact⟨Yav,rfl⟩
theorem worldB(p:Prog)(hs:p.classes.length<=1000)(hc:∀c∈p.classes,c.parents.length<=4000000/\c.slots.length<=1000):PCall Tryz.prog 214 [AV.prog p] (.agg (Wcells (worldOf p))):=by
 intro H;refine aC (n:=32) Tryz.func214 λB I w0=>?_;refine Z3 ?_;refine OL.alC rfl rfl rfl rfl (λrb=>?_);refine Z5 ?_;refine oP (POp.call .k (graph p Yb (λc h=>(hc c h).1))) ?_;refine Z1 ?_;refine OL.alC rfl rfl rfl rfl (λwb=>?_);refine Z5 ?_;refine CW.ownNilB (b:=wb) (t:=101) 3 1 1 Yam rfl rfl ?_;refine Z8 ?_;refine lj (λm st=>∃(i:Nat) (v:Value),st=⟨[(12,.i i),(11,.i p.classes.length),(10,.sl 3 (p.classes.map clsA)),(3,.p wb 0),(2,.p rb 0)],.own 3 1 v::.blk wb 101 [AV.intss (graphP p),.as (AV.ints (ownT p.classes i 0)) v]::.blk rb 101 [.val (.slice none 0 0),.val (.slice none 0 0)]::H⟩/\m=p.classes.length - i/\i<=p.classes.length) (⟨0,_,rfl,rfl,Yb⟩) ?_;rintro m _ ⟨i,v,rfl,rfl,hi⟩;refine Z6 ?_;refine cd (λh0=>?_) λh0=>?_
 ·have hil:i<p.classes.length:=by omega
  have hcc:=hc _ (getD_memB hil);obtain⟨L,hL⟩:∃L,L=p.classes.getD i default:=⟨_,rfl⟩;rw[<-hL] at hcc;refine Z9 ?_;refine OL.alC rfl rfl rfl rfl (λb2=>?_);refine Z5 ?_;rw[<-hL];refine Z8 ?_;refine lj (λm st=>∃(k:Nat) (v:Value),st=⟨[(20,.i k),(19,.i L.slots.length),(4,.i i),(12,.i i),(11,.i p.classes.length),(10,.sl 3 (p.classes.map clsA)),(3,.p wb 0),(2,.p rb 0)],.own 3 1 v::.blk wb 101 [AV.intss (graphP p),.as (AV.ints (ownT p.classes i k)) v]::.blk rb 101 [.val (.slice none 0 0),.val (.slice none 0 0)]::H⟩/\m=L.slots.length - k/\k<=L.slots.length) (⟨0,_,rfl,rfl,Yb⟩) ?_;rintro m _ ⟨k,v,rfl,rfl,hk⟩;refine Z6 ?_;refine cd (λh1=>?_) λh1=>?_
  ·have hkl:k<L.slots.length:=by omega
   refine Z9 ?_;refine OL.popC (x:=.sl 1 [[.i ((i:Int)+3)]]) rfl rfl rfl (POp.row rfl rfl Yj rfl rfl rfl rfl rfl rfl) ?_;refine OL.appendC rfl rfl rfl rfl rfl rfl rfl rfl (AVle.refl _) (rfl) (λv=>by repeat (first | exact Upd.head _ _ _ | apply Upd.tail)) Yo Yo (λv27=>?_);refine Z9 ?_;exact ag (⟨k+1,v27,by rw[ownT_snoc],rfl,hkl⟩)
  ·obtain rfl:k=L.slots.length:=by omega
   refine Z10 ?_;exact ag (⟨i+1,v,by rw[ownT_next hil, <-hL],rfl,hil⟩)
 ·obtain rfl:i=p.classes.length:=by omega
  rw[ownT_all];refine Z12 ?_;refine Done.retR (rs:=[.cell 2 101]) (H':=H) rfl (YQ) (.cons (AVle.agg (.cons (.refl _) (.cons (AVle.asL _ _) .nil))) .nil) Yd ?_;exact⟨Ye,rfl⟩
theorem take_getD[Inhabited α]{l:List α}{k:Nat}(h:k<l.length):l.take k++[l.getD k default]=l.take (k+1):=by
 rw[List.take_succ_eq_append_getElem h,List.getD_eq_getElem?_getD,List.getElem?_eq_getElem h];rfl
theorem split_getD[Inhabited α]{l:List α}{k:Nat}(h:k<l.length):l=l.take k++l.getD k default::l.drop (k+1):=by
 rw[List.getD_eq_getElem?_getD,List.getElem?_eq_getElem h];simp
theorem b150{J Jx:List Int->List Ent->Prop}(l:List Int)(hg:FindOk B Tryz.prog (.fn f fs cs) AV.i l F J Jx)(H Hx:List Ent)(hF:F Hx)(hJ:J [] H):
  BCall B Tryz.prog 107 [.sl 1 (l.map λn=>[AV.i n]),.fn f fs cs] (H++Hx) (FoundAt J Jx l Hx) (λ_ _=>False):=by
 refine BCall.of (n:=19) Tryz.func107 rfl Ya rfl rfl (λI w0=>?_);refine CW.boundM (t:=0) rfl (λhb0=>?_);refine Z14 ?_;refine lj (λm st=>∃(k:Nat) (H1:List Ent),st=⟨[(8,.i k),(7,.i l.length),(0,.sl 1 (l.map λn=>[AV.i n])),(1,.fn f fs cs)],H1++Hx⟩/\m=l.length - k/\k<=l.length/\J (l.take k) H1) (⟨0,H,rfl,rfl,Yn,hJ⟩) ?_;rintro m _ ⟨k,H1,rfl,rfl,hk,hJ1⟩;refine Z6 ?_;refine cd (λh0=>?_) λh0=>?_
 ·refine Z17 ?_;refine OL.vcallC rfl rfl rfl rfl rfl rfl rfl rfl (AVleL.refl _) (hg (l.take k) (l.getD k default) H1 Hx (by rw[take_getD Yb];exact List.take_prefix _ _) hF hJ1) ?_;rintro _ _ ⟨b,H2,rfl,rfl,hb1,hb2⟩;rw[take_getD Yb] at hb1 hb2;refine Z2 ?_;refine cd (λh1=>?_) λh1=>?_
  ·refine Z12 ?_;refine Done.retR (rs:=[.tmp 4]) rfl (.tmp rfl (.nil)) (AVleL.refl _) Yd ?_;exact⟨H2,rfl,.inr ⟨l.take k,l.getD k default,l.drop (k+1),split_getD Yb,retI (by rw[List.length_take,Nat.min_eq_left Yb]),by rw[take_getD Yb];exact hb2 h1⟩⟩
  ·refine Z7 ?_;exact ag (⟨k+1,H2,rfl,rfl,Yb,hb1 h1⟩)
 ·refine Z11 ?_;refine Done.retR (rs:=[.tmp 4]) rfl (.tmp rfl (.nil)) (AVleL.refl _) Yd ?_;exact⟨H1,rfl,.inl ⟨rfl,Yao⟩⟩
theorem q150(hg:PredOn Tryz.prog Hm (.fn f fs cs) AV.i l p):QCallIn Tryz.prog Hm 107 [.sl 1 (l.map λn=>[AV.i n]),.fn f fs cs] (λy=>∃n:Int,y= .i n/\decide (n>=0)=l.any p):=
 find_pure Ya (λB F J Jx h H Hx hF hJ=>b150 l h H Hx hF hJ) hg
theorem pi193(hg:PredOn Tryz.prog Hm (.fn f fs cs) AV.i l p):PCallIn Tryz.prog Hm 42 [.sl 1 (l.map λn=>[AV.i n]),.fn f fs cs] (.b (l.any p)):=by
 intro H hm;refine aC (n:=9) Tryz.func42 λB I w0=>?_;refine Z9 ?_;refine OL.qcallIn rfl rfl rfl .k (q150 hg) hm (λy hy=>?_);obtain⟨n,rfl,hn⟩:=hy;refine Z5 ?_;refine r1 4 (H) ?_;exact⟨retB hn,rfl⟩
theorem pi194(hg:PredOn Tryz.prog Hm (.fn f fs cs) AV.i l p)(x:Int)(hx:x∈l):PCallIn Tryz.prog Hm 363 [AV.i x,.ptr [.fn f fs cs]] (.b (!p x)):=by
 intro H hm;refine aC (n:=8) Tryz.func363 λB I w0=>?_;refine Z9 ?_;refine OL.vcallC rfl rfl rfl rfl rfl rfl rfl rfl (AVleL.refl _) (hg x hx B H hm) ?_;rintro _ Hn ⟨rfl,hH⟩;have hH:=hH.symm;subst hH;refine Z5 ?_;refine r1 3 (H) ?_;exact⟨Ye,rfl⟩
theorem pi152(hg:PredOn Tryz.prog Hm (.fn f fs cs) AV.i l p):PCallIn Tryz.prog Hm 301 [.sl 1 (l.map λn=>[AV.i n]),.fn f fs cs] (.b (l.all p)):=by
 intro H hm;refine aC (n:=9) Tryz.func301 λB I w0=>?_;refine Z10 ?_;refine oP (POp.callIn .k (AVleL.refl _) (pi193 (.of (λx hx=>pi194 hg x hx))) (λe he=>by repeat (first | exact hm e he | apply List.mem_cons_of_mem))) ?_;refine Z5 ?_;refine r1 4 (H) ?_;exact⟨retB (by simp[List.not_any_eq_all_not]),rfl⟩
theorem p152(hg:PredOk Tryz.prog (.fn f fs cs) AV.i p)(l:List Int):PCall Tryz.prog 301 [.sl 1 (l.map λn=>[AV.i n]),.fn f fs cs] (.b (l.all p)):=(pi152 (hg.on l)).pure
theorem b130(l:List Fact)(hg:FindOk B Tryz.prog (.fn f fs cs) AV.fact l F J Jx)(H Hx:List Ent)(hF:F Hx)(hJ:J [] H):
  BCall B Tryz.prog 190 [.sl 6 (encFs l),.fn f fs cs] (H++Hx) (FoundAt J Jx l Hx) (λ_ _=>False):=by
 refine BCall.of (n:=19) Tryz.func190 rfl Ya rfl rfl (λI w0=>?_);refine CW.boundM (t:=0) rfl (λhb0=>?_);refine Z14 ?_;refine lj (λm st=>∃(k:Nat) (H1:List Ent),st=⟨[(8,.i k),(7,.i l.length),(0,.sl 6 (encFs l)),(1,.fn f fs cs)],H1++Hx⟩/\m=l.length - k/\k<=l.length/\J (l.take k) H1) (⟨0,H,rfl,rfl,Yn,hJ⟩) ?_;rintro m _ ⟨k,H1,rfl,rfl,hk,hJ1⟩;refine Z6 ?_;refine cd (λh0=>?_) λh0=>?_
 ·refine Z17 ?_;refine OL.vcallC rfl rfl rfl rfl rfl rfl rfl rfl (AVleL.refl _) (hg (l.take k) (l.getD k default) H1 Hx (by rw[take_getD Yb];exact List.take_prefix _ _) hF hJ1) ?_;rintro _ _ ⟨b,H2,rfl,rfl,hb1,hb2⟩;rw[take_getD Yb] at hb1 hb2;refine Z2 ?_;refine cd (λh1=>?_) λh1=>?_
  ·refine Z12 ?_;refine Done.retR (rs:=[.tmp 4]) rfl (.tmp rfl (.nil)) (AVleL.refl _) Yd ?_;exact⟨H2,rfl,.inr ⟨l.take k,l.getD k default,l.drop (k+1),split_getD Yb,retI (by rw[List.length_take,Nat.min_eq_left Yb]),by rw[take_getD Yb];exact hb2 h1⟩⟩
  ·refine Z7 ?_;exact ag (⟨k+1,H2,rfl,rfl,Yb,hb1 h1⟩)
 ·refine Z11 ?_;refine Done.retR (rs:=[.tmp 4]) rfl (.tmp rfl (.nil)) (AVleL.refl _) Yd ?_;exact⟨H1,rfl,.inl ⟨rfl,Yao⟩⟩
theorem p151(s:Nat)(c:Int)(hc:0<=c/\c<64)(hs:s<18446744073709551616):PCall Tryz.prog 300 [AV.set s,.i c] (AV.set (s ||| 2^c.toNat)):=by
 intro H;refine aC (n:=9) Tryz.func300 λB I w0=>?_;refine Z9 ?_;refine oP (POp.shift rfl rfl rfl rfl rfl hc.1 (sh_left _ hc)) ?_;refine oP (POp.bits rfl rfl rfl rfl rfl (bit_or _ _ hs (Nat.pow_lt_pow_right (a:=2) (n:=64) Yb Yb))) ?_;refine Z4 ?_;refine r1 4 (H) ?_;exact⟨Ye,rfl⟩
theorem p109(b:Bool):PCall Tryz.prog 192 [.b b] (.i (if b then 0 else 2)):=by
 intro H;refine aC (n:=5) Tryz.func192 λB I w0=>?_;refine Z12 ?_;refine cd (λh0=>?_) λh0=>?_
 ·refine Z7 ?_;refine r1 2 (H) ?_;exact⟨retI Ys,rfl⟩
 ·refine Z8 ?_;refine r1 2 (H) ?_;exact⟨retI Ys,rfl⟩
theorem p134(f:Fact):PCall Tryz.prog 324 [AV.fact f] (.b (decide (2<=f.op) && decide (f.op<=4))):=by
 intro H;refine aC (n:=11) Tryz.func324 λB I w0=>?_;refine Z20 ?_;refine r1 2 (H) ?_;exact⟨retB (by by_cases h:2<=f.op <;> simp[h]),rfl⟩
theorem p125(f:Fact):PCall Tryz.prog 196 [AV.fact f] (.b (f.op==2 || f.op==3 || f.op==4)):=by
 intro H;refine aC (n:=16) Tryz.func196 λB I w0=>?_;refine Z25 ?_;refine r1 2 (H) ?_;exact⟨retB (by by_cases h:f.op=2 <;> by_cases h':f.op=3 <;> simp[h,h']),rfl⟩
theorem p210(op:Int):PCall Tryz.prog 373 [.i op] (.i (if op=5 then 1 else if op=6\/op=7 then 2 else 0)):=by
 intro H;refine aC (n:=9) Tryz.func373 λB I w0=>?_;refine Z18 ?_;refine cd (λh0=>?_) λh0=>?_
 ·refine Z8 ?_;refine r1 2 (H) ?_;exact⟨Ye,rfl⟩
 ·refine Z7 ?_;refine cd (λh1=>?_) λh1=>?_
  ·refine Z2 ?_;refine cd (λh2=>?_) λh2=>?_
   ·refine Z8 ?_;refine r1 2 (H) ?_;exact⟨Ye,rfl⟩
   ·refine Z9 ?_;refine r1 2 (H) ?_;exact⟨Ye,rfl⟩
  ·refine Z5 ?_;refine cd (λh3=>?_) λh3=>?_
   ·refine Z8 ?_;refine r1 2 (H) ?_;exact⟨Ye,rfl⟩
   ·refine Z9 ?_;refine r1 2 (H) ?_;exact⟨Ye,rfl⟩
theorem p153(W:FW)(c:Int)(hW:W.parents.length<=60):PCall Tryz.prog 302 [Wptr W,.i c] (.b (ownP W c)):=by
 intro H;refine aC (n:=18) Tryz.func302 λB I w0=>?_;unfold Wptr;refine CW.boundP (t:=0) (i:=0) rfl rfl (λhb=>?_);refine Z24 ?_;refine r1 4 (H) ?_;exact⟨retB (by unfold ownP;by_cases h:3<=c <;> simp[h]),rfl⟩
theorem p106(W:FW)(c:Int)(hW:W.parents.length<=60):PCall Tryz.prog 250 [Wptr W,.i c] (.b (classP W c)):=by
 intro H;refine aC (n:=18) Tryz.func250 λB I w0=>?_;unfold Wptr;refine CW.boundP (t:=0) (i:=0) rfl rfl (λhb=>?_);refine Z24 ?_;refine r1 4 (H) ?_;exact⟨retB (by unfold classP;by_cases h:0<=c <;> simp[h]),rfl⟩
theorem p177(W:FW)(c:Int):PCall Tryz.prog 422 [Wptr W,.i c] (.b (slotP W c)):=by
 intro H;refine aC (n:=17) Tryz.func422 λB I w0=>?_;unfold Wptr;refine Z23 ?_;refine r1 4 (H) ?_;exact⟨retB (by unfold slotP;by_cases h:0<=c <;> simp[h]),rfl⟩
theorem p85(W:FW)(c:Int)(hW:W.parents.length<=60):PCall Tryz.prog 218 [AV.world W,.i c] (.b (ownP W c)):=by
 intro H;refine aC (n:=15) Tryz.func218 λB I w0=>?_;refine CW.boundA (t:=0) (i:=0) rfl rfl (λhb=>?_);refine Z22 ?_;refine r1 4 (H) ?_;exact⟨retB (by unfold ownP;by_cases h:3<=c <;> simp[h]),rfl⟩
theorem p51(W:FW)(c:Int)(hW:W.parents.length<=60):PCall Tryz.prog 194 [AV.world W,.i c] (.b (classP W c)):=by
 intro H;refine aC (n:=15) Tryz.func194 λB I w0=>?_;refine CW.boundA (t:=0) (i:=0) rfl rfl (λhb=>?_);refine Z22 ?_;refine r1 4 (H) ?_;exact⟨retB (by unfold classP;by_cases h:0<=c <;> simp[h]),rfl⟩
theorem found_cases{J Jx:List α->List Ent->Prop}{l:List α}{Hx:List Ent}{y:AV}{H':List Ent}(h:FoundAt J Jx l Hx y H'):∃(n:Int) (H1:List Ent),y= .i n/\H'=H1++Hx/\(decide (n>=0)=false->J l H1)/\(decide (n>=0)=true->∃pre,pre<+:l/\Jx pre H1):=by
 obtain⟨H1,rfl,h⟩:=h;rcases h with⟨rfl,h⟩ | ⟨pre,x,rest,rfl,rfl,h⟩
 ·exact⟨-1,H1,rfl,rfl,λ_=>h,λh=>by simp at h⟩
 ·exact⟨pre.length,H1,rfl,rfl,λh=>by simp at h,λ_=>⟨pre++[x],⟨rest,Yn⟩,h⟩⟩
theorem b76(l:List Fact)(hg:FindOk B Tryz.prog (.fn f fs cs) AV.fact l F J Jx)(H Hx:List Ent)(hF:F Hx)(hJ:J [] H):
  BCall B Tryz.prog 112 [.sl 6 (encFs l),.fn f fs cs] (H++Hx) (λy H'=>∃b H1,y= .b b/\H'=H1++Hx/\(b=false->J l H1)/\(b=true->∃pre,pre<+:l/\Jx pre H1)) (λ_ _=>False):=by
 refine BCall.of (n:=9) Tryz.func112 rfl Ya rfl rfl (λI w0=>?_);refine Z9 ?_;refine bC .k (b130 l hg H Hx hF hJ) ?_;intro y H' hy;obtain⟨n,H1,rfl,rfl,hn⟩:=found_cases hy;refine Z5 ?_;refine Done.retR (rs:=[.tmp 4]) rfl (.tmp rfl (.nil)) (AVleL.refl _) Yd ?_;exact⟨decide (n>=0),H1,rfl,rfl,hn⟩
theorem b209{L:List Fact}(hg:CbOk B Tryz.prog (.fn f fs cs) AV.fact L (λ_=>True) J Jx)(pre:List Fact)(x:Fact)(H Hx:List Ent)(hpx:pre++[x]<+:L)(hJ:J pre H):
  BCall B Tryz.prog 372 [AV.fact x,.ptr [.fn f fs cs]] (H++Hx) (λy H'=>∃b H1,y= .b b/\H'=H1++Hx/\(b=false->J (pre++[x]) H1)/\(b=true->Jx (pre++[x]) H1)) (λ_ _=>False):=by
 refine BCall.of (n:=8) Tryz.func372 rfl Ya rfl rfl (λI w0=>?_);refine Z10 ?_;refine OL.vcallC rfl rfl rfl rfl rfl rfl rfl rfl (AVleL.refl _) (hg pre x H Hx hpx trivial hJ) ?_;rintro _ _ ⟨b,H1,rfl,rfl,h1,h2⟩;refine Z5 ?_;refine Done.retR (rs:=[.tmp 3]) rfl (.tmp rfl (.nil)) (AVleL.refl _) Yd ?_;exact⟨!b,H1,rfl,rfl,λh=>h1 YN,λh=>h2 YN⟩
theorem b180(l:List Fact)(hg:CbOk B Tryz.prog (.fn f fs cs) AV.fact l (λ_=>True) J Jx)(H Hx:List Ent)(hJ:J [] H):
  BCall B Tryz.prog 310 [.sl 6 (encFs l),.fn f fs cs] (H++Hx) (λy H'=>∃b H1,y= .b b/\H'=H1++Hx/\(b=true->J l H1)/\(b=false->∃pre,pre<+:l/\Jx pre H1)) (λ_ _=>False):=by
 refine BCall.of (n:=9) Tryz.func310 rfl Ya rfl rfl (λI w0=>?_);refine Z10 ?_;refine bC .k (b76 (F:=λ_=>True) (J:=J) (Jx:=Jx) l (λpre x H Hx hpx _ hJ=>VCall.fnB (b209 hg pre x H Hx hpx hJ)) H Hx trivial hJ) ?_;rintro _ _ ⟨b,H1,rfl,rfl,h1,h2⟩;refine Z5 ?_;refine Done.retR (rs:=[.tmp 4]) rfl (.tmp rfl (.nil)) (AVleL.refl _) Yd ?_;exact⟨!b,H1,rfl,rfl,λh=>h1 YN,λh=>h2 YN⟩
theorem p126(W:FW)(l:List Int):PCall Tryz.prog 374 [Wptr W,AV.ints l] (.b (pathP W l)):=by
 intro H;refine aC (n:=14) Tryz.func374 λB I w0=>?_;refine CW.boundM (t:=1) rfl (λhb=>?_);refine Z14 ?_;refine OL.guardC rfl rfl rfl rfl rfl rfl (λhg=>POp.call (.mk' rfl rfl rfl rfl Yc) (p152 (.of (p177 W)) l)) ?_;refine Z5 ?_;refine r1 4 (H) ?_;exact⟨retB (by unfold pathP;by_cases h:l.length<=2 <;> simp[h] <;> omega),rfl⟩
def NodeC(B:Nat)(W:FW)(deep:Int):Prop:=∀(f:Fact) (left:Int) (b:Nat) (Hx:List Ent),0<=left/\left<=1000->
 BCall B Tryz.prog 312 [Wptr W,AV.fact f,.p b 0,.i deep] (.blk b 3 [.i left]::Hx) (λy H'=>y= .b (nodeP W f left deep).1/\H'= .blk b 3 [.i (nodeP W f left deep).2]::Hx) (λ_ _=>False)
theorem b211(hd:0<deep/\deep<=1000)(ih:NodeC B W (deep - 1))(f:Fact)(left:Int)(b:Nat)(Hx:List Ent)(hl:0<=left/\left<=1000):
  BCall B Tryz.prog 375 [AV.fact f,.ptr [Wptr W],.ptr [.p b 0],.ptr [.i deep]] (.blk b 3 [.i left]::Hx) (λy H'=>y= .b (nodeP W f left (deep - 1)).1/\H'= .blk b 3 [.i (nodeP W f left (deep - 1)).2]::Hx) (λ_ _=>False):=by
 refine BCall.of (n:=12) Tryz.func375 rfl Ya rfl rfl (λI w0=>?_);refine Z13 ?_;refine bC .k (ih f left b Hx hl) ?_;rintro _ _ ⟨rfl,rfl⟩;refine Z4 ?_;refine Done.retR (rs:=[.tmp 5]) rfl (.tmp rfl (.nil)) (AVleL.refl _) Yd ?_;exact⟨rfl,rfl⟩
theorem nodesCb(hd:0<deep/\deep<=1000)(ih:NodeC B W (deep - 1))(left:Int)(hl:0<=left/\left<=1000)(b:Nat)(L:List Fact):
  CbOk B Tryz.prog (.fn (.func 375) [] [.ptr [Wptr W],.ptr [.p b 0],   .ptr [.i deep]]) AV.fact L (λ_=>True) (λpre H=>H= [.blk b 3 [.i (nodesP W pre left (deep - 1)).2]]/\(nodesP W pre left (deep - 1)).1=true) (λpre H=>H= [.blk b 3 [.i (nodesP W pre left (deep - 1)).2]]/\(nodesP W pre left (deep - 1)).1=false):=by
 rintro pre x H Hx _ _ ⟨rfl,hp⟩;have h1:=nodesP_left W pre left (deep - 1) hl.1;refine VCall.mono (VCall.fnB (b211 hd ih x _ b Hx ⟨h1.2 hp,Yb⟩)) ?_ (λ_ _ h=>h);rintro _ _ ⟨rfl,rfl⟩;have h2:=nodesP_snoc W (deep - 1) x pre left hp;exact⟨_,[.blk b 3 [.i (nodeP W x (nodesP W pre left (deep - 1)).2 (deep - 1)).2]],rfl,rfl,λh=>⟨by rw[h2],by rw[h2];exact h⟩,λh=>⟨by rw[h2],by rw[h2];exact h⟩⟩
theorem nodes_end{l:List Fact}{b:Nat}{bb:Bool}{H1:List Ent}(h1:bb=true->H1= [.blk b 3 [.i (nodesP W l left (deep - 1)).2]]/\(nodesP W l left (deep - 1)).1=true)
  (h2:bb=false->∃pre,pre<+:l/\H1= [.blk b 3 [.i (nodesP W pre left (deep - 1)).2]]/\(nodesP W pre left (deep - 1)).1=false):bb=(nodesP W l left (deep - 1)).1/\H1= [.blk b 3 [.i (nodesP W l left (deep - 1)).2]]:=by
 cases bb with
 | true=>obtain⟨e1,e2⟩:=h1 rfl;exact⟨e2.symm,e1⟩
 | false=>
  obtain⟨pre,⟨rest,rfl⟩,e1,e2⟩:=h2 rfl;rw[nodesP_stop W (deep - 1) rest pre left e2];exact⟨e2.symm,e1⟩
theorem bad_false{f:Fact}(h:badP f left deep=false)(hd:0<=deep)(hl:left<=1000):(0<=left/\left<=1000)/\0<deep:=by
 simp only[badP,Bool.or_eq_false_iff,decide_eq_false_iff_not,beq_eq_false_iff_ne,ne_eq] at h;omega
theorem node_bad{f:Fact}(h:badP f (left - 1) deep=true):nodeP W f left deep=(false,left - 1):=by rw[nodeP_eq,if_pos h]
theorem node_leaf{f:Fact}(h:badP f (left - 1) deep=false)(h1:leafP f=true):nodeP W f left deep=(argP W f && leafOkP W f,left - 1):=by rw[nodeP_eq,if_neg Yk,if_pos h1]
theorem node_notPlain{f:Fact}(h:badP f (left - 1) deep=false)(h1:leafP f=false)(h2:plainP f=false):nodeP W f left deep=(false,left - 1):=by rw[nodeP_eq,if_neg Yk,if_neg (by simp[h1]),if_neg (by simp[h2])]
theorem node_plain{f:Fact}(h:badP f (left - 1) deep=false)(h1:leafP f=false)(h2:plainP f=true):nodeP W f left deep=nodesP W f.kids (left - 1) (deep - 1):=by rw[nodeP_eq,if_neg Yk,if_neg (by simp[h1]),if_pos h2]
theorem leafOk_is{f:Fact}(h:f.op=2):leafOkP W f=((f.n==0) && classP W f.cls):=by rw[leafOkP,if_pos h]
theorem leafOk_not{f:Fact}(h: ¬f.op=2):leafOkP W f=((f.cls==0) && decide (f.n>= -1000000000) && decide (f.n<=1000000000)):=by rw[leafOkP,if_neg h]
theorem bif_and(a b:Bool):(bif a then b else false)=(a && b):=by cases a <;> rfl
theorem bif_or(a b:Bool):(bif a then true else b)=(a || b):=by cases a <;> rfl
theorem b182_step(hW:W.parents.length<=60)(hd:0<=deep/\deep<=1000)(ih:0<deep->NodeC B W (deep - 1)):NodeC B W deep:=by
 intro f left b Hx hl;refine BCall.of (n:=110) Tryz.func312 rfl Ya rfl rfl (λI w0=>?_);refine CW.boundA (t:=1) (i:=5) rfl rfl (λhbk=>?_);refine CW.boundA (t:=1) (i:=2) rfl rfl (λhbp=>?_);refine Z21 ?_;refine CW.dp mixed ?_;refine Z76 ?_;refine DP.anyC 19 25 110 rfl Yf rfl rfl Yf ?_;refine Z5 ?_;refine AD.guardC rfl rfl rfl rfl rfl (λhg=>POp.call (.mk' rfl rfl rfl rfl Yc) ((p210 _))) ?_;refine Z6 ?_;refine CW.cond rfl (λh0=>?_) (λh0=>?_)
 ·have hbad:badP f (left - 1) deep=true:=by simpa only[badP,bif_or,kidsP] using h0
  have hn:=node_bad (W:=W) hbad;refine Z7 ?_;refine Done.retR (rs:=[.tmp 8]) rfl (.tmp rfl (.nil)) (AVleL.refl _) Yd ?_;exact⟨retB (by rw[hn]),YaH⟩
 ·have hbad:badP f (left - 1) deep=false:=by simpa only[badP,bif_or,kidsP] using h0
  obtain⟨hl1,hd1⟩:=bad_false hbad hd.1 Yb;refine Z7 ?_;refine oP (POp.call .k ((p134 _))) ?_;refine Z4 ?_;refine CW.cond rfl (λh1=>?_) (λh1=>?_)
  ·have hleaf:leafP f=false:=by simpa only[leafP,Bool.not_eq_true'] using h1
   refine Z23 ?_;refine CW.cond rfl (λh2=>?_) (λh2=>?_)
   ·have hplain:plainP f=false:=by rw[plainP,Bool.not_eq_false'];simpa only[bif_or] using h2
    have hn:=node_notPlain (W:=W) hbad hleaf hplain;refine Z8 ?_;refine Done.retR (rs:=[.tmp 8]) rfl (.tmp rfl (.nil)) (AVleL.refl _) Yd ?_;exact⟨retB (by rw[hn]),YaH⟩
   ·have hplain:plainP f=true:=by rw[plainP,Bool.not_eq_true'];simpa only[bif_or] using h2
    have hn:=node_plain (W:=W) hbad hleaf hplain;refine Z8 ?_;refine bC .k (b180 f.kids (nodesCb ⟨hd1,hd.2⟩ (ih hd1) (left - 1) hl1 b _) [.blk b 3 [.i (left - 1)]] Hx ⟨rfl,rfl⟩) ?_;rintro _ _ ⟨bb,H1,rfl,rfl,e1,e2⟩;obtain⟨e3,e4⟩:=nodes_end e1 e2;subst e4;refine Z4 ?_;refine Done.retR (rs:=[.tmp 8]) rfl (.tmp rfl (.nil)) (AVleL.refl _) Yd ?_;exact⟨retB (by rw[hn];exact e3),YaH⟩
  ·have hleaf:leafP f=true:=by simpa only[leafP,Bool.not_eq_false'] using h1
   have hn:=node_leaf (W:=W) hbad hleaf;refine Z14 ?_;refine OL.guardC rfl rfl rfl rfl rfl rfl (λhg=>POp.call (.mk' rfl rfl rfl rfl Yc) ((p126 _ _))) ?_;refine Z5 ?_;refine CW.cond rfl (λh3=>?_) (λh3=>?_)
   ·have harg:argP W f=false:=by rw[argP,Bool.not_eq_false'];simpa only[bif_or] using h3
    refine Z8 ?_;refine Done.retR (rs:=[.tmp 8]) rfl (.tmp rfl (.nil)) (AVleL.refl _) Yd ?_;exact⟨retB (by rw[hn,harg];rfl),YaH⟩
   ·have harg:argP W f=true:=by rw[argP,Bool.not_eq_true'];simpa only[bif_or] using h3
    refine Z8 ?_;refine cd (λh4=>?_) λh4=>?_
    ·refine Z9 ?_;refine OL.guardC rfl rfl rfl rfl rfl rfl (λhg=>POp.call (.mk' rfl rfl rfl rfl Yc) ((p106 _ _ (by assumption)))) ?_;refine Z7 ?_;refine Done.retR (rs:=[.tmp 8]) rfl (.tmp rfl (.nil)) (AVleL.refl _) Yd ?_;exact⟨retB (by rw[hn,harg,leafOk_is h4,bif_and];rfl),YaH⟩
    ·refine Z21 ?_;refine Done.retR (rs:=[.tmp 8]) rfl (.tmp rfl (.nil)) (AVleL.refl _) Yd ?_;exact⟨retB (by rw[hn,harg,leafOk_not h4,bif_and,bif_and];rfl),YaH⟩
theorem nodeC_all{B:Nat}{W:FW}(hW:W.parents.length<=60):∀(n:Nat),n<=1000->NodeC B W n
 | 0,h=>b182_step hW ⟨Yb,Yb⟩ (λh=>by omega)
 | n+1,h=>b182_step hW ⟨Yb,Yb⟩ (λ_=>by
  have e:((n+1:Nat):Int) - 1=(n:Int):=by omega
  rw[e];exact nodeC_all hW n Yb)
theorem p180{p:Fact->Bool}(hg:PredOk Tryz.prog (.fn f fs cs) AV.fact p)(l:List Fact):PCall Tryz.prog 310 [.sl 6 (encFs l),.fn f fs cs] (.b (l.all p)):=by
 intro H;have h0:fnOk Tryz.prog 310=true:=(b180 (B:=0) l (hg.cb l) [] H ⟨rfl,Yn⟩).1;refine⟨h0,λB I w vs hw hh hvs=>((b180 (B:=B) l (hg.cb l) [] H ⟨rfl,Yn⟩).2 I w vs hw hh hvs).mono λe w' hr=>hr.mono (λy H' hy=>?_) λ_ _ h=>h⟩;obtain⟨b,H1,rfl,rfl,h1,h2⟩:=hy;cases b with
 | true=>
  obtain⟨rfl,h⟩:=h1 rfl;exact⟨congrArg AV.b (List.all_eq_true.2 h).symm,rfl⟩
 | false=>
  obtain⟨pre,⟨rest,rfl⟩,rfl,q,x,rfl,h⟩:=h2 rfl;refine⟨congrArg AV.b ?_,rfl⟩;symm;rw[List.all_eq_false];exact⟨x,Yn,Yk⟩
theorem p181(W:FW)(hW:W.parents.length<=60)(f:Fact):PCall Tryz.prog 311 [AV.fact f,.ptr [Wptr W]] (.b (formedP W f)):=by
 intro H;refine aC (n:=8) Tryz.func311 λB I w0=>?_;refine Z8 ?_;refine OL.alC rfl rfl rfl rfl (λb0=>?_);refine Z7 ?_;refine bC .k (nodeC_all hW 12 Yb f 24 b0 H ⟨Yb,Yb⟩) ?_;rintro _ _ ⟨rfl,rfl⟩;refine Z4 ?_;refine r1 3 (H) ?_;exact⟨retB rfl,rfl⟩
theorem p131(W:FW)(hW:W.parents.length<=60)(l:List Fact):PCall Tryz.prog 263 [Wptr W,AV.facts l] (.b (l.all (formedP W))):=by
 intro H;refine aC (n:=8) Tryz.func263 λB I w0=>?_;refine Z10 ?_;refine oP (POp.call .k (p180 (.of (p181 W hW)) l)) ?_;refine Z4 ?_;refine r1 4 (H) ?_;exact⟨Ye,rfl⟩
theorem up_get(h:i<U.length):(Wcells W++U.map λs=>AV.set s)[2+i]? =some (AV.set (U.getD i 0)):=by
 show ([AV.intss W.parents,AV.ints W.owner]++_)[2+i]? =_;rw[List.getElem?_append_right Yn];simp[List.getElem?_map,List.getElem?_eq_getElem h,List.getD_eq_getElem?_getD]
theorem up_set(h:i<U.length):(Wcells W++U.map λs=>AV.set s).take (2+i)++[AV.set s]++(Wcells W++U.map λs=>AV.set s).drop (2+i+1)=Wcells W++(U.set i s).map λs=>AV.set s:=by
 have e:Wcells W= [AV.intss W.parents,AV.ints W.owner]:=rfl;have e1:(Wcells W++U.map λs=>AV.set s).take (2+i)=Wcells W++(U.take i).map λs=>AV.set s:=by
  rw[e,List.take_append,List.map_take];simp[List.take_of_length_le]
 have e2:(Wcells W++U.map λs=>AV.set s).drop (2+i+1)=(U.drop (i+1)).map λs=>AV.set s:=by
  rw[show 2+i+1=(i+1)+2 from by omega,List.map_drop];rfl
 rw[e1,e2,List.append_assoc,List.append_assoc];congr 1;rw[List.set_eq_take_append_cons_drop,if_pos h];simp
def idxP(l:List Int)(v:Int):Int:=match l.findIdx? (λx=>x==v) with | some i=>(i:Int) | none=>-1
theorem idxP_at(hk:k<l.length)(hp:∀x∈l.take k,x≠v)(h:v=l.getD k default):(k:Int)=idxP l v:=by
 have e:l.findIdx? (λx=>x==v)=some k:=by
  rw[List.findIdx?_eq_some_iff_getElem];refine⟨hk,?_,λj hj=>?_⟩
  ·rw[h,List.getD_eq_getElem?_getD,List.getElem?_eq_getElem hk];simp
  ·have:=hp (l[j]'Yb) Yae;simpa using this
 rw[idxP,e]
theorem idxP_none(hp:∀x∈l,x≠v):(-1:Int)=idxP l v:=by
 have e:l.findIdx? (λx=>x==v)=none:=by
  rw[List.findIdx?_eq_none_iff];intro x hx;simpa using hp x hx
 rw[idxP,e]
theorem idxP_contains(l:List Int)(v:Int):decide (idxP l v>=0)=l.contains v:=by
 unfold idxP;cases h:l.findIdx? (λx=>x==v) with
 | none=>
  rw[List.findIdx?_eq_none_iff] at h;symm;simp;intro hx;have:=h v hx;simp at this
 | some i=>
  rw[List.findIdx?_eq_some_iff_getElem] at h;obtain⟨hi,h1,_⟩:=h;symm;simp;have:l[i]=v:=by simpa using h1
  rw[<-this];exact List.getElem_mem hi
theorem ne_step(hk:k<l.length)(hp:∀x∈l.take k,x≠v)(h:v≠l.getD k default):∀x∈l.take (k+1),x≠v:=by
 rw[<-take_getD hk];intro x hx;rcases List.mem_append.1 hx with hx | hx
 ·exact hp x hx
 ·simp at hx;rw[hx];intro e;apply h;simp[e]
theorem p100(l:List Int)(v:Int):PCall Tryz.prog 237 [AV.ints l,.i v] (.i (idxP l v)):=by
 intro H;refine aC (n:=19) Tryz.func237 λB I w0=>?_;refine CW.boundM (t:=0) rfl (λhb0=>?_);refine Z14 ?_;refine lj (λm st=>∃k:Nat,st=⟨[(8,.i k),(7,.i l.length),(0,AV.ints l),(1,.i v)],H⟩/\m=l.length - k/\k<=l.length/\∀x∈l.take k,x≠v) (⟨0,rfl,rfl,Yn,Yn⟩) ?_;rintro m _ ⟨k,rfl,rfl,hk,hp⟩;refine Z6 ?_;refine cd (λh0=>?_) λh0=>?_
 ·refine Z20 ?_;refine cd (λh1=>?_) λh1=>?_
  ·refine Z12 ?_;refine r1 4 (H) ?_;exact⟨retI (idxP_at Yb hp h1),rfl⟩
  ·refine Z7 ?_;exact ag (⟨k+1,rfl,rfl,Yb,ne_step Yb hp h1⟩)
 ·refine Z11 ?_;refine r1 4 (H) ?_;exact⟨retI (idxP_none YG),rfl⟩
theorem p33(l:List Int)(v:Int):PCall Tryz.prog 171 [AV.ints l,.i v] (.b (l.contains v)):=by
 intro H;refine aC (n:=9) Tryz.func171 λB I w0=>?_;refine Z9 ?_;refine oP (POp.call .k ((p100 _ _))) ?_;refine Z5 ?_;refine r1 4 (H) ?_;exact⟨retB (idxP_contains _ _),rfl⟩
def U0(k:Nat):List Nat:=[1,3,5].take k++List.replicate (63 - k) 0
theorem U0_set(h:k<3):(U0 k).set k (1 ||| 2^(k:Int).toNat)=U0 (k+1):=by
 have:k=0\/k=1\/k=2:=by omega
 rcases this with rfl | rfl | rfl <;> rfl
theorem U0_len(h:k<=3):(U0 k).length=63:=by simp[U0];omega
theorem up_set'(h:i<U.length)(hU:U.set i s=U'):(Wcells W++U.map λs=>AV.set s).take (2+i)++[AV.set s]++(Wcells W++U.map λs=>AV.set s).drop (2+i+1)=Wcells W++U'.map λs=>AV.set s:=hU▸up_set h
theorem up_fit(ho:off=2+i)(h:i<U.length):Nat.ble (off+1) (Wcells W++U.map λs=>AV.set s).length=true:=by
 subst ho;rw[Nat.ble_eq];simp[Wcells];omega
theorem world_big(h:(bif decide ((W.parents.length:Int)>60) then true else decide ((W.owner.length:Int)>40))=true):worldP W=false:=by
 rw[bif_or] at h;simp only[Bool.or_eq_true,decide_eq_true_eq] at h;unfold worldP;rcases h with h | h
 ·have:decide (W.parents.length<=60)=false:=by simp;omega
  simp[this]
 ·have:decide (W.owner.length<=40)=false:=by simp;omega
  simp[this]
theorem world_small(h:(bif decide ((W.parents.length:Int)>60) then true else decide ((W.owner.length:Int)>40))=false):W.parents.length<=60/\W.owner.length<=40:=by
 rw[bif_or] at h;simp only[Bool.or_eq_false_iff,decide_eq_false_iff_not] at h;omega
theorem world_val(h:W.parents.length<=60/\W.owner.length<=40):worldP W=(parentssP 0 W.parents && W.owner.all (ownP W)):=by
 simp[worldP,h.1,h.2]
theorem parents_step{l:List (List Int)}(hk:k<l.length):parentssP k (l.drop k)=(parentsP k [] (l.getD k default) && parentssP (k+1) (l.drop (k+1))):=by
 rw[List.drop_eq_getElem_cons hk,parentssP,List.getD_eq_getElem?_getD,List.getElem?_eq_getElem hk];rfl
theorem ups_step{l:List (List Int)}(U:List Nat)(hk:k<l.length):upsFrom (l.drop k) k U=upsFrom (l.drop (k+1)) (k+1) (U.set (3+k) (upFold U k (l.getD k default))):=by
 rw[List.drop_eq_getElem_cons hk,upsFrom,List.getD_eq_getElem?_getD,List.getElem?_eq_getElem hk];rfl
theorem parent_step(hj:j<l.length):parentsP i (l.take j) (l.drop j)=(!(decide (l.getD j default<3) || decide (l.getD j default>=3+i) || (l.take j).contains (l.getD j default)) && parentsP i (l.take (j+1)) (l.drop (j+1))):=by
 rw[List.drop_eq_getElem_cons hj,parentsP, <-take_getD hj,List.getD_eq_getElem?_getD,List.getElem?_eq_getElem hj];rfl
theorem getD_lt[Inhabited α]{l:List α}{j:Nat}(h:j<l.length):l.getD j default=l[j]:=by rw[List.getD_eq_getElem?_getD,List.getElem?_eq_getElem h];rfl
theorem up_get'(ho:off=2+i)(h:i<U.length):(Wcells W++U.map λs=>AV.set s)[off]? =some (AV.set (U.getD i 0)):=ho▸up_get h
theorem up_setO(ho:off=2+i)(h:i<U.length)(hU:U.set i s=U'):(Wcells W++U.map λs=>AV.set s).take off++[AV.set s]++(Wcells W++U.map λs=>AV.set s).drop (off+1)=Wcells W++U'.map λs=>AV.set s:=ho▸up_set' h hU
theorem fold_step(hj:j<l.length):(l.drop j).foldl (λs (p:Int)=>s ||| U.getD p.toNat 0) s=(l.drop (j+1)).foldl (λs (p:Int)=>s ||| U.getD p.toNat 0) (s ||| U.getD (l.getD j default).toNat 0):=by
 rw[List.drop_eq_getElem_cons hj,List.foldl_cons,getD_lt hj]
theorem parent_ok{r:Bool}(hj:j<l.length)(hp:parentsP k (l.take j) (l.drop j)=r)(h:(bif bif decide (l.getD j default<3) then true else decide (3+(k:Int)<=l.getD j default) then true else (l.take j).contains (l.getD j default))=false):
  3<=l.getD j default/\l.getD j default<3+k/\parentsP k (l.take (j+1)) (l.drop (j+1))=r:=by
 rw[bif_or,bif_or] at h;have h0:=h;simp only[Bool.or_eq_false_iff,decide_eq_false_iff_not] at h0;refine⟨Yb,Yb,?_⟩;rw[parent_step hj] at hp;have e:(decide (l.getD j default<3) || decide (l.getD j default>=3+(k:Int)) || (l.take j).contains (l.getD j default))=false:=h;rw[e] at hp;simpa using hp
theorem parent_no{r:Bool}(hj:j<l.length)(hp:parentsP k (l.take j) (l.drop j)=r)(h:(bif bif decide (l.getD j default<3) then true else decide (3+(k:Int)<=l.getD j default) then true else (l.take j).contains (l.getD j default))=true):r=false:=by
 rw[bif_or,bif_or] at h;rw[parent_step hj] at hp;have e:(decide (l.getD j default<3) || decide (l.getD j default>=3+(k:Int)) || (l.take j).contains (l.getD j default))=true:=h;rw[e] at hp;simpa using hp.symm
theorem world_parent_no(hW:W.parents.length<=60/\W.owner.length<=40)(hk:k<W.parents.length)(hpar:parentssP k (W.parents.drop k)=parentssP 0 W.parents)(h:parentsP k [] (W.parents.getD k default)=false):worldP W=false:=by
 rw[parents_step hk,h] at hpar;rw[world_val hW, <-hpar];rfl
theorem u_get(hU:∀x∈U,x<18446744073709551616)(i:Nat):U.getD i 0<18446744073709551616:=by
 rw[List.getD_eq_getElem?_getD];by_cases h:i<U.length
 ·rw[List.getElem?_eq_getElem h];exact hU _ (List.getElem_mem h)
 ·rw[List.getElem?_eq_none Yb];decide
theorem u_set(hU:∀x∈U,x<18446744073709551616){i s:Nat}(hs:s<18446744073709551616):∀x∈U.set i s,x<18446744073709551616:=by
 intro x hx;rcases List.mem_or_eq_of_mem_set hx with h | h
 ·exact hU x h
 ·exact h▸hs
theorem or64{s t:Nat}(hs:s<18446744073709551616)(ht:t<18446744073709551616):s ||| t<18446744073709551616:=Nat.or_lt_two_pow (n:=64) hs ht
theorem pow64(h:k<64):2^k<18446744073709551616:=Nat.pow_lt_pow_right (a:=2) (n:=64) Yb h
theorem p105(W:FW):PCall Tryz.prog 249 [AV.world W] (.tup [if worldP W then Wptr W else .one,.b (worldP W)]):=by
 intro H;refine aC (n:=91) Tryz.func249 λB I w0=>?_;refine CW.boundA (t:=0) (i:=0) rfl rfl (λhb0=>?_);refine CW.boundA (t:=0) (i:=1) rfl rfl (λhb1=>?_);refine Z22 ?_;refine CW.cond rfl (λh0=>?_) (λh0=>?_)
 ·have hw:worldP W=false:=world_big h0;refine Z8 ?_;refine Done.retR (rs:=[.tmp 2,.tmp 3]) (H':=H) rfl (.tmp rfl (.tmp rfl (.nil))) (.cons (AVle.one rfl (λ_ h=>by cases h)) (.cons (AVle.refl _) .nil)) Yd ?_;exact⟨by rw[hw];rfl,rfl⟩
 ·have hW:=world_small h0;refine Z6 ?_;refine OL.boxC rfl rfl rfl rfl rfl rfl rfl (λb0=>?_);refine Z10 ?_;refine lj (λm st=>∃k:Nat,st=⟨[(24,.i k),(4,.p b0 0),(1,.ptr (Wcells W))],.blk b0 327 (Wcells W++(U0 k).map λs=>AV.set s)::H⟩/\m=3 - k/\k<=3) (⟨0,rfl,rfl,Yb⟩) ?_;rintro m _ ⟨k,rfl,rfl,hk⟩;refine Z6 ?_;refine cd (λh1=>?_) λh1=>?_
  ·refine Z10 ?_;refine CW.dp mixed ?_;refine DP.anyC 0 6 91 rfl Yf rfl rfl Yf ?_;refine Z3 ?_;refine AD.popC rfl rfl rfl (POp.call .k (p151 1 k Yb Yb)) ?_;refine Z5 ?_;apply OL.stoC rfl rfl rfl rfl rfl rfl rfl rfl rfl rfl
   (case hu=>repeat (first | exact Upd.head _ _ _ | apply Upd.tail));(case hfit=>exact up_fit (i:=k) Yn (by rw[U0_len hk];omega));(case hds=>exact up_setO (i:=k) Yn (by rw[U0_len hk];omega) (U0_set Yb))
   refine Z7 ?_;exact ag (⟨k+1,rfl,rfl,Yb⟩)
  ·obtain rfl:k=3:=by omega
   refine Z15 ?_;refine lj (λm st=>∃(k:Nat) (U:List Nat),st=⟨[(38,.i k),(37,.i W.parents.length),(36,AV.intss W.parents),(4,.p b0 0),(1,.ptr (Wcells W))],.blk b0 327 (Wcells W++U.map λs=>AV.set s)::H⟩/\m=W.parents.length - k/\k<=W.parents.length/\U.length=63/\(∀x∈U,x<18446744073709551616)/\upsFrom (W.parents.drop k) k U=upsP W/\parentssP k (W.parents.drop k)=parentssP 0 W.parents) (⟨0,U0 3,rfl,rfl,Yb,rfl,by decide,rfl,rfl⟩) ?_;rintro m _ ⟨k,U,rfl,rfl,hk,hlen,hU,hup,hpar⟩;refine Z6 ?_;refine cd (λh2=>?_) λh2=>?_
   ·refine Z17 ?_;refine oP (POp.call .k (p151 1 (3+k) Yb Yb)) ?_;refine Z5 ?_;refine CW.boundM (t:=7) rfl (λhbl=>?_);refine Z7 ?_;refine lj (λm st=>∃(j s:Nat),st=⟨[(48,.i j),(47,.i (W.parents.getD k default).length),(46,AV.ints (W.parents.getD k default)),(8,AV.set s),(6,.i k),(7,AV.ints (W.parents.getD k default)),(38,.i k),(37,.i W.parents.length),(36,AV.intss W.parents),(4,.p b0 0),(1,.ptr (Wcells W))],.blk b0 327 (Wcells W++U.map λs=>AV.set s)::H⟩/\m=(W.parents.getD k default).length - j/\j<=(W.parents.getD k default).length/\s<18446744073709551616/\((W.parents.getD k default).drop j).foldl (λs (p:Int)=>s ||| U.getD p.toNat 0) s=upFold U k (W.parents.getD k default)/\parentsP k ((W.parents.getD k default).take j) ((W.parents.getD k default).drop j)=parentsP k [] (W.parents.getD k default)) (⟨0,1 ||| 2^((3:Int)+k).toNat,rfl,rfl,Yb,or64 Yb (pow64 Yb),by rw[show ((3:Int)+k).toNat=3+k from by omega];rfl,rfl⟩) ?_;rintro m _ ⟨j,s,rfl,rfl,hj,hs,hf,hp⟩;refine Z6 ?_;refine cd (λh3=>?_) λh3=>?_
    ·refine Z27 ?_;refine OL.guardC rfl rfl rfl rfl rfl rfl (λhg=>POp.slTo rfl rfl YT rfl YT Yb) ?_;refine Z1 ?_;refine OL.guardC rfl rfl rfl rfl rfl rfl (λhg=>POp.call (.mk' rfl rfl rfl rfl Yc) (p33 _ _)) ?_;refine Z3 ?_;refine cd (λh4=>?_) λh4=>?_
     ·have hw:worldP W=false:=world_parent_no hW Yb hpar (parent_no Yb hp h4);refine Z18 ?_;refine Done.retR (rs:=[.tmp 2,.tmp 3]) (H':=H) rfl (.tmp rfl (.tmp rfl (.nil))) (.cons (AVle.one rfl (λ_ h=>by cases h)) (.cons (AVle.refl _) .nil)) Yd ?_;exact⟨by rw[hw];rfl,rfl⟩
     ·obtain⟨hp0,hp1,hp2⟩:=parent_ok Yb hp h4;refine Z9 ?_;refine oP ((by first | exact POp.ld1 rfl rfl rfl rfl | (apply POp.ld1H rfl rfl rfl;(case hm=>repeat (first | exact .head _ | refine .tail _ ?_));(case hy=>exact up_get' (i:=((W.parents.getD k default).getD j default).toNat) Yb Yb)))) ?_;refine oP (POp.bits rfl rfl rfl rfl rfl (bit_or _ _ hs (u_get hU _))) ?_;refine Z8 ?_;exact ag (⟨j+1,s ||| U.getD ((W.parents.getD k default).getD j default).toNat 0,rfl,rfl,Yb,or64 hs (u_get hU _),by rw[<-fold_step Yb];exact hf,hp2⟩)
    ·obtain rfl:j=(W.parents.getD k default).length:=by omega
     rw[List.drop_length,List.foldl_nil] at hf;rw[List.drop_length,List.take_length,parentsP] at hp;subst hf;refine Z13 ?_;apply OL.stoC rfl rfl rfl rfl rfl rfl rfl rfl rfl rfl
     (case hu=>repeat (first | exact Upd.head _ _ _ | apply Upd.tail));(case hfit=>exact up_fit (i:=3+k) Yb Yb);(case hds=>exact up_setO (i:=3+k) Yb Yb rfl)
     refine Z7 ?_;exact ag (⟨k+1,U.set (3+k) (upFold U k (W.parents.getD k default)),rfl,rfl,Yb,by simp[hlen],u_set hU hs,by rw[<-ups_step U Yb];exact hup,by rw[parents_step Yb, <-hp] at hpar;simpa using hpar⟩)
   ·obtain rfl:k=W.parents.length:=by omega
    rw[List.drop_length,upsFrom] at hup;subst hup;rw[List.drop_length,parentssP] at hpar;refine Z6 ?_;refine CW.freezeP (d:=4) rfl Yr ?_;refine Z6 ?_;refine oP (POp.call .k (p152 (.of (λx=>p153 W x hW.1)) W.owner)) ?_;refine Z5 ?_;refine Done.retR (rs:=[.tmp 2,.tmp 3]) (H':=H) rfl (.tmp rfl (.tmp rfl (.nil))) (.cons (AVle.ite1 (c:=worldP W=true) rfl (λ_ h=>by cases h)) (.cons (AVle.refl _) .nil)) Yd ?_;exact⟨by rw[world_val hW, <-hpar];rfl,rfl⟩
theorem p105t(h:worldP W=true):PCall Tryz.prog 249 [AV.world W] (.tup [Wptr W,.b true]):=by have:=p105 W;rwa [if_pos h,h] at this
theorem p105f(h:worldP W=false):PCall Tryz.prog 249 [AV.world W] (.tup [.one,.b false]):=by have:=p105 W;rwa [if_neg Yk,h] at this
theorem world_len(h:worldP W=true):W.parents.length<=60:=by simp[worldP] at h;exact h.1.1.1
theorem world_own(h:worldP W=true):W.owner.length<=40:=by simp[worldP] at h;exact h.1.1.2
theorem p80t(h:worldP W=true)(l:List Fact):PCall Tryz.prog 191 [AV.world W,AV.facts l] (.tup [Wptr W,.b (l.all (formedP W))]):=by
 intro H;refine aC (n:=20) Tryz.func191 λB I w0=>?_;have hW:=world_len h;refine Z10 ?_;refine oP (POp.call .k (p105t h)) ?_;refine Z14 ?_;refine OL.guardC rfl rfl rfl rfl rfl rfl (λhg=>POp.call (.mk' rfl rfl rfl rfl Yc) (p131 W hW l)) ?_;refine Z6 ?_;refine rR [.tmp 4,.tmp 5] (H) ?_;exact⟨Ye,rfl⟩
theorem p80f(h:worldP W=false)(l:List Fact):PCall Tryz.prog 191 [AV.world W,AV.facts l] (.tup [.one,.b false]):=by
 intro H;refine aC (n:=20) Tryz.func191 λB I w0=>?_;refine Z10 ?_;refine oP (POp.call .k (p105f h)) ?_;refine Z14 ?_;refine OL.guardC (x:=.b false) rfl rfl rfl rfl rfl rfl (λhg=>absurd hg Yn) ?_;refine Z6 ?_;refine rR [.tmp 4,.tmp 5] (H) ?_;exact⟨Ye,rfl⟩
theorem refused(b:Bool):PCall Tryz.prog 192 [.b b] (.i (if b then 0 else 2)):=by
 intro H;refine aC (n:=5) Tryz.func192 λB I w0=>?_;refine Z12 ?_;refine cd (λh0=>?_) λh0=>?_
 ·refine Z7 ?_;refine r1 2 (H) ?_;exact⟨retI Ys,rfl⟩
 ·refine Z8 ?_;refine r1 2 (H) ?_;exact⟨retI Ys,rfl⟩
theorem factFormedT{W:Fc.FW}(h:worldP W=true)(f:Fact):PCall Tryz.prog 114 [AV.world W,AV.fact f] (.i (if formedP W f then 0 else 2)):=by
 intro H;refine aC (n:=16) Tryz.func114 λB I w0=>?_;refine Z11 ?_;refine oP (POp.rowK [(_,AV.fact f)] rfl rfl (by first | rfl | simp_all) rfl rfl rfl rfl rfl) ?_;refine oP (POp.callLe .k (.cons (.refl _) (.cons (AVle_facts [f] Yav) .nil)) (by have:=p80t h [f];rwa [List.all_cons,List.all_nil,Bool.and_true] at this)) ?_;refine Z10 ?_;refine oP (POp.call .k ((refused _))) ?_;refine Z4 ?_;refine r1 4 (H) ?_;exact⟨Ye,rfl⟩
theorem factFormedF{W:Fc.FW}(h:worldP W=false)(f:Fact):PCall Tryz.prog 114 [AV.world W,AV.fact f] (.i 2):=by
 intro H;refine aC (n:=16) Tryz.func114 λB I w0=>?_;refine Z11 ?_;refine oP (POp.rowK [(_,AV.fact f)] rfl rfl (by first | rfl | simp_all) rfl rfl rfl rfl rfl) ?_;refine oP (POp.callLe .k (.cons (.refl _) (.cons (AVle_facts [f] Yav) .nil)) (p80f h [f])) ?_;refine Z10 ?_;refine oP (POp.call .k ((refused _))) ?_;refine Z4 ?_;refine r1 4 (H) ?_;exact⟨Ye,rfl⟩
theorem keepI(hg:PredOk Tryz.prog (.fn f fs cs) AV.i p)(l:List Int)(hl:l.length<=1000000):PCall Tryz.prog 447 [AV.ints l,.fn f fs cs] (AV.ints (l.filter p)):=by
 intro H;refine aC (n:=23) Tryz.func447 λB I w0=>?_;refine Z12 ?_;refine CW.ownNil 5 3 1 rfl ?_;refine Z7 ?_;refine lj (λm st=>∃(i:Nat) (v:Value),st=⟨[(10,.i i),(9,.i l.length),(8,AV.ints l),(1,.fn f fs cs),(5,.as (AV.ints ((l.take i).filter p)) v)],.own 3 1 v::H⟩/\m=l.length - i/\i<=l.length) (⟨0,_,rfl,rfl,Yb⟩) ?_;rintro m _ ⟨i,v,rfl,rfl,hi⟩;refine Z6 ?_;refine cd (λh0=>?_) λh0=>?_
 ·have hil:i<l.length:=by omega
  refine Z15 ?_;refine OL.vcallC rfl rfl rfl rfl rfl rfl rfl rfl (AVleL.refl _) (hg B _ _) ?_;rintro _ _ ⟨rfl,rfl⟩;refine Z2 ?_;refine cd (λh1=>?_) λh1=>?_
  ·refine Z3 ?_;refine OL.popC (x:=.sl 1 [[.i (l.getD i default)]]) rfl rfl rfl (POp.row rfl rfl Yj rfl rfl rfl rfl rfl rfl) ?_;refine OL.appendC rfl rfl rfl rfl rfl rfl rfl rfl (AVle.refl _) (rfl) (λv=>by repeat (first | exact Upd.head _ _ _ | apply Upd.tail)) YO YO (λv20=>?_);refine Z8 ?_;exact ag (⟨i+1,v20,by rw[filter_yes hil h1],rfl,hil⟩)
  ·refine Z7 ?_;exact ag (⟨i+1,v,by rw[filter_no hil h1],rfl,hil⟩)
 ·obtain rfl:i=l.length:=by omega
  rw[List.take_length];refine Z12 ?_;refine Done.retR (rs:=[.tmp 4]) (H':=H) rfl (.tmp rfl (.nil)) (.cons (AVle.asL _ _) .nil) Yd ?_;exact⟨Ye,rfl⟩
theorem bare1(n:Int):PCall Tryz.prog 470 [.i n] (.b (n !=0)):=by
 intro H;refine aC (n:=5) Tryz.func470 λB I w0=>?_;refine Z13 ?_;refine r1 2 (H) ?_;exact⟨Ye,rfl⟩
theorem bareC(l:List Int)(hl:l.length<=1000000):PCall Tryz.prog 446 [AV.ints l] (AV.ints (bareL l)):=by
 intro H;refine aC (n:=5) Tryz.func446 λB I w0=>?_;refine Z8 ?_;refine oP (POp.call .k (keepI (.of bare1) l hl)) ?_;refine Z4 ?_;refine r1 2 (H) ?_;exact⟨Ye,rfl⟩
theorem merge1(h n:Int):PCall Tryz.prog 448 [.i n,.ptr [.i h]] (.b (n !=h)):=by
 intro H;refine aC (n:=7) Tryz.func448 λB I w0=>?_;refine Z14 ?_;refine r1 3 (H) ?_;exact⟨Ye,rfl⟩
end Go.Proofs.YtogjaoodkaahoaaGreat
