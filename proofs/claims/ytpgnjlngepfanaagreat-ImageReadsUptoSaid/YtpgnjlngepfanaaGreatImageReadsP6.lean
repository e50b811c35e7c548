/- Part 6 of the proof: contracts of functions of the program and what they need. No condition beyond those that each theorem names. -/
import Derived.Test.YtpgnjlngepfanaaGreatImageReadsP5
import Derived.DeepKeys4
import Derived.Test.YtpgnjlngepfanaaGreatProg
import Derived.KernelRfl
set_option maxHeartbeats 1000000
namespace Go.Proofs.YtpgnjlngepfanaaGreat
open Go.Eng
instance:HasTy Tryz.prog 3 (false,1):=⟨Yf⟩
instance:HasTy Tryz.prog 4 (false,1):=⟨Yf⟩
instance:HasTy Tryz.prog 5 (false,1):=⟨Yf⟩
instance:HasTy Tryz.prog 22 (false,1):=⟨Yf⟩
instance:HasTy Tryz.prog 23 (false,1):=⟨Yf⟩
instance:HasTy Tryz.prog 24 (false,1):=⟨Yf⟩
instance:HasTy Tryz.prog 25 (false,1):=⟨Yf⟩
instance:HasTy Tryz.prog 27 (true,6):=⟨Yf⟩
instance:HasTy Tryz.prog 28 (false,1):=⟨Yf⟩
instance:HasTy Tryz.prog 29 (false,1):=⟨Yf⟩
instance:HasTy Tryz.prog 30 (false,1):=⟨Yf⟩
instance:HasTy Tryz.prog 48 (false,1):=⟨Yf⟩
instance:HasTy Tryz.prog 58 (false,1):=⟨Yf⟩
instance:HasTy Tryz.prog 60 (true,2):=⟨Yf⟩
instance:HasTy Tryz.prog 65 (true,2):=⟨Yf⟩
instance:HasTy Tryz.prog 77 (false,1):=⟨Yf⟩
instance:HasTy Tryz.prog 79 (true,3):=⟨Yf⟩
instance:HasTy Tryz.prog 86 (false,1):=⟨Yf⟩
instance:HasTy Tryz.prog 89 (false,1):=⟨Yf⟩
instance:HasTy Tryz.prog 104 (false,1):=⟨Yf⟩
instance:HasTy Tryz.prog 110 (false,1):=⟨Yf⟩
instance:HasTy Tryz.prog 114 (true,3):=⟨Yf⟩
instance:HasTy Tryz.prog 119 (true,3):=⟨Yf⟩
instance:HasTy Tryz.prog 121 (false,1):=⟨Yf⟩
instance:HasTy Tryz.prog 124 (false,1):=⟨Yf⟩
instance:HasTy Tryz.prog 143 (true,2):=⟨Yf⟩
instance:HasTy Tryz.prog 144 (false,1):=⟨Yf⟩
instance:HasTy Tryz.prog 146 (true,3):=⟨Yf⟩
instance:HasTy Tryz.prog 149 (false,1):=⟨Yf⟩
instance:HasTy Tryz.prog 151 (true,2):=⟨Yf⟩
instance:HasTy Tryz.prog 162 (false,1):=⟨Yf⟩
instance:HasTy Tryz.prog 163 (false,1):=⟨Yf⟩
instance:HasTy Tryz.prog 164 (false,1):=⟨Yf⟩
instance:HasTy Tryz.prog 166 (true,6):=⟨Yf⟩
instance:HasTy Tryz.prog 168 (true,9):=⟨Yf⟩
instance:HasTy Tryz.prog 176 (true,0):=⟨Yf⟩
instance:HasTy Tryz.prog 220 (false,1):=⟨Yf⟩
instance:HasTy Tryz.prog 228 (true,2):=⟨Yf⟩
instance:HasTy Tryz.prog 253 (true,0):=⟨Yf⟩
instance:HasTy Tryz.prog 257 (false,1):=⟨Yf⟩
instance:HasTy Tryz.prog 260 (false,1):=⟨Yf⟩
instance:HasTy Tryz.prog 261 (false,1):=⟨Yf⟩
instance:HasTy Tryz.prog 269 (false,1):=⟨Yf⟩
instance:HasTy Tryz.prog 275 (false,1):=⟨Yf⟩
instance:HasTy Tryz.prog 276 (false,1):=⟨Yf⟩
instance:HasTy Tryz.prog 282 (false,1):=⟨Yf⟩
instance:HasTy Tryz.prog 303 (true,1):=⟨Yf⟩
instance:HasTy Tryz.prog 306 (false,1):=⟨Yf⟩
instance:HasTy Tryz.prog 314 (false,1):=⟨Yf⟩
instance:HasFld Tryz.prog 27 0 0:=⟨Yf⟩
instance:HasFld Tryz.prog 27 1 1:=⟨Yf⟩
instance:HasFld Tryz.prog 27 2 2:=⟨Yf⟩
instance:HasFld Tryz.prog 27 3 3:=⟨Yf⟩
instance:HasFld Tryz.prog 27 4 4:=⟨Yf⟩
instance:HasFld Tryz.prog 27 5 5:=⟨Yf⟩
instance:HasFld Tryz.prog 32 0 0:=⟨Yf⟩
instance:HasFld Tryz.prog 32 1 6:=⟨Yf⟩
instance:HasFld Tryz.prog 32 2 7:=⟨Yf⟩
instance:HasFld Tryz.prog 32 3 8:=⟨Yf⟩
instance:HasFld Tryz.prog 32 4 9:=⟨Yf⟩
instance:HasFld Tryz.prog 32 5 10:=⟨Yf⟩
instance:HasFld Tryz.prog 60 0 0:=⟨Yf⟩
instance:HasFld Tryz.prog 60 1 1:=⟨Yf⟩
instance:HasFld Tryz.prog 65 0 0:=⟨Yf⟩
instance:HasFld Tryz.prog 65 1 1:=⟨Yf⟩
instance:HasFld Tryz.prog 79 0 0:=⟨Yf⟩
instance:HasFld Tryz.prog 79 1 1:=⟨Yf⟩
instance:HasFld Tryz.prog 79 2 2:=⟨Yf⟩
instance:HasFld Tryz.prog 97 0 0:=⟨Yf⟩
instance:HasFld Tryz.prog 99 0 0:=⟨Yf⟩
instance:HasFld Tryz.prog 114 0 0:=⟨Yf⟩
instance:HasFld Tryz.prog 114 1 1:=⟨Yf⟩
instance:HasFld Tryz.prog 114 2 2:=⟨Yf⟩
instance:HasFld Tryz.prog 119 0 0:=⟨Yf⟩
instance:HasFld Tryz.prog 119 1 1:=⟨Yf⟩
instance:HasFld Tryz.prog 119 2 2:=⟨Yf⟩
instance:HasFld Tryz.prog 123 0 0:=⟨Yf⟩
instance:HasFld Tryz.prog 123 1 1:=⟨Yf⟩
instance:HasFld Tryz.prog 135 0 0:=⟨Yf⟩
instance:HasFld Tryz.prog 135 1 1:=⟨Yf⟩
instance:HasFld Tryz.prog 135 2 2:=⟨Yf⟩
instance:HasFld Tryz.prog 143 0 0:=⟨Yf⟩
instance:HasFld Tryz.prog 143 1 1:=⟨Yf⟩
instance:HasFld Tryz.prog 146 0 0:=⟨Yf⟩
instance:HasFld Tryz.prog 146 1 1:=⟨Yf⟩
instance:HasFld Tryz.prog 146 2 2:=⟨Yf⟩
instance:HasFld Tryz.prog 151 0 0:=⟨Yf⟩
instance:HasFld Tryz.prog 151 1 1:=⟨Yf⟩
instance:HasFld Tryz.prog 166 0 0:=⟨Yf⟩
instance:HasFld Tryz.prog 166 1 1:=⟨Yf⟩
instance:HasFld Tryz.prog 166 2 2:=⟨Yf⟩
instance:HasFld Tryz.prog 166 3 3:=⟨Yf⟩
instance:HasFld Tryz.prog 166 4 4:=⟨Yf⟩
instance:HasFld Tryz.prog 166 5 5:=⟨Yf⟩
instance:HasFld Tryz.prog 168 0 0:=⟨Yf⟩
instance:HasFld Tryz.prog 168 1 1:=⟨Yf⟩
instance:HasFld Tryz.prog 168 2 2:=⟨Yf⟩
instance:HasFld Tryz.prog 168 3 8:=⟨Yf⟩
instance:HasFld Tryz.prog 177 0 0:=⟨Yf⟩
instance:HasFld Tryz.prog 228 0 0:=⟨Yf⟩
instance:HasFld Tryz.prog 228 1 1:=⟨Yf⟩
instance:HasFld Tryz.prog 278 0 0:=⟨Yf⟩
instance:HasFld Tryz.prog 278 1 1:=⟨Yf⟩
instance:HasFld Tryz.prog 278 2 2:=⟨Yf⟩
instance:HasFld Tryz.prog 309 0 0:=⟨Yf⟩
instance:HasFld Tryz.prog 309 1 2:=⟨Yf⟩
instance:HasSl Tryz.prog 22 3:=⟨Yf⟩
instance:HasSl Tryz.prog 23 1:=⟨Yf⟩
instance:HasSl Tryz.prog 24 9:=⟨Yf⟩
instance:HasSl Tryz.prog 25 3:=⟨Yf⟩
instance:HasSl Tryz.prog 28 2:=⟨Yf⟩
instance:HasSl Tryz.prog 29 2:=⟨Yf⟩
instance:HasSl Tryz.prog 30 1:=⟨Yf⟩
instance:HasSl Tryz.prog 44 1:=⟨Yf⟩
instance:HasSl Tryz.prog 77 2:=⟨Yf⟩
instance:HasSl Tryz.prog 102 1:=⟨Yf⟩
instance:HasSl Tryz.prog 110 3:=⟨Yf⟩
instance:HasSl Tryz.prog 115 3:=⟨Yf⟩
instance:HasSl Tryz.prog 149 1:=⟨Yf⟩
instance:HasSl Tryz.prog 164 6:=⟨Yf⟩
instance:HasSl Tryz.prog 222 1:=⟨Yf⟩
instance:HasSl Tryz.prog 275 1:=⟨Yf⟩
instance:HasSl Tryz.prog 300 1:=⟨Yf⟩
instance:HasArr Tryz.prog 303 (1,1):=⟨Yf⟩
instance:HasArr Tryz.prog 307 (63,1):=⟨Yf⟩
instance:HasZero Tryz.prog 3 [.int .i64 0]:=⟨Yf⟩
instance:HasZero Tryz.prog 4 [.bool false]:=⟨Yf⟩
instance:HasZero Tryz.prog 23 [.slice none 0 0]:=⟨Yf⟩
instance:HasZero Tryz.prog 27 [.slice none 0 0,.int .i64 0,.slice none 0 0,.slice none 0 0,.slice none 0 0,.int .i64 0]:=⟨Yf⟩
instance:HasZero Tryz.prog 28 [.slice none 0 0]:=⟨Yf⟩
instance:HasZero Tryz.prog 29 [.slice none 0 0]:=⟨Yf⟩
instance:HasZero Tryz.prog 30 [.slice none 0 0]:=⟨Yf⟩
instance:HasZero Tryz.prog 60 [.int .i64 0,.int .i64 0]:=⟨Yf⟩
instance:HasZero Tryz.prog 65 [.int .i64 0,.slice none 0 0]:=⟨Yf⟩
instance:HasZero Tryz.prog 79 [.slice none 0 0,.slice none 0 0,.slice none 0 0]:=⟨Yf⟩
instance:HasZero Tryz.prog 86 [.nilFunc]:=⟨Yf⟩
instance:HasZero Tryz.prog 104 [.pointer none]:=⟨Yf⟩
instance:HasZero Tryz.prog 110 [.slice none 0 0]:=⟨Yf⟩
instance:HasZero Tryz.prog 114 [.int .i64 0,.slice none 0 0,.bool false]:=⟨Yf⟩
instance:HasZero Tryz.prog 119 [.int .u8 0,.slice none 0 0,.bool false]:=⟨Yf⟩
instance:HasZero Tryz.prog 124 [.pointer none]:=⟨Yf⟩
instance:HasZero Tryz.prog 143 [.int .i64 0,.int .i64 0]:=⟨Yf⟩
instance:HasZero Tryz.prog 146 [.int .i64 0,.int .i64 0,.slice none 0 0]:=⟨Yf⟩
instance:HasZero Tryz.prog 151 [.slice none 0 0,.slice none 0 0]:=⟨Yf⟩
instance:HasZero Tryz.prog 166 [.int .i64 0,.int .i64 0,.slice none 0 0,.int .i64 0,.int .i64 0,.slice none 0 0]:=⟨Yf⟩
instance:HasZero Tryz.prog 168 [.int .i64 0,.int .i64 0,.int .i64 0,.int .i64 0,.slice none 0 0,.int .i64 0,.int .i64 0,.slice none 0 0,.int .i64 0]:=⟨Yf⟩
instance:HasZero Tryz.prog 176 []:=⟨Yf⟩
instance:HasZero Tryz.prog 228 [.int .i64 0,.int .i64 0]:=⟨Yf⟩
instance:HasZero Tryz.prog 253 []:=⟨Yf⟩
instance:HasZero Tryz.prog 260 [.nilFunc]:=⟨Yf⟩
instance:HasZero Tryz.prog 303 [.int .u64 0]:=⟨Yf⟩
instance:HasZero Tryz.prog 314 [.int .u64 0]:=⟨Yf⟩
instance:IsB Tryz.prog 4:=⟨Yf⟩
instance:HasInt Tryz.prog 3 .i64:=⟨Yf⟩
instance:HasInt Tryz.prog 5 .u8:=⟨Yf⟩
instance:HasInt Tryz.prog 48 .i64:=⟨Yf⟩
instance:HasInt Tryz.prog 68 .u16:=⟨Yf⟩
instance:HasInt Tryz.prog 212 .u64:=⟨Yf⟩
instance:HasInt Tryz.prog 279 .u32:=⟨Yf⟩
instance:HasInt Tryz.prog 282 .u64:=⟨Yf⟩
instance:HasInt Tryz.prog 314 .u64:=⟨Yf⟩
instance:HasBuild Tryz.prog 27 ([.slice none 0 0,.int .i64 0,.slice none 0 0,.slice none 0 0,.slice none 0 0,.int .i64 0],[(0,1),(1,1),(2,1),(3,1),(4,1),(5,1)]):=⟨Yf⟩
instance:HasBuild Tryz.prog 60 ([.int .i64 0,.int .i64 0],[(0,1),(1,1)]):=⟨Yf⟩
instance:HasBuild Tryz.prog 65 ([.int .i64 0,.slice none 0 0],[(0,1),(1,1)]):=⟨Yf⟩
instance:HasBuild Tryz.prog 79 ([.slice none 0 0,.slice none 0 0,.slice none 0 0],[(0,1),(1,1),(2,1)]):=⟨Yf⟩
instance:HasBuild Tryz.prog 97 ([.slice none 0 0],[(0,1)]):=⟨Yf⟩
instance:HasBuild Tryz.prog 99 ([.slice none 0 0],[(0,1)]):=⟨Yf⟩
instance:HasBuild Tryz.prog 114 ([.int .i64 0,.slice none 0 0,.bool false],[(0,1),(1,1),(2,1)]):=⟨Yf⟩
instance:HasBuild Tryz.prog 119 ([.int .u8 0,.slice none 0 0,.bool false],[(0,1),(1,1),(2,1)]):=⟨Yf⟩
instance:HasBuild Tryz.prog 123 ([.slice none 0 0,.map none],[(0,1),(1,1)]):=⟨Yf⟩
instance:HasBuild Tryz.prog 135 ([.slice none 0 0,.int .i64 0,.bool false],[(0,1),(1,1),(2,1)]):=⟨Yf⟩
instance:HasBuild Tryz.prog 143 ([.int .i64 0,.int .i64 0],[(0,1),(1,1)]):=⟨Yf⟩
instance:HasBuild Tryz.prog 146 ([.int .i64 0,.int .i64 0,.slice none 0 0],[(0,1),(1,1),(2,1)]):=⟨Yf⟩
instance:HasBuild Tryz.prog 151 ([.slice none 0 0,.slice none 0 0],[(0,1),(1,1)]):=⟨Yf⟩
instance:HasBuild Tryz.prog 166 ([.int .i64 0,.int .i64 0,.slice none 0 0,.int .i64 0,.int .i64 0,.slice none 0 0],[(0,1),(1,1),(2,1),(3,1),(4,1),(5,1)]):=⟨Yf⟩
instance:HasBuild Tryz.prog 168 ([.int .i64 0,.int .i64 0,.int .i64 0,.int .i64 0,.slice none 0 0,.int .i64 0,.int .i64 0,.slice none 0 0,.int .i64 0],[(0,1),(1,1),(2,6),(8,1)]):=⟨Yf⟩
instance:HasBuild Tryz.prog 176 ([],[]):=⟨Yf⟩
instance:HasBuild Tryz.prog 177 ([.slice none 0 0],[(0,1)]):=⟨Yf⟩
instance:HasBuild Tryz.prog 228 ([.int .i64 0,.int .i64 0],[(0,1),(1,1)]):=⟨Yf⟩
instance:HasBuild Tryz.prog 234 ([],[]):=⟨Yf⟩
instance:HasBuild Tryz.prog 253 ([],[]):=⟨Yf⟩
instance:HasBuild Tryz.prog 278 ([.slice none 0 0,.slice none 0 0,.map none],[(0,1),(1,1),(2,1)]):=⟨Yf⟩
instance:HasBuild Tryz.prog 303 ([.int .u64 0],[(0,1)]):=⟨Yf⟩
instance:HasBuild Tryz.prog 309 ([.slice none 0 0,.slice none 0 0,.int .u64 0,.int .u64 0,.int .u64 0,.int .u64 0,.int .u64 0,.int .u64 0,.int .u64 0,.int .u64 0,.int .u64 0,.int .u64 0,.int .u64 0,.int .u64 0,.int .u64 0,.int .u64 0,.int .u64 0,.int .u64 0,.int .u64 0,.int .u64 0,.int .u64 0,.int .u64 0,.int .u64 0,.int .u64 0,.int .u64 0,.int .u64 0,.int .u64 0,.int .u64 0,.int .u64 0,.int .u64 0,.int .u64 0,.int .u64 0,.int .u64 0,.int .u64 0,.int .u64 0,.int .u64 0,.int .u64 0,.int .u64 0,.int .u64 0,.int .u64 0,.int .u64 0,.int .u64 0,.int .u64 0,.int .u64 0,.int .u64 0,.int .u64 0,.int .u64 0,.int .u64 0,.int .u64 0,.int .u64 0,.int .u64 0,.int .u64 0,.int .u64 0,.int .u64 0,.int .u64 0,.int .u64 0,.int .u64 0,.int .u64 0,.int .u64 0,.int .u64 0,.int .u64 0,.int .u64 0,.int .u64 0,.int .u64 0,.int .u64 0],[(0,2),(2,63)]):=⟨Yf⟩
instance:HasRow Tryz.prog 22 (3,[.slice none 0 0,.slice none 0 0,.slice none 0 0]):=⟨Yf⟩
instance:HasRow Tryz.prog 23 (1,[.int .i64 0]):=⟨Yf⟩
instance:HasRow Tryz.prog 24 (9,[.int .i64 0,.int .i64 0,.int .i64 0,.int .i64 0,.slice none 0 0,.int .i64 0,.int .i64 0,.slice none 0 0,.int .i64 0]):=⟨Yf⟩
instance:HasRow Tryz.prog 25 (3,[.int .i64 0,.int .i64 0,.slice none 0 0]):=⟨Yf⟩
instance:HasRow Tryz.prog 28 (2,[.int .i64 0,.slice none 0 0]):=⟨Yf⟩
instance:HasRow Tryz.prog 29 (2,[.int .i64 0,.int .i64 0]):=⟨Yf⟩
instance:HasRow Tryz.prog 30 (1,[.int .u8 0]):=⟨Yf⟩
instance:HasRow Tryz.prog 44 (1,[.int .i64 0]):=⟨Yf⟩
instance:HasRow Tryz.prog 77 (2,[.int .i64 0,.int .i64 0]):=⟨Yf⟩
instance:HasRow Tryz.prog 102 (1,[.pointer none]):=⟨Yf⟩
instance:HasRow Tryz.prog 110 (3,[.int .i64 0,.slice none 0 0,.bool false]):=⟨Yf⟩
instance:HasRow Tryz.prog 115 (3,[.int .u8 0,.slice none 0 0,.bool false]):=⟨Yf⟩
instance:HasRow Tryz.prog 149 (1,[.slice none 0 0]):=⟨Yf⟩
instance:HasRow Tryz.prog 164 (6,[.int .i64 0,.int .i64 0,.slice none 0 0,.int .i64 0,.int .i64 0,.slice none 0 0]):=⟨Yf⟩
instance:HasRow Tryz.prog 222 (1,[.int .i64 0]):=⟨Yf⟩
instance:HasRow Tryz.prog 275 (1,[.int .u64 0]):=⟨Yf⟩
instance:HasApp Tryz.prog 22 (79,3,72):=⟨Yf⟩
instance:HasApp Tryz.prog 23 (3,1,8):=⟨Yf⟩
instance:HasApp Tryz.prog 24 (168,9,104):=⟨Yf⟩
instance:HasApp Tryz.prog 25 (146,3,40):=⟨Yf⟩
instance:HasApp Tryz.prog 28 (65,2,32):=⟨Yf⟩
instance:HasApp Tryz.prog 29 (60,2,16):=⟨Yf⟩
instance:HasApp Tryz.prog 30 (5,1,1):=⟨Yf⟩
instance:HasApp Tryz.prog 44 (48,1,8):=⟨Yf⟩
instance:HasApp Tryz.prog 77 (143,2,16):=⟨Yf⟩
instance:HasApp Tryz.prog 102 (104,1,8):=⟨Yf⟩
instance:HasApp Tryz.prog 110 (114,3,40):=⟨Yf⟩
instance:HasApp Tryz.prog 115 (119,3,40):=⟨Yf⟩
instance:HasApp Tryz.prog 149 (23,1,24):=⟨Yf⟩
instance:HasApp Tryz.prog 164 (166,6,80):=⟨Yf⟩
instance:HasApp Tryz.prog 275 (303,1,8):=⟨Yf⟩
theorem mixed:Tryz.prog.follows .mixedOrders=true:=by kernel_rfl
end Go.Proofs.YtpgnjlngepfanaaGreat

set_option linter.unusedVariables false
namespace Go.Eng
abbrev AV.ints(l:List Int):AV:=.sl 1 (l.map λn=>[AV.i n])
abbrev AV.intss(l:List (List Int)):AV:=.sl 1 (l.map λx=>[AV.ints x])
theorem retB{a b:Bool}(h:a=b):tupOf [AV.b a]=AV.b b:=by subst h;rfl
theorem retI{a b:Int}(h:a=b):tupOf [AV.i a]=AV.i b:=by subst h;rfl
theorem retX{x y:AV}(h:x=y):tupOf [x]=y:=h
theorem bv64(n:Nat)(h:n<18446744073709551616):(BitVec.ofInt IntKind.u64.bits (n:Int)).toNat=n:=by
 simp[IntKind.bits];omega
theorem u64_wrap(n:Nat)(h:n<18446744073709551616):IntKind.u64.wrap (n:Int)=n:=by
 simp only[IntKind.wrap,IntKind.bits,IntKind.signed];simp;omega
theorem bit_or(s t:Nat)(hs:s<18446744073709551616)(ht:t<18446744073709551616):bitI .or .u64 (s:Int) (t:Int)=some ((s ||| t:Nat):Int):=by
 show some (IntKind.u64.wrap _)=_;rw[BitVec.toNat_or,bv64 s hs,bv64 t ht,u64_wrap _ (Nat.or_lt_two_pow (n:=64) hs ht)]
theorem bit_and(s t:Nat)(hs:s<18446744073709551616)(ht:t<18446744073709551616):bitI .and .u64 (s:Int) (t:Int)=some ((s &&& t:Nat):Int):=by
 show some (IntKind.u64.wrap _)=_;rw[BitVec.toNat_and,bv64 s hs,bv64 t ht,u64_wrap _ (Nat.lt_of_le_of_lt Nat.and_le_left hs)]
theorem sh_left(c:Int)(h:0<=c/\c<64):shI .shl .u64 1 c=some ((2^c.toNat:Nat):Int):=by
 show some (IntKind.u64.wrap _)=_;have e:min c.toNat IntKind.u64.bits=c.toNat:=Nat.min_eq_left (by simp[IntKind.bits];omega);have h2:(1:Int)*2^(min c.toNat IntKind.u64.bits)=((2^c.toNat:Nat):Int):=by rw[e];simp
 rw[h2,u64_wrap _ (Nat.pow_lt_pow_right (a:=2) (n:=64) Yd Yd)]
namespace Fc
inductive Fact where
 | mk (op arg:Int) (path:List Int) (cls n:Int) (kids:List Fact)
def Fact.op:Fact->Int | .mk x _ _ _ _ _=>x
def Fact.arg:Fact->Int | .mk _ x _ _ _ _=>x
def Fact.path:Fact->List Int | .mk _ _ x _ _ _=>x
def Fact.cls:Fact->Int | .mk _ _ _ x _ _=>x
def Fact.n:Fact->Int | .mk _ _ _ _ x _=>x
def Fact.kids:Fact->List Fact | .mk _ _ _ _ _ x=>x
instance:Inhabited Fact:=⟨.mk 0 0 [] 0 0 []⟩
mutual
def encF:Fact->List AV
 | .mk op arg path cls n kids=>[.i op,.i arg,AV.ints path,.i cls,.i n,.sl 6 (encFs kids)]
def encFs:List Fact->List (List AV)
 | []=>[]
 | f::r=>encF f::encFs r
end
def Fcells(f:Fact):List AV:=[.i f.op,.i f.arg,AV.ints f.path,.i f.cls,.i f.n,.sl 6 (encFs f.kids)]
theorem encF_eq(f:Fact):encF f=Fcells f:=by cases f;rfl
theorem encFs_map:∀l:List Fact,encFs l=l.map Fcells
 | []=>rfl
 | f::r=>by rw[encFs,encF_eq,encFs_map r];rfl
instance:MapLike encFs Fcells:=⟨encFs_map⟩
abbrev AV.facts(l:List Fact):AV:=.sl 6 (encFs l)
theorem AVle_facts{els:List (List AV)}(l:List Fact)(h:els=l.map Fcells):AVle (.sl 6 els) (AV.facts l):=by subst h;rw[<-encFs_map];exact .refl _
abbrev AV.fact(f:Fact):AV:=.agg (Fcells f)
mutual
def Fact.eqb:Fact->Fact->Bool
 | .mk a b c d e f,.mk a' b' c' d' e' f'=>a==a' && b==b' && d==d' && e==e' && c==c' && Fact.eqbs f f'
def Fact.eqbs:List Fact->List Fact->Bool
 | [],[]=>true
 | x::r,y::s=>Fact.eqb x y && Fact.eqbs r s
 | _,_=>false
end
mutual
theorem Fact.eqb_iff:∀x y:Fact,Fact.eqb x y=true↔x=y
 | .mk a b c d e f,.mk a' b' c' d' e' f'=>by
  rw[Fact.eqb];simp only[Bool.and_eq_true,beq_iff_eq,Fact.eqbs_iff f f',Fact.mk.injEq];constructor
  ·rintro⟨⟨⟨⟨⟨h1,h2⟩,h3⟩,h4⟩,h5⟩,h6⟩;exact⟨h1,h2,h5,h3,h4,h6⟩
  ·rintro⟨h1,h2,h5,h3,h4,h6⟩;exact⟨⟨⟨⟨⟨h1,h2⟩,h3⟩,h4⟩,h5⟩,h6⟩
theorem Fact.eqbs_iff:∀x y:List Fact,Fact.eqbs x y=true↔x=y
 | [],[]=>by simp[Fact.eqbs]
 | [],_::_=>by simp[Fact.eqbs]
 | _::_,[]=>by simp[Fact.eqbs]
 | x::r,y::s=>by
  rw[Fact.eqbs];simp only[Bool.and_eq_true,Fact.eqb_iff x y,Fact.eqbs_iff r s,List.cons.injEq]
end
instance:BEq Fact:=⟨Fact.eqb⟩
instance:LawfulBEq Fact where
 eq_of_beq h:=(Fact.eqb_iff _ _).1 h
 rfl:=(Fact.eqb_iff _ _).2 rfl
instance:DecidableEq Fact:=λa b=>if h:Fact.eqb a b=true then isTrue ((Fact.eqb_iff a b).1 h) else isFalse λe=>h ((Fact.eqb_iff a b).2 e)
theorem Fact.ext'{x y:Fact}(h1:x.op=y.op)(h2:x.arg=y.arg)(h3:x.path=y.path)(h4:x.cls=y.cls)(h5:x.n=y.n)(h6:x.kids=y.kids):x=y:=by
 cases x;cases y;simp only[Fact.op,Fact.arg,Fact.path,Fact.cls,Fact.n,Fact.kids] at*;subst_vars;rfl
mutual
theorem Fact.ind1{P:Fact->Prop}(h:∀f,(∀k∈f.kids,P k)->P f):∀f,P f
 | .mk a b c d e f=>h _ (Fact.ind2 h f)
theorem Fact.ind2{P:Fact->Prop}(h:∀f,(∀k∈f.kids,P k)->P f):∀l:List Fact,∀k∈l,P k
 | [],_,hk=>by cases hk
 | x::r,k,hk=>by
  rcases List.mem_cons.1 hk with e | hk
  ·rw[e];exact Fact.ind1 h x
  ·exact Fact.ind2 h r k hk
end
structure FLit where
 f:Fact
 neg:Bool
def Lcells(l:FLit):List AV:=[.i l.f.op,.i l.f.arg,AV.ints l.f.path,.i l.f.cls,.i l.f.n,.sl 6 (encFs l.f.kids),.b l.neg]
instance:Inhabited FLit:=⟨default,false⟩
abbrev AV.lit(l:FLit):AV:=.agg (Lcells l)
structure FW where
 parents:List (List Int)
 owner:List Int
def Wcells(w:FW):List AV:=[AV.intss w.parents,AV.ints w.owner]
abbrev AV.set(s:Nat):AV:=.val (.int .u64 (s:Int))
def ownP(w:FW)(c:Int):Bool:=decide (3<=c) && decide (c<3+w.parents.length)
def classP(w:FW)(c:Int):Bool:=decide (0<=c) && decide (c<3+w.parents.length)
def slotP(w:FW)(s:Int):Bool:=decide (0<=s) && decide (s<w.owner.length)
def upFold(U:List Nat)(i:Nat)(l:List Int):Nat:=l.foldl (λs p=>s ||| U.getD p.toNat 0) (1 ||| 2^(3+i))
def upsFrom:List (List Int)->Nat->List Nat->List Nat
 | [],_,U=>U
 | l::r,i,U=>upsFrom r (i+1) (U.set (3+i) (upFold U i l))
def upsP(w:FW):List Nat:=upsFrom w.parents 0 ([1,3,5]++List.replicate 60 0)
def parentsP(i:Nat):List Int->List Int->Bool
 | _,[]=>true
 | seen,p::r=>!(decide (p<3) || decide (p>=3+i) || seen.contains p) && parentsP i (seen++[p]) r
def parentssP:Nat->List (List Int)->Bool
 | _,[]=>true
 | i,l::r=>parentsP i [] l && parentssP (i+1) r
def worldP(w:FW):Bool:=decide (w.parents.length<=60) && decide (w.owner.length<=40) && parentssP 0 w.parents && w.owner.all (ownP w)
def Wptr(w:FW):AV:=.ptr (Wcells w++(upsP w).map λs=>AV.set s)
abbrev AV.world(w:FW):AV:=.agg (Wcells w)
def kidsP(op:Int):Int:=if op=5 then 1 else if op=6\/op=7 then 2 else 0
def leafP(f:Fact):Bool:=decide (2<=f.op) && decide (f.op<=4)
def pathP(w:FW)(l:List Int):Bool:=decide (l.length<=2) && l.all (slotP w)
def badP(f:Fact)(left deep:Int):Bool:=decide (left<0) || (deep==0) || decide (f.op<1) || decide (f.op>7) || ((f.kids.length:Int) !=kidsP f.op)
def plainP(f:Fact):Bool:=!((f.arg !=0) || decide ((f.path.length:Int)>0) || (f.cls !=0) || (f.n !=0))
def argP(w:FW)(f:Fact):Bool:=!(decide (f.arg<0) || decide (f.arg>=3) || !pathP w f.path)
def leafOkP(w:FW)(f:Fact):Bool:=if f.op=2 then (f.n==0) && classP w f.cls else (f.cls==0) && decide (f.n>= -1000000000) && decide (f.n<=1000000000)
mutual
def nodeP(w:FW):Fact->Int->Int->Bool×Int
 | .mk op arg path cls n kids,left,deep=>
  if badP (.mk op arg path cls n kids) (left - 1) deep then (false,left - 1)
  else if leafP (.mk op arg path cls n kids) then (argP w (.mk op arg path cls n kids) && leafOkP w (.mk op arg path cls n kids),left - 1)
  else if plainP (.mk op arg path cls n kids) then nodesP w kids (left - 1) (deep - 1)
  else (false,left - 1)
def nodesP(w:FW):List Fact->Int->Int->Bool×Int
 | [],left,_=>(true,left)
 | k::r,left,deep=>if(nodeP w k left deep).1 then nodesP w r (nodeP w k left deep).2 deep else nodeP w k left deep
end
theorem nodeP_eq(w:FW)(f:Fact)(left deep:Int):nodeP w f left deep=if badP f (left - 1) deep then (false,left - 1) else if leafP f then (argP w f && leafOkP w f,left - 1) else if plainP f then nodesP w f.kids (left - 1) (deep - 1) else (false,left - 1):=by
 cases f;rw[nodeP];rfl
def formedP(w:FW)(f:Fact):Bool:=(nodeP w f 24 12).1
theorem nodesP_snoc(w:FW)(deep:Int)(x:Fact):∀(l:List Fact) (left:Int),(nodesP w l left deep).1=true->nodesP w (l++[x]) left deep=nodeP w x (nodesP w l left deep).2 deep
 | [],left,h=>by
  show nodesP w [x] left deep=_;rw[nodesP,nodesP,nodesP];by_cases hx:(nodeP w x left deep).1=true
  ·rw[if_pos hx];exact Prod.ext hx.symm rfl
  ·rw[if_neg hx]
 | k::r,left,h=>by
  rw[nodesP] at h;show nodesP w (k::(r++[x])) left deep=_;rw[nodesP];by_cases hk:(nodeP w k left deep).1=true
  ·rw[if_pos hk] at h;rw[if_pos hk,nodesP_snoc w deep x r _ h,nodesP,if_pos hk]
  ·rw[if_neg hk] at h;exact absurd h hk
theorem nodesP_stop(w:FW)(deep:Int)(y:List Fact):∀(l:List Fact) (left:Int),(nodesP w l left deep).1=false->nodesP w (l++y) left deep=nodesP w l left deep
 | [],left,h=>by rw[nodesP] at h;cases h
 | k::r,left,h=>by
  rw[nodesP] at h;show nodesP w (k::(r++y)) left deep=_;rw[nodesP,nodesP];by_cases hk:(nodeP w k left deep).1=true
  ·rw[if_pos hk] at h;rw[if_pos hk,if_pos hk,nodesP_stop w deep y r _ h]
  ·rw[if_neg hk,if_neg hk]
mutual
theorem nodeP_left(w:FW):∀(f:Fact) (left deep:Int),(nodeP w f left deep).2<=left/\((nodeP w f left deep).1=true->0<=(nodeP w f left deep).2)
 | .mk op arg path cls n kids,left,deep=>by
  rw[nodeP];by_cases h1:badP (.mk op arg path cls n kids) (left - 1) deep=true
  ·rw[if_pos h1];exact⟨YI,Yx⟩
  ·rw[if_neg h1];have hl: ¬(left - 1<0):=by
    intro h;apply h1;simp[badP,h]
   by_cases h2:leafP (.mk op arg path cls n kids)=true
   ·rw[if_pos h2];exact⟨YI,λ_=>by simp;omega⟩
   ·rw[if_neg h2];by_cases h3:plainP (.mk op arg path cls n kids)=true
    ·rw[if_pos h3];have:=nodesP_left w kids (left - 1) (deep - 1) Yd;exact⟨Yd,this.2⟩
    ·rw[if_neg h3];exact⟨YI,Yx⟩
theorem nodesP_left(w:FW):∀(l:List Fact) (left deep:Int),0<=left->(nodesP w l left deep).2<=left/\((nodesP w l left deep).1=true->0<=(nodesP w l left deep).2)
 | [],left,deep,h=>by rw[nodesP];exact⟨Yx,λ_=>h⟩
 | k::r,left,deep,h=>by
  rw[nodesP];have hk:=nodeP_left w k left deep;by_cases h1:(nodeP w k left deep).1=true
  ·rw[if_pos h1];have hr:=nodesP_left w r (nodeP w k left deep).2 deep (hk.2 h1);exact⟨Yd,hr.2⟩
  ·rw[if_neg h1];exact hk
end
end Fc
end Go.Eng

namespace Go.Eng
theorem AVle.eqI{a b:Int}(h:a=b):AVle (.i a) (.i b):=by subst h;exact .refl _
end Go.Eng
namespace Go.Eng.Bd
open Go.Eng.Fc
variable{i k:Nat}{α:Type}{l L out M:List Int}{v h:Int}{p:Int->Bool}{A r g:List (List Int)}
structure Cls where
 parents:List Int
 slots:List Int
 inits:List (Int×Int)
structure Mth where
 kind:Int
 gen:Int
 fact:Fact
 node:Int
structure Nd where
 op:Int
 n:Int
 kids:List Int
structure Prog where
 classes:List Cls
 slots:Int
 gens:List Int
 methods:List Mth
 nodes:List Nd
 main:Int
instance:Inhabited Cls:=⟨⟨[],[],[]⟩⟩
instance:Inhabited Mth:=⟨⟨0,0,default,0⟩⟩
instance:Inhabited Nd:=⟨⟨0,0,[]⟩⟩
abbrev initA(x:Int×Int):List AV:=[.i x.1,.i x.2]
abbrev clsA(c:Cls):List AV:=[AV.ints c.parents,AV.ints c.slots,.sl 2 (c.inits.map initA)]
abbrev mthA(m:Mth):List AV:=[.i m.kind,.i m.gen]++Fcells m.fact++[.i m.node]
abbrev ndA(x:Nd):List AV:=[.i x.op,.i x.n,AV.ints x.kids]
abbrev progC(p:Prog):List AV:=[.sl 3 (p.classes.map clsA),.i p.slots,AV.ints p.gens,.sl 9 (p.methods.map mthA),.sl 3 (p.nodes.map ndA),.i p.main]
abbrev AV.prog(p:Prog):AV:=.agg (progC p)
abbrev AV.cls(c:Cls):AV:=.agg (clsA c)
abbrev AV.nd(x:Nd):AV:=.agg (ndA x)
def graphP(p:Prog):List (List Int):=p.classes.map (·.parents)
def fineL(i:Nat)(seen:List Int):List Int->Bool
 | []=>true
 | x::r=>!(decide (x<3) || decide (x>=3+i) || seen.contains x) && fineL i (seen++[x]) r
def fineG(i:Nat):List (List Int)->Bool
 | []=>true
 | l::r=>decide (l.length<=3) && fineL i [] l && fineG (i+1) r
def fineP(g:List (List Int)):Bool:=decide (g.length<=16) && fineG 0 g
def headOk(all:List (List Int))(h:Int):Bool:=!(all.any λm=>m.tail.contains h)
def nextH(all:List (List Int)):List (List Int)->Option Int
 | []=>none
 | []::r=>nextH all r
 | (h::_)::r=>if headOk all h then some h else nextH all r
def dropH(h:Int)(all:List (List Int)):List (List Int):=all.map λl=>l.filter (· !=h)
def mergeN:Nat->List (List Int)->List Int->List Int×Bool
 | 0,_,out=>(out,false)
 | n+1,all,out=>match nextH all all with
  | some h=>mergeN n (dropH h all) (out++[h])
  | none=>(out,all.all List.isEmpty)
def total(all:List (List Int)):Nat:=(all.map List.length).sum
def mergeP(all:List (List Int)):List Int×Bool:=mergeN (total all+1) all []
def bareL(l:List Int):List Int:=l.filter (· !=0)
def listsP(orders:List (List Int))(ps:List Int):Option (List (List Int)):=
 if ps.any (λp=>(orders.getD p.toNat []).isEmpty) then none else some (ps.map (λp=>bareL (orders.getD p.toNat []))++[ps])
def orderP(orders:List (List Int))(c:Nat)(ps:List Int):List Int:=
 if c=0 then [0] else match listsP orders ps with
  | none=>[]
  | some all=>let m:=mergeP all;if m.2 then (c:Int)::(m.1++[0]) else []
def parsOf(g:List (List Int)):List (List Int):=[[],[],[]]++g
def ordersN:List (List Int)->Nat->List (List Int)->List (List Int)
 | [],_,out=>out
 | ps::r,c,out=>ordersN r (c+1) (out++[orderP out c ps])
def ordersP(g:List (List Int)):List (List Int):=ordersN (parsOf g) 0 []
def linP(g:List (List Int))(c:Int):List Int:=(ordersP g).getD c.toNat []
def ownersN:List Cls->Nat->List Int
 | [],_=>[]
 | c::r,i=>List.replicate c.slots.length ((i:Int)+3)++ownersN r (i+1)
def worldOf(p:Prog):Fc.FW:=⟨graphP p,ownersN p.classes 0⟩
def ownT(cs:List Cls)(i k:Nat):List Int:=ownersN (cs.take i) 0++List.replicate k ((i:Int)+3)
theorem ownersN_snoc(x:Cls):∀(cs:List Cls) (i:Nat),ownersN (cs++[x]) i=ownersN cs i++List.replicate x.slots.length (((i+cs.length:Nat):Int)+3)
 | [],i=>by simp[ownersN]
 | c::r,i=>by
  rw[List.cons_append,ownersN,ownersN,ownersN_snoc x r (i+1),List.append_assoc,List.length_cons];congr 3;omega
theorem ownersN_len:∀(cs:List Cls) (i:Nat),(∀c∈cs,c.slots.length<=1000)->(ownersN cs i).length<=1000*cs.length
 | [],i,h=>by simp[ownersN]
 | c::r,i,h=>by
  have h1:=ownersN_len r (i+1) λx hx=>h x (.tail _ hx);have h2:=h c (.head _);rw[ownersN,List.length_append,List.length_replicate,List.length_cons];omega
theorem ownT_len{cs:List Cls}(k:Nat)(h:∀c∈cs,c.slots.length<=1000):(ownT cs i k).length<=1000*cs.length+k:=by
 have:=ownersN_len (cs.take i) 0 λc hc=>h c (List.mem_of_mem_take hc);have h2:(cs.take i).length<=cs.length:=by rw[List.length_take];omega
 rw[ownT,List.length_append,List.length_replicate];have:1000*(cs.take i).length<=1000*cs.length:=Nat.mul_le_mul_left _ h2;omega
theorem ownT_snoc(cs:List Cls)(i k:Nat):AV.ints (ownT cs i (k+1))= .sl 1 (((ownT cs i k).map λn=>[AV.i n])++[[AV.i ((i:Int)+3)]]):=by
 rw[ownT,List.replicate_succ', <-List.append_assoc];show AV.sl 1 (List.map _ (_++_))=_;rw[List.map_append];rfl
theorem ownT_all(cs:List Cls):ownT cs cs.length 0=ownersN cs 0:=by simp[ownT]
theorem take_getD[Inhabited α]{l:List α}{k:Nat}(h:k<l.length):l.take k++[l.getD k default]=l.take (k+1):=by
 rw[List.take_succ_eq_append_getElem h,List.getD_eq_getElem?_getD,List.getElem?_eq_getElem h];rfl
theorem split_getD[Inhabited α]{l:List α}{k:Nat}(h:k<l.length):l=l.take k++l.getD k default::l.drop (k+1):=by
 rw[List.getD_eq_getElem?_getD,List.getElem?_eq_getElem h];simp
def idxB(l:List Int)(v:Int):Int:=match l.findIdx? (λx=>x==v) with | some i=>(i:Int) | none=>-1
theorem idxB_at(hk:k<l.length)(hp:∀x∈l.take k,x≠v)(h:v=l.getD k default):(k:Int)=idxB l v:=by
 have e:l.findIdx? (λx=>x==v)=some k:=by
  rw[List.findIdx?_eq_some_iff_getElem];refine⟨hk,?_,λj hj=>?_⟩
  ·rw[h,List.getD_eq_getElem?_getD,List.getElem?_eq_getElem hk];simp
  ·have:=hp (l[j]'Yd) YaX;simpa using this
 rw[idxB,e]
theorem idxB_none(hp:∀x∈l,x≠v):(-1:Int)=idxB l v:=by
 have e:l.findIdx? (λx=>x==v)=none:=by
  rw[List.findIdx?_eq_none_iff];intro x hx;simpa using hp x hx
 rw[idxB,e]
theorem idxB_contains(l:List Int)(v:Int):decide (idxB l v>=0)=l.contains v:=by
 unfold idxB;cases h:l.findIdx? (λx=>x==v) with
 | none=>
  rw[List.findIdx?_eq_none_iff] at h;symm;simp;intro hx;have:=h v hx;simp at this
 | some i=>
  rw[List.findIdx?_eq_some_iff_getElem] at h;obtain⟨hi,h1,_⟩:=h;symm;simp;have:l[i]=v:=by simpa using h1
  rw[<-this];exact List.getElem_mem hi
theorem ne_step(hk:k<l.length)(hp:∀x∈l.take k,x≠v)(h:v≠l.getD k default):∀x∈l.take (k+1),x≠v:=by
 rw[<-take_getD hk];intro x hx;rcases List.mem_append.1 hx with hx | hx
 ·exact hp x hx
 ·simp at hx;rw[hx];intro e;apply h;simp[e]
theorem fineL_take(i:Nat):∀(l seen:List Int) (k:Nat),k<l.length->fineL i seen (l.take (k+1))=(fineL i seen (l.take k) && !(decide (l.getD k default<3) || decide (l.getD k default>=3+i) || (seen++l.take k).contains (l.getD k default)))
 | [],seen,k,h=>by simp at h
 | x::r,seen,0,h=>by simp[fineL]
 | x::r,seen,k+1,h=>by
  have:=fineL_take i r (seen++[x]) k Yac;simp only[List.take_succ_cons,fineL,List.getD_cons_succ];rw[this,List.append_assoc,List.singleton_append,Bool.and_assoc]
theorem fineL_all(i:Nat):∀(l seen:List Int) (k:Nat),fineL i seen l=true->fineL i seen (l.take k)=true
 | [],seen,k,h=>by simpa using h
 | x::r,seen,0,h=>rfl
 | x::r,seen,k+1,h=>by
  simp only[List.take_succ_cons,fineL,Bool.and_eq_true] at h ⊢;exact⟨h.1,fineL_all i r _ k h.2⟩
theorem fineG_take:∀(g:List (List Int)) (i k:Nat),k<g.length->fineG i (g.take (k+1))=(fineG i (g.take k) && (decide ((g.getD k default).length<=3) && fineL (i+k) [] (g.getD k default)))
 | [],i,k,h=>by simp at h
 | l::r,i,0,h=>by simp[fineG]
 | l::r,i,k+1,h=>by
  have:=fineG_take r (i+1) k Yac;simp only[List.take_succ_cons,fineG,List.getD_cons_succ];rw[this,show i+1+k=i+(k+1) by omega];simp only[Bool.and_assoc]
theorem fineG_all:∀(g:List (List Int)) (i k:Nat),fineG i g=true->fineG i (g.take k)=true
 | [],i,k,h=>by simpa using h
 | l::r,i,0,h=>rfl
 | l::r,i,k+1,h=>by
  simp only[List.take_succ_cons,fineG,Bool.and_eq_true] at h ⊢;exact⟨h.1,fineG_all r _ k h.2⟩
theorem no_take{f:List α->Bool}{l:List α}(k:Nat)(hall:∀k,f l=true->f (l.take k)=true)(h:f (l.take k)=false):f l=false:=by
 cases hf:f l with
 | false=>rfl
 | true=>rw[hall k hf] at h;cases h
theorem one_ints(l:List Int):(l.map λn=>[AV.i n]).all allOne=true:=by
 rw[List.all_eq_true];intro x hx;obtain⟨a,_,rfl⟩:=List.mem_map.1 hx;rfl
theorem one_intss(l:List (List Int)):(l.map λx=>[AV.ints x]).all allOne=true:=by
 rw[List.all_eq_true];intro x hx;obtain⟨a,_,rfl⟩:=List.mem_map.1 hx;rfl
def argB(f:Fact):Int:=if f.op=2\/f.op=3\/f.op=4 then f.arg+1 else 0
mutual
def smallA:Fact->Bool
 | .mk op arg path cls n kids=>decide (-1000000<=argB (.mk op arg path cls n kids)) && decide (argB (.mk op arg path cls n kids)<=1000000) && smallAs kids
def smallAs:List Fact->Bool
 | []=>true
 | k::r=>smallA k && smallAs r
end
theorem intss_snoc{cs:List Cls}(h:i<cs.length):AV.intss ((cs.take (i+1)).map (·.parents))= .sl 1 ((((cs.take i).map (·.parents)).map λx=>[AV.ints x])++[[AV.ints (cs.getD i default).parents]]):=by
 rw[<-take_getD h,List.map_append];show AV.sl 1 (List.map _ (_++_))=_;rw[List.map_append];rfl
theorem ownT_next{cs:List Cls}(h:i<cs.length):ownT cs (i+1) 0=ownT cs i (cs.getD i default).slots.length:=by
 rw[ownT, <-take_getD h,ownersN_snoc,ownT,List.length_take,Nat.min_eq_left Yd,Nat.zero_add];simp
theorem filter_yes(h:i<l.length)(hp:p (l.getD i default)=true):AV.ints ((l.take (i+1)).filter p)= .sl 1 ((((l.take i).filter p).map λn=>[AV.i n])++[[AV.i (l.getD i default)]]):=by
 rw[<-take_getD h,List.filter_append];show AV.sl 1 (List.map _ (_++List.filter p [_]))=_;rw[List.map_append,List.filter_cons,if_pos hp];rfl
theorem filter_no(h:i<l.length)(hp:p (l.getD i default)=false):AV.ints ((l.take (i+1)).filter p)=AV.ints ((l.take i).filter p):=by
 rw[<-take_getD h,List.filter_append,List.filter_cons,if_neg (by rw[hp];simp),List.filter_nil,List.append_nil]
theorem getD_memB[Inhabited α]{l:List α}{k:Nat}(h:k<l.length):l.getD k default∈l:=by
 rw[List.getD_eq_getElem?_getD,List.getElem?_eq_getElem h];simp
theorem drop_getD[Inhabited α]{l:List α}{i:Nat}(h:i<l.length):l.drop i=l.getD i default::l.drop (i+1):=by
 rw[List.drop_eq_getElem_cons h,List.getD_eq_getElem?_getD,List.getElem?_eq_getElem h];rfl
theorem all_takeB[Inhabited α]{l:List α}{i:Nat}{p:α->Bool}(h:i<l.length):(l.take (i+1)).all p=((l.take i).all p && p (l.getD i default)):=by
 rw[<-take_getD h,List.all_append];simp
theorem any_takeB[Inhabited α]{l:List α}{i:Nat}{p:α->Bool}(h:i<l.length):(l.take (i+1)).any p=((l.take i).any p || p (l.getD i default)):=by
 rw[<-take_getD h,List.any_append];simp
theorem next_nil(h:L= []):nextH A (L::r)=nextH A r:=by subst h;rfl
theorem next_no(h0:0<L.length)(h:headOk A (L.getD 0 default)=false):nextH A (L::r)=nextH A r:=by
 cases L with
 | nil=>simp at h0
 | cons x t=>rw[nextH,if_neg (by rw[show x=(x::t).getD 0 default from rfl,h];simp)]
theorem next_yes(h0:0<L.length)(h:headOk A (L.getD 0 default)=true):nextH A (L::r)=some (L.getD 0 default):=by
 cases L with
 | nil=>simp at h0
 | cons x t=>rw[nextH,if_pos (by rw[show x=(x::t).getD 0 default from rfl,h])];rfl
theorem total_cons(l:List Int)(r:List (List Int)):total (l::r)=l.length+total r:=by simp[total]
theorem total_dropH(h:Int):∀A:List (List Int),total (dropH h A)<=total A
 | []=>by simp[dropH,total]
 | l::r=>by
  have h1:=total_dropH h r;have h2:=List.length_filter_le (· !=h) l;show total (l.filter (· !=h)::dropH h r)<=_;rw[total_cons,total_cons];omega
theorem total_lt(h:Int):∀(A:List (List Int)) (i:Nat),i<A.length->h∈A.getD i default->total (dropH h A)<total A
 | [],i,hi,_=>by simp at hi
 | l::r,0,_,hm=>by
  have h1:=total_dropH h r;have h2:(l.filter (· !=h)).length<l.length:=by
   rcases Nat.lt_or_ge (l.filter (· !=h)).length l.length with h3 | h3
   ·exact h3
   ·have e:l.filter (· !=h)=l:=List.Sublist.eq_of_length_le (List.filter_sublist) h3;rw[List.filter_eq_self] at e;have:=e h (by simpa using hm);simp at this
  show total (l.filter (· !=h)::dropH h r)<_;rw[total_cons,total_cons];omega
 | l::r,i+1,hi,hm=>by
  have h1:=total_lt h r i (by simpa using hi) (by simpa using hm);have h2:=List.length_filter_le (· !=h) l;show total (l.filter (· !=h)::dropH h r)<_;rw[total_cons,total_cons];omega
theorem len_total:∀(A:List (List Int)) (i:Nat),i<A.length->(A.getD i default).length<=total A
 | [],i,hi=>by simp at hi
 | l::r,0,_=>by rw[total_cons];simp
 | l::r,i+1,hi=>by
  have h1:=len_total r i (by simpa using hi);rw[total_cons,List.getD_cons_succ];omega
theorem dropH_len(h:Int)(A:List (List Int)):(dropH h A).length=A.length:=by simp[dropH]
theorem dropH_snoc(h:Int)(hk:k<A.length):AV.intss (dropH h (A.take (k+1)))= .sl 1 (((dropH h (A.take k)).map λx=>[AV.ints x])++[[AV.ints ((A.getD k default).filter (· !=h))]]):=by
 rw[<-take_getD hk,dropH,List.map_append];show AV.sl 1 (List.map _ (_++_))=_;rw[List.map_append];rfl
theorem ints_snoc(l:List Int)(x:Int):AV.ints (l++[x])= .sl 1 ((l.map λn=>[AV.i n])++[[AV.i x]]):=by
 show AV.sl 1 (List.map _ (_++_))=_;rw[List.map_append];rfl
theorem merge_some{n:Nat}(hn:nextH A A=some h):mergeN (n+1) A out=mergeN n (dropH h A) (out++[h]):=by rw[mergeN,hn]
theorem merge_none{n:Nat}(hn:nextH A A=none):mergeN (n+1) A out=(out,A.all List.isEmpty):=by rw[mergeN,hn]
theorem headOk_any:headOk A h= !(A.any λm=>m.tail.contains h):=rfl
theorem len_empty(h:0<L.length):L.isEmpty=false:=by cases L with | nil=>simp at h | cons=>rfl
theorem any_getD[Inhabited α]{l:List α}{j:Nat}{p:α->Bool}(h:j<l.length)(hp:p (l.getD j default)=true):l.any p=true:=List.any_eq_true.2 ⟨_,getD_memB h,hp⟩
theorem head_in(h3:(bif decide ((0:Int)<(M.length:Int)) then (M.drop 1).contains h else false)=true):M.tail.contains h=true:=by
 rw[<-List.drop_one];cases hd:decide ((0:Int)<(M.length:Int)) with
 | true=>rw[hd] at h3;exact h3
 | false=>rw[hd] at h3;cases h3
theorem head_out(h3:(bif decide ((0:Int)<(M.length:Int)) then (M.drop 1).contains h else false)=false):M.tail.contains h=false:=by
 rw[<-List.drop_one];cases hd:decide ((0:Int)<(M.length:Int)) with
 | true=>rw[hd] at h3;exact h3
 | false=>cases M with | nil=>rfl | cons=>simp at hd
theorem fine_no1(h: ¬g.length<=16):fineP g=false:=by simp[fineP,h]
theorem fine_no2(hi:i<g.length)(h:(decide ((g.getD i default).length<=3) && fineL i [] (g.getD i default))=false):fineP g=false:=by
 have e:fineG 0 (g.take (i+1))=false:=by rw[fineG_take g 0 i hi,Nat.zero_add,h,Bool.and_false]
 unfold fineP;rw[no_take (i+1) (λk=>fineG_all g 0 k) e,Bool.and_false]
theorem fine_no3(hk:k<l.length)(h:(decide (l.getD k default<3) || decide (l.getD k default>=3+i) || (l.take k).contains (l.getD k default))=true):fineL i [] l=false:=by
 have e:fineL i [] (l.take (k+1))=false:=by rw[fineL_take i l [] k hk,List.nil_append,h];simp
 exact no_take (k+1) (λk=>fineL_all i l [] k) e
def kindOf(op:Int):Option (Option Nat):=
 if op=5 then some none
 else if op=1\/op=2\/op=3\/op=6\/op=18 then some (some 0)
 else if op=4\/op=8\/op=17 then some (some 1)
 else if op=7\/op=9\/op=11\/op=12\/op=13\/op=14\/op=15\/op=16 then some (some 2)
 else if op=10 then some (some 3) else none
def inP(n:Int):Bool:=decide (-1000000000<=n) && decide (n<=1000000000)
def mostP(p:Prog)(op size:Int):Int:=if op=3 then size else if op=4\/op=7 then p.slots else if op=5 then p.gens.length else 1
def numP(p:Prog)(x:Nd)(size:Int):Bool:=
 if x.op=1 then inP x.n else if x.op=6\/x.op=8 then decide (3<=x.n) && decide (x.n<3+p.classes.length) else decide (0<=x.n) && decide (x.n<mostP p x.op size)
mutual
def speaksP:Fact->Int
 | .mk op arg path cls n kids=>speaksL kids (argB (.mk op arg path cls n kids))
def speaksL:List Fact->Int->Int
 | [],n=>n
 | k::r,n=>speaksL r (max n (speaksP k))
end
theorem speaksP_eq(f:Fact):speaksP f=speaksL f.kids (argB f):=by cases f;rfl
theorem speaksL_snoc(x:Fact):∀(l:List Fact) (n:Int),speaksL (l++[x]) n=max (speaksL l n) (speaksP x)
 | [],n=>rfl
 | k::r,n=>by rw[List.cons_append,speaksL,speaksL,speaksL_snoc x r]
theorem smallA_iff{f:Fact}(h:smallA f=true): -1000000<=argB f/\argB f<=1000000/\∀k∈f.kids,smallA k=true:=by
 have mem:∀(l:List Fact),smallAs l=true->∀k∈l,smallA k=true:=by
  intro l
  induction l with
  | nil=>intro _ k hk;cases hk
  | cons x r ih=>
   intro h k hk;rw[smallAs,Bool.and_eq_true] at h;rcases List.mem_cons.1 hk with e | hk
   ·rw[e];exact h.1
   ·exact ih h.2 k hk
 cases f;simp only[smallA,Bool.and_eq_true,decide_eq_true_eq] at h;exact⟨h.1.1,h.1.2,mem _ h.2⟩
end Go.Eng.Bd

set_option linter.unusedSimpArgs false
set_option maxRecDepth 10000
namespace Go.Proofs.YtpgnjlngepfanaaGreat
open Go.Eng
open Go.Eng.Fc
open Go.Eng.Bd
variable{α:Type}{B:Nat}{fs cs:List AV}{F:List Ent->Prop}{Hm:List Ent}{p:Int->Bool}{l:List Int}{deep left:Int}{U:List Nat}
abbrev unfV:Value:=.iface 253 (.agg #[])
abbrev unfA:AV:=.iface 253 (.agg [])
theorem unf_c:unfA.Const unfV where
 is I w u h:=by
  cases h with
  | iface _ _ v h=>cases h with
   | agg _ vs h=>
    have:vs= #[]:=by cases vs with | mk l=>cases h;rfl
    rw[this]
 rel I w:=.iface _ _ _ (.agg _ _ .nil)
def kindA:Option (Option Nat)->AV
 | none=>.val .nilIface
 | some none=>.iface 234 (.agg [])
 | some (some k)=>.iface 233 (.i k)
theorem needT{b:Bool}(hb:b=true)(H:List Ent):RCall Tryz.prog 195 [.b b] H (some (.tup [],H)) H unfA:=by
 refine aC (n:=6) Tryz.func195 λB I w0=>?_;refine Z6 ?_;refine CW.cond rfl (λh0=>?_) (λh0=>?_)
 ·simp[hb] at h0
 ·replace h0:=nm h0;refine Z1 ?_;refine nR [] (H) ?_;exact rfl
theorem needF{b:Bool}(hb:b=false)(H:List Ent):RCall Tryz.prog 195 [.b b] H none H unfA:=by
 refine aC (n:=6) Tryz.func195 λB I w0=>?_;refine Z6 ?_;refine CW.cond rfl (λh0=>?_) (λh0=>?_)
 ·replace h0:=nm h0;refine Z2 ?_;refine oP (POp.makeIface rfl rfl rfl Yf) ?_;refine OL.panicC rfl rfl rfl rfl unf_c ?_;exact outP unf_c (.refl _) ⟨rfl,rfl,rfl⟩
 ·simp[hb] at h0
theorem between(n:Int):PCall Tryz.prog 225 [.i n] (.b (inP n)):=by
 intro H;refine aC (n:=9) Tryz.func225 λB I w0=>?_;refine Z17 ?_;refine r1 2 (H) ?_;exact⟨retB (by unfold inP;by_cases h: -1000000000<=n <;> simp[h]),rfl⟩
theorem sIndex(l:List Int)(v:Int):PCall Tryz.prog 103 [AV.ints l,.i v] (.i (idxB l v)):=by
 intro H;refine aC (n:=19) Tryz.func103 λB I w0=>?_;refine CW.boundM (t:=0) rfl (λhb0=>?_);refine Z14 ?_;refine lj (λm st=>∃k:Nat,st=⟨[(8,.i k),(7,.i l.length),(0,AV.ints l),(1,.i v)],H⟩/\m=l.length - k/\k<=l.length/\∀x∈l.take k,x≠v) (⟨0,rfl,rfl,Yx,Yx⟩) ?_;rintro m _ ⟨k,rfl,rfl,hk,hp⟩;refine Z6 ?_;refine cd (λh0=>?_) λh0=>?_
 ·refine Z20 ?_;refine cd (λh1=>?_) λh1=>?_
  ·refine Z12 ?_;refine r1 4 (H) ?_;exact⟨retI (idxB_at Yd hp h1),rfl⟩
  ·refine Z7 ?_;exact ag (⟨k+1,rfl,rfl,Yd,ne_step Yd hp h1⟩)
 ·refine Z11 ?_;refine r1 4 (H) ?_;exact⟨retI (idxB_none Yah),rfl⟩
theorem sContains(l:List Int)(v:Int):PCall Tryz.prog 38 [AV.ints l,.i v] (.b (l.contains v)):=by
 intro H;refine aC (n:=9) Tryz.func38 λB I w0=>?_;refine Z9 ?_;refine oP (POp.call .k ((sIndex _ _))) ?_;refine Z5 ?_;refine r1 4 (H) ?_;exact⟨retB (idxB_contains _ _),rfl⟩
theorem fine(g:List (List Int)):PCall Tryz.prog 246 [AV.intss g] (.b (fineP g)):=by
 intro H;refine aC (n:=44) Tryz.func246 λB I w0=>?_;refine CW.boundM (t:=0) rfl (λhb0=>?_);refine Z13 ?_;refine cd (λh0=>?_) λh0=>?_
 ·refine Z7 ?_;refine r1 2 (H) ?_;exact⟨retB (fine_no1 Yd).symm,rfl⟩
 ·refine Z11 ?_;refine lj (λm st=>∃i:Nat,st=⟨[(12,.i i),(11,.i g.length),(10,AV.intss g)],H⟩/\m=g.length - i/\i<=g.length/\fineG 0 (g.take i)=true) (⟨0,rfl,rfl,Yd,rfl⟩) ?_;rintro m _ ⟨i,rfl,rfl,hi,hg⟩;refine Z6 ?_;refine cd (λh1=>?_) λh1=>?_
  ·have hil:i<g.length:=by simpa using h1
   obtain⟨L,hL⟩:∃L,L=g.getD i default:=⟨_,rfl⟩;refine Z15 ?_;rw[<-hL];refine CW.boundM (t:=4) rfl (λhb4=>?_);refine Z6 ?_;refine cd (λh2=>?_) λh2=>?_
   ·refine Z12 ?_;refine r1 2 (H) ?_;exact⟨retB (fine_no2 hil (by rw[<-hL];have: ¬L.length<=3:=Yd;simp[this])).symm,rfl⟩
   ·refine Z10 ?_;refine lj (λm st=>∃k:Nat,st=⟨[(22,.i k),(21,.i L.length),(20,AV.ints L),(3,.i i),(4,AV.ints L),(12,.i i),(11,.i g.length),(10,AV.intss g)],H⟩/\m=L.length - k/\k<=L.length/\fineL i [] (L.take k)=true) (⟨0,rfl,rfl,Yd,rfl⟩) ?_;rintro m _ ⟨k,rfl,rfl,hk,hl⟩;refine Z6 ?_;refine cd (λh3=>?_) λh3=>?_
    ·have hkl:k<L.length:=by simpa using h3
     refine Z26 ?_;refine OL.guardC rfl rfl rfl rfl rfl rfl (λhg=>POp.slTo rfl rfl Y2 rfl Y2 Yd) ?_;refine Z1 ?_;refine OL.guardC rfl rfl rfl rfl rfl rfl (λhg=>POp.call (.mk' rfl rfl rfl rfl Yc) ((sContains _ _))) ?_;refine Z3 ?_;refine cd (λh4=>?_) λh4=>?_
     ·refine Z15 ?_;refine r1 2 (H) ?_;exact⟨retB (fine_no2 hil (by rw[<-hL,fine_no3 hkl YA,Bool.and_false])).symm,rfl⟩
     ·refine Z7 ?_;exact ag (⟨k+1,rfl,rfl,hkl,by rw[fineL_take i L [] k hkl,hl];simp_all⟩)
    ·have e3:k=L.length:=by omega
     rw[e3,List.take_length] at hl;refine Z10 ?_;exact ag (⟨i+1,rfl,rfl,hil,by rw[fineG_take g 0 i hil,hg, <-hL,Nat.zero_add,hl];simp;omega⟩)
  ·have e1:i=g.length:=by omega
   rw[e1,List.take_length] at hg;refine Z11 ?_;refine r1 2 (H) ?_;exact⟨retB (by unfold fineP;rw[hg];simp;omega),rfl⟩
theorem lineCheck(g:List (List Int)):PCall Tryz.prog 223 [AV.intss g] (.i (if fineP g then 0 else 2)):=by
 intro H;refine aC (n:=6) Tryz.func223 λB I w0=>?_;refine Z9 ?_;refine oP (POp.call .k ((fine _))) ?_;refine Z3 ?_;refine cd (λh0=>?_) λh0=>?_
 ·refine Z7 ?_;refine r1 2 (H) ?_;exact⟨retI YA,rfl⟩
 ·refine Z8 ?_;refine r1 2 (H) ?_;exact⟨retI YA,rfl⟩
theorem kidsOf(op:Int):PCall Tryz.prog 200 [.i op] (kindA (kindOf op)):=by
 intro H;refine aC (n:=33) Tryz.func200 λB I w0=>?_;refine Z18 ?_;refine cd (λh0=>?_) λh0=>?_
 ·refine Z3 ?_;refine oP (POp.makeIface rfl rfl rfl Yf) ?_;refine Z6 ?_;refine r1 2 (H) ?_;exact⟨retX YaP,rfl⟩
 ·refine CW.cutJ (λst=>∃u:Bool,st=⟨[(8,.b u),(3,.i op)],H⟩/\u=decide (op=1\/op=2\/op=3\/op=6\/op=18)) ?_ ?_
  ·refine Z6 ?_;refine cd (λh1=>?_) λh1=>?_
   ·refine Z1 ?_;exact cj ⟨op==1,rfl,by by_cases hz:op=1 <;> simp_all⟩
   ·refine Z6 ?_;refine cd (λh2=>?_) λh2=>?_
    ·refine Z1 ?_;exact cj ⟨op==2,rfl,by by_cases hz:op=2 <;> simp_all⟩
    ·refine Z6 ?_;refine cd (λh3=>?_) λh3=>?_
     ·refine Z1 ?_;exact cj ⟨op==3,rfl,by by_cases hz:op=3 <;> simp_all⟩
     ·refine Z6 ?_;refine cd (λh4=>?_) λh4=>?_
      ·refine Z1 ?_;exact cj ⟨op==6,rfl,by by_cases hz:op=6 <;> simp_all⟩
      ·refine Z4 ?_;exact cj ⟨op==18,rfl,by by_cases hz:op=18 <;> simp_all⟩
  ·rintro _ ⟨u,rfl,hu4⟩;refine cd (λh5=>?_) λh5=>?_
   ·refine Z2 ?_;refine oP (POp.makeIface rfl rfl rfl Yf) ?_;refine Z6 ?_;refine r1 2 (H) ?_;exact⟨retX YaP,rfl⟩
   ·refine CW.cutJ (λst=>∃u:Bool,st=⟨[(15,.b u),(3,.i op)],H⟩/\u=decide (op=4\/op=8\/op=17)) ?_ ?_
    ·refine Z6 ?_;refine cd (λh6=>?_) λh6=>?_
     ·refine Z1 ?_;exact cj ⟨op==4,rfl,by by_cases hz:op=4 <;> simp_all⟩
     ·refine Z6 ?_;refine cd (λh7=>?_) λh7=>?_
      ·refine Z1 ?_;exact cj ⟨op==8,rfl,by by_cases hz:op=8 <;> simp_all⟩
      ·refine Z4 ?_;exact cj ⟨op==17,rfl,by by_cases hz:op=17 <;> simp_all⟩
    ·rintro _ ⟨u,rfl,hu10⟩;refine cd (λh8=>?_) λh8=>?_
     ·refine Z2 ?_;refine oP (POp.makeIface rfl rfl rfl Yf) ?_;refine Z6 ?_;refine r1 2 (H) ?_;exact⟨retX YaP,rfl⟩
     ·refine CW.cutJ (λst=>∃u:Bool,st=⟨[(20,.b u),(3,.i op)],H⟩/\u=decide (op=7\/op=9\/op=11\/op=12\/op=13\/op=14\/op=15\/op=16)) ?_ ?_
      ·refine Z6 ?_;refine cd (λh9=>?_) λh9=>?_
       ·refine Z1 ?_;exact cj ⟨op==7,rfl,by by_cases hz:op=7 <;> simp_all⟩
       ·refine Z6 ?_;refine cd (λh10=>?_) λh10=>?_
        ·refine Z1 ?_;exact cj ⟨op==9,rfl,by by_cases hz:op=9 <;> simp_all⟩
        ·refine Z6 ?_;refine cd (λh11=>?_) λh11=>?_
         ·refine Z1 ?_;exact cj ⟨op==11,rfl,by by_cases hz:op=11 <;> simp_all⟩
         ·refine Z6 ?_;refine cd (λh12=>?_) λh12=>?_
          ·refine Z1 ?_;exact cj ⟨op==12,rfl,by by_cases hz:op=12 <;> simp_all⟩
          ·refine Z6 ?_;refine cd (λh13=>?_) λh13=>?_
           ·refine Z1 ?_;exact cj ⟨op==13,rfl,by by_cases hz:op=13 <;> simp_all⟩
           ·refine Z6 ?_;refine cd (λh14=>?_) λh14=>?_
            ·refine Z1 ?_;exact cj ⟨op==14,rfl,by by_cases hz:op=14 <;> simp_all⟩
            ·refine Z6 ?_;refine cd (λh15=>?_) λh15=>?_
             ·refine Z1 ?_;exact cj ⟨op==15,rfl,by by_cases hz:op=15 <;> simp_all⟩
             ·refine Z4 ?_;exact cj ⟨op==16,rfl,by by_cases hz:op=16 <;> simp_all⟩
      ·rintro _ ⟨u,rfl,hu14⟩;refine cd (λh16=>?_) λh16=>?_
       ·refine Z2 ?_;refine oP (POp.makeIface rfl rfl rfl Yf) ?_;refine Z6 ?_;refine r1 2 (H) ?_;exact⟨retX YaP,rfl⟩
       ·refine Z6 ?_;refine cd (λh17=>?_) λh17=>?_
        ·refine Z2 ?_;refine oP (POp.makeIface rfl rfl rfl Yf) ?_;refine Z6 ?_;refine r1 2 (H) ?_;exact⟨retX YaP,rfl⟩
        ·refine Z9 ?_;refine r1 2 (H) ?_;exact⟨retX YaP,rfl⟩
theorem number(p:Prog)(hC:p.classes.length<=100)(x:Nd)(size:Int):PCall Tryz.prog 199 [AV.prog p,AV.nd x,.i size] (.b (numP p x size)):=by
 intro H;refine aC (n:=52) Tryz.func199 λB I w0=>?_;refine Z26 ?_;refine cd (λh0=>?_) λh0=>?_
 ·refine Z4 ?_;refine oP (POp.call .k (between x.n)) ?_;refine Z6 ?_;refine r1 6 (H) ?_;exact⟨retB (by simp[numP,h0]),rfl⟩
 ·refine Z6 ?_;refine cd (λh1=>?_) λh1=>?_
  ·refine Z21 ?_;refine r1 6 (H) ?_;exact⟨retB Yw,rfl⟩
  ·refine Z7 ?_;refine cd (λh2=>?_) λh2=>?_
   ·refine Z2 ?_;refine cd (λh3=>?_) λh3=>?_
    ·refine Z22 ?_;refine r1 6 (H) ?_;exact⟨retB Yw,rfl⟩
    ·refine Z7 ?_;refine cd (λh4=>?_) λh4=>?_
     ·refine Z2 ?_;refine cd (λh5=>?_) λh5=>?_
      ·refine Z20 ?_;refine r1 6 (H) ?_;exact⟨retB Yw,rfl⟩
      ·refine Z6 ?_;refine cd (λh6=>?_) λh6=>?_
       ·refine Z23 ?_;refine r1 6 (H) ?_;exact⟨retB Yw,rfl⟩
       ·refine Z18 ?_;refine r1 6 (H) ?_;exact⟨retB Yw,rfl⟩
     ·refine Z5 ?_;refine cd (λh7=>?_) λh7=>?_
      ·refine Z20 ?_;refine r1 6 (H) ?_;exact⟨retB Yw,rfl⟩
      ·refine Z6 ?_;refine cd (λh8=>?_) λh8=>?_
       ·refine Z23 ?_;refine r1 6 (H) ?_;exact⟨retB Yw,rfl⟩
       ·refine Z18 ?_;refine r1 6 (H) ?_;exact⟨retB Yw,rfl⟩
   ·refine Z5 ?_;refine cd (λh9=>?_) λh9=>?_
    ·refine Z22 ?_;refine r1 6 (H) ?_;exact⟨retB Yw,rfl⟩
    ·refine Z7 ?_;refine cd (λh10=>?_) λh10=>?_
     ·refine Z2 ?_;refine cd (λh11=>?_) λh11=>?_
      ·refine Z20 ?_;refine r1 6 (H) ?_;exact⟨retB Yw,rfl⟩
      ·refine Z6 ?_;refine cd (λh12=>?_) λh12=>?_
       ·refine Z23 ?_;refine r1 6 (H) ?_;exact⟨retB Yw,rfl⟩
       ·refine Z18 ?_;refine r1 6 (H) ?_;exact⟨retB Yw,rfl⟩
     ·refine Z5 ?_;refine cd (λh13=>?_) λh13=>?_
      ·refine Z20 ?_;refine r1 6 (H) ?_;exact⟨retB Yw,rfl⟩
      ·refine Z6 ?_;refine cd (λh14=>?_) λh14=>?_
       ·refine Z23 ?_;refine r1 6 (H) ?_;exact⟨retB Yw,rfl⟩
       ·refine Z18 ?_;refine r1 6 (H) ?_;exact⟨retB Yw,rfl⟩
theorem soMany(n:Int)(p:Prog)(x:Nd):PCall Tryz.prog 324 [.i n,AV.prog p,AV.nd x] (.i n):=by
 intro H;refine aC (n:=8) Tryz.func324 λB I w0=>?_;refine Z14 ?_;refine r1 6 (H) ?_;exact⟨Yg,rfl⟩
theorem argMany(p:Prog)(x:Nd)(h0:0<=x.n)(h1:x.n<p.gens.length):PCall Tryz.prog 325 [.agg [],AV.prog p,AV.nd x] (.i (p.gens.getD x.n.toNat default)):=by
 intro H;refine aC (n:=13) Tryz.func325 λB I w0=>?_;refine Z20 ?_;refine r1 6 (H) ?_;exact⟨Yg,rfl⟩
theorem cloneI(l:List Int)(hl:l.length<=4000000):PCall Tryz.prog 245 [AV.ints l] (AV.ints l):=by
 intro H;refine aC (n:=8) Tryz.func245 λB I w0=>?_;refine Z9 ?_;refine OL.isNilC rfl rfl rfl rfl rfl rfl rfl (AVle.refl _) rfl rfl (λn4 hn4=>?_);refine Z2 ?_;refine cd (λh0=>?_) λh0=>?_
 ·refine Z7 ?_;refine Done.retR (rs:=[.tmp 2]) (H':=H) rfl (.tmp rfl (.nil)) (.cons (AVle.nil 1) .nil) Yb ?_;exact⟨by show AV.sl 1 []=AV.sl 1 _;rw[hn4 h0],rfl⟩
 ·refine Z6 ?_;refine oP (POp.appendI rfl rfl rfl (AVle.refl _) rfl rfl (AVle.refl _) (one_ints l) YI YI) ?_;refine Z4 ?_;refine r1 2 (H) ?_;exact⟨Yg,rfl⟩
theorem clipS(els:List (List AV)):PCall Tryz.prog 269 [.sl 1 els] (.sl 1 els):=by
 intro H;refine aC (n:=9) Tryz.func269 λB I w0=>?_;refine Z12 ?_;refine oP (POp.slClip rfl rfl rfl rfl rfl rfl rfl) ?_;refine Z4 ?_;refine r1 2 (H) ?_;exact⟨Yg,rfl⟩
theorem clipI(els:List (List AV)):PCall Tryz.prog 212 [.sl 1 els] (.sl 1 els):=by
 intro H;refine aC (n:=9) Tryz.func212 λB I w0=>?_;refine Z12 ?_;refine oP (POp.slClip rfl rfl rfl rfl rfl rfl rfl) ?_;refine Z4 ?_;refine r1 2 (H) ?_;exact⟨Yg,rfl⟩
theorem graph1(c:Cls)(hc:c.parents.length<=4000000):PCall Tryz.prog 244 [AV.cls c] (AV.ints c.parents):=by
 intro H;refine aC (n:=6) Tryz.func244 λB I w0=>?_;refine Z10 ?_;refine oP (POp.call .k ((cloneI _ Yd))) ?_;refine Z4 ?_;refine r1 2 (H) ?_;exact⟨Yg,rfl⟩
theorem eachP(cs:List Cls)(hs:cs.length<=4000000)(hc:∀c∈cs,c.parents.length<=4000000):PCall Tryz.prog 243 [.sl 3 (cs.map clsA),.fn (.func 244) [] []] (AV.intss (cs.map (·.parents))):=by
 intro H;refine aC (n:=23) Tryz.func243 λB I w0=>?_;refine Z12 ?_;refine CW.ownNil 5 23 1 rfl ?_;refine Z7 ?_;refine lj (λm st=>∃(i:Nat) (v:Value),st=⟨[(10,.i i),(9,.i cs.length),(8,.sl 3 (cs.map clsA)),(1,.fn (.func 244) [] []),(5,.as (AV.intss ((cs.take i).map (·.parents))) v)],.own 23 1 v::H⟩/\m=cs.length - i/\i<=cs.length) (⟨0,_,rfl,rfl,Yd⟩) ?_;rintro m _ ⟨i,v,rfl,rfl,hi⟩;refine Z6 ?_;refine cd (λh0=>?_) λh0=>?_
 ·have hil:i<cs.length:=by omega
  have hcc:=hc _ (getD_memB hil);refine Z8 ?_;refine OL.alC rfl rfl rfl rfl (λb0=>?_);refine Z7 ?_;refine oP (POp.call .k (graph1 (cs.getD i default) hcc)) ?_;refine OL.popC (x:=.sl 1 [[AV.ints (cs.getD i default).parents]]) rfl rfl rfl (POp.row rfl rfl Yh rfl rfl rfl rfl rfl rfl) ?_;refine OL.appendC rfl rfl rfl rfl rfl rfl rfl rfl (AVle.refl _) (rfl) (λv=>by repeat (first | exact Upd.head _ _ _ | apply Upd.tail)) Yr Yr (λv19=>?_);refine Z8 ?_;exact ag (⟨i+1,v19,by rw[intss_snoc hil],rfl,hil⟩)
 ·obtain rfl:i=cs.length:=by omega
  rw[List.take_length];refine Z8 ?_;refine oP (POp.callLe .k (.cons (AVle.asL _ _) .nil) (clipS _)) ?_;refine Z4 ?_;refine r1 4 (H) ?_;exact⟨Yg,rfl⟩
theorem graph(p:Prog)(hs:p.classes.length<=4000000)(hc:∀c∈p.classes,c.parents.length<=4000000):PCall Tryz.prog 222 [AV.prog p] (AV.intss (graphP p)):=by
 intro H;refine aC (n:=6) Tryz.func222 λB I w0=>?_;refine Z10 ?_;refine oP (POp.call .k (eachP p.classes hs hc)) ?_;refine Z4 ?_;refine r1 2 (H) ?_;exact⟨Yg,rfl⟩
theorem speaks_step(f:Fact)(hf:smallA f=true)(ih:∀k∈f.kids,PCall Tryz.prog 203 [AV.fact k] (.i (speaksP k))):PCall Tryz.prog 203 [AV.fact f] (.i (speaksP f)):=by
 intro H;refine aC (n:=35) Tryz.func203 λB I w0=>?_;rw[speaksP_eq];obtain⟨ha1,ha2,hk⟩:=smallA_iff hf;refine Z11 ?_;refine CW.cutJ (λst=>st=⟨[(3,.i (argB f)),(1,.ptr (Fcells f))],H⟩) ?_ ?_
 ·refine Z17 ?_;refine CW.cond rfl (λh0=>?_) (λh0=>?_)
  ·have ha:argB f=f.arg+1:=by unfold argB;rw[if_pos Ybd]
   rw[ha] at ha1 ha2;refine Z6 ?_;refine Done.le 3 (y:=.i (argB f)) rfl (AVle.eqI (by rw[ha])) ?_;exact cj rfl
  ·have ha:argB f=0:=by unfold argB;rw[if_neg Ybd]
   refine Z1 ?_;refine Done.le 3 (y:=.i (argB f)) rfl (AVle.eqI (by rw[ha])) ?_;exact cj rfl
 ·rintro _ rfl;refine Z10 ?_;refine CW.boundM (t:=23) rfl (λhb23=>?_);refine lj (λm st=>∃j:Nat,st=⟨[(25,.i j),(24,.i f.kids.length),(23,AV.facts f.kids),(3,.i (speaksL (f.kids.take j) (argB f)))],H⟩/\m=f.kids.length - j/\j<=f.kids.length) (⟨0,rfl,rfl,Yd⟩) ?_;rintro m _ ⟨j,rfl,rfl,hj⟩;refine Z6 ?_;refine cd (λh1=>?_) λh1=>?_
  ·have hjl:j<f.kids.length:=by omega
   have hkm:=getD_memB hjl;have hsn:=speaksL_snoc (f.kids.getD j default) (f.kids.take j) (argB f);rw[take_getD hjl] at hsn;refine Z8 ?_;refine OL.alC rfl rfl rfl rfl (λb0=>?_);refine Z6 ?_;refine oP (POp.call .k (ih _ hkm)) ?_;refine oP (POp.max2 rfl rfl rfl rfl rfl rfl) ?_;refine Z4 ?_;refine CW.le 3 (y:=.i (speaksL (f.kids.take (j+1)) (argB f))) rfl (AVle.eqI (by rw[hsn,Int.max_def];split <;> split <;> omega)) ?_;refine Z4 ?_;exact ag (⟨j+1,rfl,rfl,Yd⟩)
  ·obtain rfl:j=f.kids.length:=by omega
   rw[List.take_length];refine Z12 ?_;refine r1 2 (H) ?_;exact⟨YaJ,rfl⟩
theorem worldB(p:Prog)(hs:p.classes.length<=1000)(hc:∀c∈p.classes,c.parents.length<=4000000/\c.slots.length<=1000):PCall Tryz.prog 201 [AV.prog p] (.agg (Wcells (worldOf p))):=by
 intro H;refine aC (n:=32) Tryz.func201 λB I w0=>?_;refine Z3 ?_;refine OL.alC rfl rfl rfl rfl (λrb=>?_);refine Z5 ?_;refine oP (POp.call .k (graph p Yd (λc h=>(hc c h).1))) ?_;refine Z1 ?_;refine OL.alC rfl rfl rfl rfl (λwb=>?_);refine Z5 ?_;refine CW.ownNilB (b:=wb) (t:=151) 3 1 1 Yy rfl rfl ?_;refine Z8 ?_;refine lj (λm st=>∃(i:Nat) (v:Value),st=⟨[(12,.i i),(11,.i p.classes.length),(10,.sl 3 (p.classes.map clsA)),(3,.p wb 0),(2,.p rb 0)],.own 3 1 v::.blk wb 151 [AV.intss (graphP p),.as (AV.ints (ownT p.classes i 0)) v]::.blk rb 151 [.val (.slice none 0 0),.val (.slice none 0 0)]::H⟩/\m=p.classes.length - i/\i<=p.classes.length) (⟨0,_,rfl,rfl,Yd⟩) ?_;rintro m _ ⟨i,v,rfl,rfl,hi⟩;refine Z6 ?_;refine cd (λh0=>?_) λh0=>?_
 ·have hil:i<p.classes.length:=by omega
  have hcc:=hc _ (getD_memB hil);obtain⟨L,hL⟩:∃L,L=p.classes.getD i default:=⟨_,rfl⟩;rw[<-hL] at hcc;refine Z9 ?_;refine OL.alC rfl rfl rfl rfl (λb2=>?_);refine Z5 ?_;rw[<-hL];refine Z8 ?_;refine lj (λm st=>∃(k:Nat) (v:Value),st=⟨[(20,.i k),(19,.i L.slots.length),(4,.i i),(12,.i i),(11,.i p.classes.length),(10,.sl 3 (p.classes.map clsA)),(3,.p wb 0),(2,.p rb 0)],.own 3 1 v::.blk wb 151 [AV.intss (graphP p),.as (AV.ints (ownT p.classes i k)) v]::.blk rb 151 [.val (.slice none 0 0),.val (.slice none 0 0)]::H⟩/\m=L.slots.length - k/\k<=L.slots.length) (⟨0,_,rfl,rfl,Yd⟩) ?_;rintro m _ ⟨k,v,rfl,rfl,hk⟩;refine Z6 ?_;refine cd (λh1=>?_) λh1=>?_
  ·have hkl:k<L.slots.length:=by omega
   refine Z9 ?_;refine OL.popC (x:=.sl 1 [[.i ((i:Int)+3)]]) rfl rfl rfl (POp.row rfl rfl Yh rfl rfl rfl rfl rfl rfl) ?_;refine OL.appendC rfl rfl rfl rfl rfl rfl rfl rfl (AVle.refl _) (rfl) (λv=>by repeat (first | exact Upd.head _ _ _ | apply Upd.tail)) YD YD (λv27=>?_);refine Z9 ?_;exact ag (⟨k+1,v27,by rw[ownT_snoc],rfl,hkl⟩)
  ·obtain rfl:k=L.slots.length:=by omega
   refine Z10 ?_;exact ag (⟨i+1,v,by rw[ownT_next hil, <-hL],rfl,hil⟩)
 ·obtain rfl:i=p.classes.length:=by omega
  rw[ownT_all];refine Z12 ?_;refine Done.retR (rs:=[.cell 2 151]) (H':=H) rfl (Yj) (.cons (AVle.agg (.cons (.refl _) (.cons (AVle.asL _ _) .nil))) .nil) Yb ?_;exact⟨Yg,rfl⟩
theorem take_getD[Inhabited α]{l:List α}{k:Nat}(h:k<l.length):l.take k++[l.getD k default]=l.take (k+1):=by
 rw[List.take_succ_eq_append_getElem h,List.getD_eq_getElem?_getD,List.getElem?_eq_getElem h];rfl
theorem split_getD[Inhabited α]{l:List α}{k:Nat}(h:k<l.length):l=l.take k++l.getD k default::l.drop (k+1):=by
 rw[List.getD_eq_getElem?_getD,List.getElem?_eq_getElem h];simp
theorem b150{f:Fn}{J Jx:List Int->List Ent->Prop}(l:List Int)(hg:FindOk B Tryz.prog (.fn f fs cs) AV.i l F J Jx)(H Hx:List Ent)(hF:F Hx)(hJ:J [] H):
  BCall B Tryz.prog 305 [.sl 1 (l.map λn=>[AV.i n]),.fn f fs cs] (H++Hx) (FoundAt J Jx l Hx) (λ_ _=>False):=by
 refine BCall.of (n:=19) Tryz.func305 rfl Yf rfl rfl (λI w0=>?_);refine CW.boundM (t:=0) rfl (λhb0=>?_);refine Z14 ?_;refine lj (λm st=>∃(k:Nat) (H1:List Ent),st=⟨[(8,.i k),(7,.i l.length),(0,.sl 1 (l.map λn=>[AV.i n])),(1,.fn f fs cs)],H1++Hx⟩/\m=l.length - k/\k<=l.length/\J (l.take k) H1) (⟨0,H,rfl,rfl,Yx,hJ⟩) ?_;rintro m _ ⟨k,H1,rfl,rfl,hk,hJ1⟩;refine Z6 ?_;refine cd (λh0=>?_) λh0=>?_
 ·refine Z17 ?_;refine OL.vcallC rfl rfl rfl rfl rfl rfl rfl rfl (AVleL.refl _) (hg (l.take k) (l.getD k default) H1 Hx (by rw[take_getD Yd];exact List.take_prefix _ _) hF hJ1) ?_;rintro _ _ ⟨b,H2,rfl,rfl,hb1,hb2⟩;rw[take_getD Yd] at hb1 hb2;refine Z2 ?_;refine cd (λh1=>?_) λh1=>?_
  ·refine Z12 ?_;refine Done.retR (rs:=[.tmp 4]) rfl (.tmp rfl (.nil)) (AVleL.refl _) Yb ?_;exact⟨H2,rfl,.inr ⟨l.take k,l.getD k default,l.drop (k+1),split_getD Yd,retI (by rw[List.length_take,Nat.min_eq_left Yd]),by rw[take_getD Yd];exact hb2 h1⟩⟩
  ·refine Z7 ?_;exact ag (⟨k+1,H2,rfl,rfl,Yd,hb1 h1⟩)
 ·refine Z11 ?_;refine Done.retR (rs:=[.tmp 4]) rfl (.tmp rfl (.nil)) (AVleL.refl _) Yb ?_;exact⟨H1,rfl,.inl ⟨rfl,Ya7⟩⟩
theorem q150{f:Fn}(hg:PredOn Tryz.prog Hm (.fn f fs cs) AV.i l p):QCallIn Tryz.prog Hm 305 [.sl 1 (l.map λn=>[AV.i n]),.fn f fs cs] (λy=>∃n:Int,y= .i n/\decide (n>=0)=l.any p):=
 find_pure Yf (λB F J Jx h H Hx hF hJ=>b150 l h H Hx hF hJ) hg
theorem pi193{f:Fn}(hg:PredOn Tryz.prog Hm (.fn f fs cs) AV.i l p):PCallIn Tryz.prog Hm 289 [.sl 1 (l.map λn=>[AV.i n]),.fn f fs cs] (.b (l.any p)):=by
 intro H hm;refine aC (n:=9) Tryz.func289 λB I w0=>?_;refine Z9 ?_;refine OL.qcallIn rfl rfl rfl .k (q150 hg) hm (λy hy=>?_);obtain⟨n,rfl,hn⟩:=hy;refine Z5 ?_;refine r1 4 (H) ?_;exact⟨retB hn,rfl⟩
theorem pi194{f:Fn}(hg:PredOn Tryz.prog Hm (.fn f fs cs) AV.i l p)(x:Int)(hx:x∈l):PCallIn Tryz.prog Hm 290 [AV.i x,.ptr [.fn f fs cs]] (.b (!p x)):=by
 intro H hm;refine aC (n:=8) Tryz.func290 λB I w0=>?_;refine Z9 ?_;refine OL.vcallC rfl rfl rfl rfl rfl rfl rfl rfl (AVleL.refl _) (hg x hx B H hm) ?_;rintro _ Hn ⟨rfl,hH⟩;have hH:=hH.symm;subst hH;refine Z5 ?_;refine r1 3 (H) ?_;exact⟨Yg,rfl⟩
theorem pi152{f:Fn}(hg:PredOn Tryz.prog Hm (.fn f fs cs) AV.i l p):PCallIn Tryz.prog Hm 274 [.sl 1 (l.map λn=>[AV.i n]),.fn f fs cs] (.b (l.all p)):=by
 intro H hm;refine aC (n:=9) Tryz.func274 λB I w0=>?_;refine Z10 ?_;refine oP (POp.callIn .k (AVleL.refl _) (pi193 (.of (λx hx=>pi194 hg x hx))) (λe he=>by repeat (first | exact hm e he | apply List.mem_cons_of_mem))) ?_;refine Z5 ?_;refine r1 4 (H) ?_;exact⟨retB (by simp[List.not_any_eq_all_not]),rfl⟩
theorem p152{f:Fn}(hg:PredOk Tryz.prog (.fn f fs cs) AV.i p)(l:List Int):PCall Tryz.prog 274 [.sl 1 (l.map λn=>[AV.i n]),.fn f fs cs] (.b (l.all p)):=(pi152 (hg.on l)).pure
theorem b130{f:Fn}{J Jx:List Fact->List Ent->Prop}(l:List Fact)(hg:FindOk B Tryz.prog (.fn f fs cs) AV.fact l F J Jx)(H Hx:List Ent)(hF:F Hx)(hJ:J [] H):
  BCall B Tryz.prog 306 [.sl 6 (encFs l),.fn f fs cs] (H++Hx) (FoundAt J Jx l Hx) (λ_ _=>False):=by
 refine BCall.of (n:=19) Tryz.func306 rfl Yf rfl rfl (λI w0=>?_);refine CW.boundM (t:=0) rfl (λhb0=>?_);refine Z14 ?_;refine lj (λm st=>∃(k:Nat) (H1:List Ent),st=⟨[(8,.i k),(7,.i l.length),(0,.sl 6 (encFs l)),(1,.fn f fs cs)],H1++Hx⟩/\m=l.length - k/\k<=l.length/\J (l.take k) H1) (⟨0,H,rfl,rfl,Yx,hJ⟩) ?_;rintro m _ ⟨k,H1,rfl,rfl,hk,hJ1⟩;refine Z6 ?_;refine cd (λh0=>?_) λh0=>?_
 ·refine Z17 ?_;refine OL.vcallC rfl rfl rfl rfl rfl rfl rfl rfl (AVleL.refl _) (hg (l.take k) (l.getD k default) H1 Hx (by rw[take_getD Yd];exact List.take_prefix _ _) hF hJ1) ?_;rintro _ _ ⟨b,H2,rfl,rfl,hb1,hb2⟩;rw[take_getD Yd] at hb1 hb2;refine Z2 ?_;refine cd (λh1=>?_) λh1=>?_
  ·refine Z12 ?_;refine Done.retR (rs:=[.tmp 4]) rfl (.tmp rfl (.nil)) (AVleL.refl _) Yb ?_;exact⟨H2,rfl,.inr ⟨l.take k,l.getD k default,l.drop (k+1),split_getD Yd,retI (by rw[List.length_take,Nat.min_eq_left Yd]),by rw[take_getD Yd];exact hb2 h1⟩⟩
  ·refine Z7 ?_;exact ag (⟨k+1,H2,rfl,rfl,Yd,hb1 h1⟩)
 ·refine Z11 ?_;refine Done.retR (rs:=[.tmp 4]) rfl (.tmp rfl (.nil)) (AVleL.refl _) Yb ?_;exact⟨H1,rfl,.inl ⟨rfl,Ya7⟩⟩
theorem p151(s:Nat)(c:Int)(hc:0<=c/\c<64)(hs:s<18446744073709551616):PCall Tryz.prog 273 [AV.set s,.i c] (AV.set (s ||| 2^c.toNat)):=by
 intro H;refine aC (n:=9) Tryz.func273 λB I w0=>?_;refine Z9 ?_;refine oP (POp.shift rfl rfl rfl rfl rfl hc.1 (sh_left _ hc)) ?_;refine oP (POp.bits rfl rfl rfl rfl rfl (bit_or _ _ hs (Nat.pow_lt_pow_right (a:=2) (n:=64) Yd Yd))) ?_;refine Z4 ?_;refine r1 4 (H) ?_;exact⟨Yg,rfl⟩
theorem p109(b:Bool):PCall Tryz.prog 230 [.b b] (.i (if b then 0 else 2)):=by
 intro H;refine aC (n:=5) Tryz.func230 λB I w0=>?_;refine Z12 ?_;refine cd (λh0=>?_) λh0=>?_
 ·refine Z7 ?_;refine r1 2 (H) ?_;exact⟨retI YA,rfl⟩
 ·refine Z8 ?_;refine r1 2 (H) ?_;exact⟨retI YA,rfl⟩
theorem p134(f:Fact):PCall Tryz.prog 294 [AV.fact f] (.b (decide (2<=f.op) && decide (f.op<=4))):=by
 intro H;refine aC (n:=11) Tryz.func294 λB I w0=>?_;refine Z20 ?_;refine r1 2 (H) ?_;exact⟨retB (by by_cases h:2<=f.op <;> simp[h]),rfl⟩
theorem p125(f:Fact):PCall Tryz.prog 240 [AV.fact f] (.b (f.op==2 || f.op==3 || f.op==4)):=by
 intro H;refine aC (n:=16) Tryz.func240 λB I w0=>?_;refine Z25 ?_;refine r1 2 (H) ?_;exact⟨retB (by by_cases h:f.op=2 <;> by_cases h':f.op=3 <;> simp[h,h']),rfl⟩
theorem p210(op:Int):PCall Tryz.prog 293 [.i op] (.i (if op=5 then 1 else if op=6\/op=7 then 2 else 0)):=by
 intro H;refine aC (n:=9) Tryz.func293 λB I w0=>?_;refine Z18 ?_;refine cd (λh0=>?_) λh0=>?_
 ·refine Z8 ?_;refine r1 2 (H) ?_;exact⟨Yg,rfl⟩
 ·refine Z7 ?_;refine cd (λh1=>?_) λh1=>?_
  ·refine Z2 ?_;refine cd (λh2=>?_) λh2=>?_
   ·refine Z8 ?_;refine r1 2 (H) ?_;exact⟨Yg,rfl⟩
   ·refine Z9 ?_;refine r1 2 (H) ?_;exact⟨Yg,rfl⟩
  ·refine Z5 ?_;refine cd (λh3=>?_) λh3=>?_
   ·refine Z8 ?_;refine r1 2 (H) ?_;exact⟨Yg,rfl⟩
   ·refine Z9 ?_;refine r1 2 (H) ?_;exact⟨Yg,rfl⟩
theorem p153(W:FW)(c:Int)(hW:W.parents.length<=60):PCall Tryz.prog 275 [Wptr W,.i c] (.b (ownP W c)):=by
 intro H;refine aC (n:=18) Tryz.func275 λB I w0=>?_;unfold Wptr;refine CW.boundP (t:=0) (i:=0) rfl rfl (λhb=>?_);refine Z24 ?_;refine r1 4 (H) ?_;exact⟨retB (by unfold ownP;by_cases h:3<=c <;> simp[h]),rfl⟩
theorem p106(W:FW)(c:Int)(hW:W.parents.length<=60):PCall Tryz.prog 296 [Wptr W,.i c] (.b (classP W c)):=by
 intro H;refine aC (n:=18) Tryz.func296 λB I w0=>?_;unfold Wptr;refine CW.boundP (t:=0) (i:=0) rfl rfl (λhb=>?_);refine Z24 ?_;refine r1 4 (H) ?_;exact⟨retB (by unfold classP;by_cases h:0<=c <;> simp[h]),rfl⟩
theorem p177(W:FW)(c:Int):PCall Tryz.prog 307 [Wptr W,.i c] (.b (slotP W c)):=by
 intro H;refine aC (n:=17) Tryz.func307 λB I w0=>?_;unfold Wptr;refine Z23 ?_;refine r1 4 (H) ?_;exact⟨retB (by unfold slotP;by_cases h:0<=c <;> simp[h]),rfl⟩
theorem p85(W:FW)(c:Int)(hW:W.parents.length<=60):PCall Tryz.prog 177 [AV.world W,.i c] (.b (ownP W c)):=by
 intro H;refine aC (n:=15) Tryz.func177 λB I w0=>?_;refine CW.boundA (t:=0) (i:=0) rfl rfl (λhb=>?_);refine Z22 ?_;refine r1 4 (H) ?_;exact⟨retB (by unfold ownP;by_cases h:3<=c <;> simp[h]),rfl⟩
theorem p51(W:FW)(c:Int)(hW:W.parents.length<=60):PCall Tryz.prog 266 [AV.world W,.i c] (.b (classP W c)):=by
 intro H;refine aC (n:=15) Tryz.func266 λB I w0=>?_;refine CW.boundA (t:=0) (i:=0) rfl rfl (λhb=>?_);refine Z22 ?_;refine r1 4 (H) ?_;exact⟨retB (by unfold classP;by_cases h:0<=c <;> simp[h]),rfl⟩
theorem found_cases{J Jx:List α->List Ent->Prop}{l:List α}{Hx:List Ent}{y:AV}{H':List Ent}(h:FoundAt J Jx l Hx y H'):∃(n:Int) (H1:List Ent),y= .i n/\H'=H1++Hx/\(decide (n>=0)=false->J l H1)/\(decide (n>=0)=true->∃pre,pre<+:l/\Jx pre H1):=by
 obtain⟨H1,rfl,h⟩:=h;rcases h with⟨rfl,h⟩ | ⟨pre,x,rest,rfl,rfl,h⟩
 ·exact⟨-1,H1,rfl,rfl,λ_=>h,λh=>by simp at h⟩
 ·exact⟨pre.length,H1,rfl,rfl,λh=>by simp at h,λ_=>⟨pre++[x],⟨rest,Yx⟩,h⟩⟩
theorem b76{f:Fn}{J Jx:List Fact->List Ent->Prop}(l:List Fact)(hg:FindOk B Tryz.prog (.fn f fs cs) AV.fact l F J Jx)(H Hx:List Ent)(hF:F Hx)(hJ:J [] H):
  BCall B Tryz.prog 291 [.sl 6 (encFs l),.fn f fs cs] (H++Hx) (λy H'=>∃b H1,y= .b b/\H'=H1++Hx/\(b=false->J l H1)/\(b=true->∃pre,pre<+:l/\Jx pre H1)) (λ_ _=>False):=by
 refine BCall.of (n:=9) Tryz.func291 rfl Yf rfl rfl (λI w0=>?_);refine Z9 ?_;refine bC .k (b130 l hg H Hx hF hJ) ?_;intro y H' hy;obtain⟨n,H1,rfl,rfl,hn⟩:=found_cases hy;refine Z5 ?_;refine Done.retR (rs:=[.tmp 4]) rfl (.tmp rfl (.nil)) (AVleL.refl _) Yb ?_;exact⟨decide (n>=0),H1,rfl,rfl,hn⟩
theorem b209{f:Fn}{J Jx:List Fact->List Ent->Prop}{L:List Fact}(hg:CbOk B Tryz.prog (.fn f fs cs) AV.fact L (λ_=>True) J Jx)(pre:List Fact)(x:Fact)(H Hx:List Ent)(hpx:pre++[x]<+:L)(hJ:J pre H):
  BCall B Tryz.prog 292 [AV.fact x,.ptr [.fn f fs cs]] (H++Hx) (λy H'=>∃b H1,y= .b b/\H'=H1++Hx/\(b=false->J (pre++[x]) H1)/\(b=true->Jx (pre++[x]) H1)) (λ_ _=>False):=by
 refine BCall.of (n:=8) Tryz.func292 rfl Yf rfl rfl (λI w0=>?_);refine Z10 ?_;refine OL.vcallC rfl rfl rfl rfl rfl rfl rfl rfl (AVleL.refl _) (hg pre x H Hx hpx trivial hJ) ?_;rintro _ _ ⟨b,H1,rfl,rfl,h1,h2⟩;refine Z5 ?_;refine Done.retR (rs:=[.tmp 3]) rfl (.tmp rfl (.nil)) (AVleL.refl _) Yb ?_;exact⟨!b,H1,rfl,rfl,λh=>h1 Yac,λh=>h2 Yac⟩
theorem b180{f:Fn}{J Jx:List Fact->List Ent->Prop}(l:List Fact)(hg:CbOk B Tryz.prog (.fn f fs cs) AV.fact l (λ_=>True) J Jx)(H Hx:List Ent)(hJ:J [] H):
  BCall B Tryz.prog 276 [.sl 6 (encFs l),.fn f fs cs] (H++Hx) (λy H'=>∃b H1,y= .b b/\H'=H1++Hx/\(b=true->J l H1)/\(b=false->∃pre,pre<+:l/\Jx pre H1)) (λ_ _=>False):=by
 refine BCall.of (n:=9) Tryz.func276 rfl Yf rfl rfl (λI w0=>?_);refine Z10 ?_;refine bC .k (b76 (F:=λ_=>True) (J:=J) (Jx:=Jx) l (λpre x H Hx hpx _ hJ=>VCall.fnB (b209 hg pre x H Hx hpx hJ)) H Hx trivial hJ) ?_;rintro _ _ ⟨b,H1,rfl,rfl,h1,h2⟩;refine Z5 ?_;refine Done.retR (rs:=[.tmp 4]) rfl (.tmp rfl (.nil)) (AVleL.refl _) Yb ?_;exact⟨!b,H1,rfl,rfl,λh=>h1 Yac,λh=>h2 Yac⟩
theorem p126(W:FW)(l:List Int):PCall Tryz.prog 295 [Wptr W,AV.ints l] (.b (pathP W l)):=by
 intro H;refine aC (n:=14) Tryz.func295 λB I w0=>?_;refine CW.boundM (t:=1) rfl (λhb=>?_);refine Z14 ?_;refine OL.guardC rfl rfl rfl rfl rfl rfl (λhg=>POp.call (.mk' rfl rfl rfl rfl Yc) (p152 (.of (p177 W)) l)) ?_;refine Z5 ?_;refine r1 4 (H) ?_;exact⟨retB (by unfold pathP;by_cases h:l.length<=2 <;> simp[h] <;> omega),rfl⟩
def NodeC(B:Nat)(W:FW)(deep:Int):Prop:=∀(f:Fact) (left:Int) (b:Nat) (Hx:List Ent),0<=left/\left<=1000->
 BCall B Tryz.prog 278 [Wptr W,AV.fact f,.p b 0,.i deep] (.blk b 3 [.i left]::Hx) (λy H'=>y= .b (nodeP W f left deep).1/\H'= .blk b 3 [.i (nodeP W f left deep).2]::Hx) (λ_ _=>False)
theorem b211{W:FW}(hd:0<deep/\deep<=1000)(ih:NodeC B W (deep - 1))(f:Fact)(left:Int)(b:Nat)(Hx:List Ent)(hl:0<=left/\left<=1000):
  BCall B Tryz.prog 297 [AV.fact f,.ptr [Wptr W],.ptr [.p b 0],.ptr [.i deep]] (.blk b 3 [.i left]::Hx) (λy H'=>y= .b (nodeP W f left (deep - 1)).1/\H'= .blk b 3 [.i (nodeP W f left (deep - 1)).2]::Hx) (λ_ _=>False):=by
 refine BCall.of (n:=12) Tryz.func297 rfl Yf rfl rfl (λI w0=>?_);refine Z13 ?_;refine bC .k (ih f left b Hx hl) ?_;rintro _ _ ⟨rfl,rfl⟩;refine Z4 ?_;refine Done.retR (rs:=[.tmp 5]) rfl (.tmp rfl (.nil)) (AVleL.refl _) Yb ?_;exact⟨rfl,rfl⟩
theorem nodesCb{W:FW}(hd:0<deep/\deep<=1000)(ih:NodeC B W (deep - 1))(left:Int)(hl:0<=left/\left<=1000)(b:Nat)(L:List Fact):
  CbOk B Tryz.prog (.fn (.func 297) [] [.ptr [Wptr W],.ptr [.p b 0],   .ptr [.i deep]]) AV.fact L (λ_=>True) (λpre H=>H= [.blk b 3 [.i (nodesP W pre left (deep - 1)).2]]/\(nodesP W pre left (deep - 1)).1=true) (λpre H=>H= [.blk b 3 [.i (nodesP W pre left (deep - 1)).2]]/\(nodesP W pre left (deep - 1)).1=false):=by
 rintro pre x H Hx _ _ ⟨rfl,hp⟩;have h1:=nodesP_left W pre left (deep - 1) hl.1;refine VCall.mono (VCall.fnB (b211 hd ih x _ b Hx ⟨h1.2 hp,Yd⟩)) ?_ (λ_ _ h=>h);rintro _ _ ⟨rfl,rfl⟩;have h2:=nodesP_snoc W (deep - 1) x pre left hp;exact⟨_,[.blk b 3 [.i (nodeP W x (nodesP W pre left (deep - 1)).2 (deep - 1)).2]],rfl,rfl,λh=>⟨by rw[h2],by rw[h2];exact h⟩,λh=>⟨by rw[h2],by rw[h2];exact h⟩⟩
theorem nodes_end{W:FW}{l:List Fact}{b:Nat}{bb:Bool}{H1:List Ent}(h1:bb=true->H1= [.blk b 3 [.i (nodesP W l left (deep - 1)).2]]/\(nodesP W l left (deep - 1)).1=true)
  (h2:bb=false->∃pre,pre<+:l/\H1= [.blk b 3 [.i (nodesP W pre left (deep - 1)).2]]/\(nodesP W pre left (deep - 1)).1=false):bb=(nodesP W l left (deep - 1)).1/\H1= [.blk b 3 [.i (nodesP W l left (deep - 1)).2]]:=by
 cases bb with
 | true=>obtain⟨e1,e2⟩:=h1 rfl;exact⟨e2.symm,e1⟩
 | false=>
  obtain⟨pre,⟨rest,rfl⟩,e1,e2⟩:=h2 rfl;rw[nodesP_stop W (deep - 1) rest pre left e2];exact⟨e2.symm,e1⟩
theorem bad_false{f:Fact}(h:badP f left deep=false)(hd:0<=deep)(hl:left<=1000):(0<=left/\left<=1000)/\0<deep:=by
 simp only[badP,Bool.or_eq_false_iff,decide_eq_false_iff_not,beq_eq_false_iff_ne,ne_eq] at h;omega
theorem node_bad{W:FW}{f:Fact}(h:badP f (left - 1) deep=true):nodeP W f left deep=(false,left - 1):=by rw[nodeP_eq,if_pos h]
theorem node_leaf{W:FW}{f:Fact}(h:badP f (left - 1) deep=false)(h1:leafP f=true):nodeP W f left deep=(argP W f && leafOkP W f,left - 1):=by rw[nodeP_eq,if_neg YC,if_pos h1]
theorem node_notPlain{W:FW}{f:Fact}(h:badP f (left - 1) deep=false)(h1:leafP f=false)(h2:plainP f=false):nodeP W f left deep=(false,left - 1):=by rw[nodeP_eq,if_neg YC,if_neg (by simp[h1]),if_neg (by simp[h2])]
theorem node_plain{W:FW}{f:Fact}(h:badP f (left - 1) deep=false)(h1:leafP f=false)(h2:plainP f=true):nodeP W f left deep=nodesP W f.kids (left - 1) (deep - 1):=by rw[nodeP_eq,if_neg YC,if_neg (by simp[h1]),if_pos h2]
theorem leafOk_is{W:FW}{f:Fact}(h:f.op=2):leafOkP W f=((f.n==0) && classP W f.cls):=by rw[leafOkP,if_pos h]
theorem leafOk_not{W:FW}{f:Fact}(h: ¬f.op=2):leafOkP W f=((f.cls==0) && decide (f.n>= -1000000000) && decide (f.n<=1000000000)):=by rw[leafOkP,if_neg h]
theorem bif_and(a b:Bool):(bif a then b else false)=(a && b):=by cases a <;> rfl
theorem bif_or(a b:Bool):(bif a then true else b)=(a || b):=by cases a <;> rfl
theorem b182_step{W:FW}(hW:W.parents.length<=60)(hd:0<=deep/\deep<=1000)(ih:0<deep->NodeC B W (deep - 1)):NodeC B W deep:=by
 intro f left b Hx hl;refine BCall.of (n:=110) Tryz.func278 rfl Yf rfl rfl (λI w0=>?_);refine CW.boundA (t:=1) (i:=5) rfl rfl (λhbk=>?_);refine CW.boundA (t:=1) (i:=2) rfl rfl (λhbp=>?_);refine Z21 ?_;refine CW.dp mixed ?_;refine Z76 ?_;refine DP.anyC 19 25 110 rfl Ye rfl rfl Ye ?_;refine Z5 ?_;refine AD.guardC rfl rfl rfl rfl rfl (λhg=>POp.call (.mk' rfl rfl rfl rfl Yc) ((p210 _))) ?_;refine Z6 ?_;refine CW.cond rfl (λh0=>?_) (λh0=>?_)
 ·have hbad:badP f (left - 1) deep=true:=by simpa only[badP,bif_or,kidsP] using h0
  have hn:=node_bad (W:=W) hbad;refine Z7 ?_;refine Done.retR (rs:=[.tmp 8]) rfl (.tmp rfl (.nil)) (AVleL.refl _) Yb ?_;exact⟨retB (by rw[hn]),Yby⟩
 ·have hbad:badP f (left - 1) deep=false:=by simpa only[badP,bif_or,kidsP] using h0
  obtain⟨hl1,hd1⟩:=bad_false hbad hd.1 Yd;refine Z7 ?_;refine oP (POp.call .k ((p134 _))) ?_;refine Z4 ?_;refine CW.cond rfl (λh1=>?_) (λh1=>?_)
  ·have hleaf:leafP f=false:=by simpa only[leafP,Bool.not_eq_true'] using h1
   refine Z23 ?_;refine CW.cond rfl (λh2=>?_) (λh2=>?_)
   ·have hplain:plainP f=false:=by rw[plainP,Bool.not_eq_false'];simpa only[bif_or] using h2
    have hn:=node_notPlain (W:=W) hbad hleaf hplain;refine Z8 ?_;refine Done.retR (rs:=[.tmp 8]) rfl (.tmp rfl (.nil)) (AVleL.refl _) Yb ?_;exact⟨retB (by rw[hn]),Yby⟩
   ·have hplain:plainP f=true:=by rw[plainP,Bool.not_eq_true'];simpa only[bif_or] using h2
    have hn:=node_plain (W:=W) hbad hleaf hplain;refine Z8 ?_;refine bC .k (b180 f.kids (nodesCb ⟨hd1,hd.2⟩ (ih hd1) (left - 1) hl1 b _) [.blk b 3 [.i (left - 1)]] Hx ⟨rfl,rfl⟩) ?_;rintro _ _ ⟨bb,H1,rfl,rfl,e1,e2⟩;obtain⟨e3,e4⟩:=nodes_end e1 e2;subst e4;refine Z4 ?_;refine Done.retR (rs:=[.tmp 8]) rfl (.tmp rfl (.nil)) (AVleL.refl _) Yb ?_;exact⟨retB (by rw[hn];exact e3),Yby⟩
  ·have hleaf:leafP f=true:=by simpa only[leafP,Bool.not_eq_false'] using h1
   have hn:=node_leaf (W:=W) hbad hleaf;refine Z14 ?_;refine OL.guardC rfl rfl rfl rfl rfl rfl (λhg=>POp.call (.mk' rfl rfl rfl rfl Yc) ((p126 _ _))) ?_;refine Z5 ?_;refine CW.cond rfl (λh3=>?_) (λh3=>?_)
   ·have harg:argP W f=false:=by rw[argP,Bool.not_eq_false'];simpa only[bif_or] using h3
    refine Z8 ?_;refine Done.retR (rs:=[.tmp 8]) rfl (.tmp rfl (.nil)) (AVleL.refl _) Yb ?_;exact⟨retB (by rw[hn,harg];rfl),Yby⟩
   ·have harg:argP W f=true:=by rw[argP,Bool.not_eq_true'];simpa only[bif_or] using h3
    refine Z8 ?_;refine cd (λh4=>?_) λh4=>?_
    ·refine Z9 ?_;refine OL.guardC rfl rfl rfl rfl rfl rfl (λhg=>POp.call (.mk' rfl rfl rfl rfl Yc) ((p106 _ _ YbA))) ?_;refine Z7 ?_;refine Done.retR (rs:=[.tmp 8]) rfl (.tmp rfl (.nil)) (AVleL.refl _) Yb ?_;exact⟨retB (by rw[hn,harg,leafOk_is h4,bif_and];rfl),Yby⟩
    ·refine Z21 ?_;refine Done.retR (rs:=[.tmp 8]) rfl (.tmp rfl (.nil)) (AVleL.refl _) Yb ?_;exact⟨retB (by rw[hn,harg,leafOk_not h4,bif_and,bif_and];rfl),Yby⟩
theorem nodeC_all{B:Nat}{W:FW}(hW:W.parents.length<=60):∀(n:Nat),n<=1000->NodeC B W n
 | 0,h=>b182_step hW ⟨Yd,Yd⟩ (λh=>by omega)
 | n+1,h=>b182_step hW ⟨Yd,Yd⟩ (λ_=>by
  have e:((n+1:Nat):Int) - 1=(n:Int):=by omega
  rw[e];exact nodeC_all hW n Yd)
theorem p180{f:Fn}{p:Fact->Bool}(hg:PredOk Tryz.prog (.fn f fs cs) AV.fact p)(l:List Fact):PCall Tryz.prog 276 [.sl 6 (encFs l),.fn f fs cs] (.b (l.all p)):=by
 intro H;have h0:fnOk Tryz.prog 276=true:=(b180 (B:=0) l (hg.cb l) [] H ⟨rfl,Yx⟩).1;refine⟨h0,λB I w vs hw hh hvs=>((b180 (B:=B) l (hg.cb l) [] H ⟨rfl,Yx⟩).2 I w vs hw hh hvs).mono λe w' hr=>hr.mono (λy H' hy=>?_) λ_ _ h=>h⟩;obtain⟨b,H1,rfl,rfl,h1,h2⟩:=hy;cases b with
 | true=>
  obtain⟨rfl,h⟩:=h1 rfl;exact⟨congrArg AV.b (List.all_eq_true.2 h).symm,rfl⟩
 | false=>
  obtain⟨pre,⟨rest,rfl⟩,rfl,q,x,rfl,h⟩:=h2 rfl;refine⟨congrArg AV.b ?_,rfl⟩;symm;rw[List.all_eq_false];exact⟨x,Yx,YC⟩
theorem p181(W:FW)(hW:W.parents.length<=60)(f:Fact):PCall Tryz.prog 277 [AV.fact f,.ptr [Wptr W]] (.b (formedP W f)):=by
 intro H;refine aC (n:=8) Tryz.func277 λB I w0=>?_;refine Z8 ?_;refine OL.alC rfl rfl rfl rfl (λb0=>?_);refine Z7 ?_;refine bC .k (nodeC_all hW 12 Yd f 24 b0 H ⟨Yd,Yd⟩) ?_;rintro _ _ ⟨rfl,rfl⟩;refine Z4 ?_;refine r1 3 (H) ?_;exact⟨retB rfl,rfl⟩
theorem p131(W:FW)(hW:W.parents.length<=60)(l:List Fact):PCall Tryz.prog 251 [Wptr W,AV.facts l] (.b (l.all (formedP W))):=by
 intro H;refine aC (n:=8) Tryz.func251 λB I w0=>?_;refine Z10 ?_;refine oP (POp.call .k (p180 (.of (p181 W hW)) l)) ?_;refine Z4 ?_;refine r1 4 (H) ?_;exact⟨Yg,rfl⟩
theorem up_get{W:FW}{i:Nat}(h:i<U.length):(Wcells W++U.map λs=>AV.set s)[2+i]? =some (AV.set (U.getD i 0)):=by
 show ([AV.intss W.parents,AV.ints W.owner]++_)[2+i]? =_;rw[List.getElem?_append_right Yx];simp[List.getElem?_map,List.getElem?_eq_getElem h,List.getD_eq_getElem?_getD]
theorem up_set{W:FW}{i s:Nat}(h:i<U.length):(Wcells W++U.map λs=>AV.set s).take (2+i)++[AV.set s]++(Wcells W++U.map λs=>AV.set s).drop (2+i+1)=Wcells W++(U.set i s).map λs=>AV.set s:=by
 have e:Wcells W= [AV.intss W.parents,AV.ints W.owner]:=rfl;have e1:(Wcells W++U.map λs=>AV.set s).take (2+i)=Wcells W++(U.take i).map λs=>AV.set s:=by
  rw[e,List.take_append,List.map_take];simp[List.take_of_length_le]
 have e2:(Wcells W++U.map λs=>AV.set s).drop (2+i+1)=(U.drop (i+1)).map λs=>AV.set s:=by
  rw[show 2+i+1=(i+1)+2 from by omega,List.map_drop];rfl
 rw[e1,e2,List.append_assoc,List.append_assoc];congr 1;rw[List.set_eq_take_append_cons_drop,if_pos h];simp
end Go.Proofs.YtpgnjlngepfanaaGreat
