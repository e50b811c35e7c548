/- Part 6 of the proof: contracts of functions of the program and what they need. No condition beyond those that each theorem names. -/
import Derived.Test.YtogjaoodkaahoaaGreatVowJudgesP5
set_option maxHeartbeats 1000000
set_option linter.unusedVariables false
namespace Go.Ev
open Go.Eng
inductive Tr(α:Type) where
 | nil
 | node (l:Tr α) (v:Option α) (r:Tr α)
 deriving Inhabited
def Tr.get{α:Type}:Tr α->Nat->Option α
 | .nil,_=>none
 | .node l v r,k=>bif Nat.beq k 0 then v else bif Nat.beq (k%2) 1 then l.get (k / 2) else r.get (k / 2 - 1)
def Tr.set{α:Type}:Nat->Tr α->Nat->Option α->Option (Tr α)
 | 0,_,_,_=>none
 | n+1,.nil,k,x=>bif Nat.beq k 0 then some (.node .nil x .nil) else bif Nat.beq (k%2) 1
   then (match Tr.set n .nil (k / 2) x with | some l'=>some (.node l' none .nil) | none=>none)
   else (match Tr.set n .nil (k / 2 - 1) x with | some r'=>some (.node .nil none r') | none=>none)
 | n+1,.node l v r,k,x=>bif Nat.beq k 0 then some (.node l x r) else bif Nat.beq (k%2) 1
   then (match Tr.set n l (k / 2) x with | some l'=>some (.node l' v r) | none=>none)
   else (match Tr.set n r (k / 2 - 1) x with | some r'=>some (.node l v r') | none=>none)
def fN{α:Type}(n:Nat)(f:Nat->Option α):Option α:=match n with | 0=>f 0 | p+1=>f (p+1)
def fI{α:Type}(n:Int)(f:Int->Option α):Option α:=match n with | .ofNat m=>fN m λm=>f (.ofNat m) | .negSucc m=>fN m λm=>f (.negSucc m)
theorem fN_eq{α:Type}(n:Nat)(f:Nat->Option α):fN n f=f n:=by cases n <;> rfl
theorem fI_eq{α:Type}(n:Int)(f:Int->Option α):fI n f=f n:=by cases n <;> simp only[fI,fN_eq]
inductive CV where
 | any
 | val (v:Value)
 | ptr (k o:Nat)
 | sl (k o len:Nat) (cap:Option Nat) (sz:Nat)
 | e0
 | map (k:Nat)
 | agg (cs:List CV)
 | tup (cs:List CV)
 | fn (f:FuncId) (first caps:List CV)
 | yld (k:Nat)
 | iface (t:TypeId) (x:CV)
 deriving Inhabited
inductive CO where
 | row (t:TypeId) (cs:List CV) (opn:Bool)
 | map (kt:TypeId) (es:List (CV×CV×Nat)) (clock:Nat)
 | loop (st:LoopState) (pending:Option Code) (env:Tr CV) (n:Nat) (ps:List Nat) (assign body:Code) (d:Nat)
 | dfr
 | gone
 deriving Inhabited
structure S where
 h:Tr CO
 nx:Nat
 R:Nat
 W:Nat
 deriving Inhabited
section
variable{α:Type}
def rd(s:S)(k:Nat)(f:CO->S->Option α):Option α:=
 match s with
 | ⟨h,nx,R,W⟩=>match h.get k with
  | some o=>fN (Nat.lor R (Nat.shiftLeft 1 k)) λm=>f o ⟨h,nx,m,W⟩
  | none=>none
def wr(s:S)(k:Nat)(o:Option CO)(f:S->Option α):Option α:=
 match s with
 | ⟨h,nx,R,W⟩=>match h.get k with
  | none=>none
  | some _=>match Tr.set 24 h k o with
   | none=>none
   | some h'=>fN (Nat.lor W (Nat.shiftLeft 1 k)) λm=>f ⟨h',nx,R,m⟩
def nw(s:S)(o:CO)(f:Nat->S->Option α):Option α:=
 match s with
 | ⟨h,nx,R,W⟩=>match Tr.set 24 h nx (some o) with
  | none=>none
  | some h'=>fN (nx+1) λn=>fN (Nat.lor W (Nat.shiftLeft 1 nx)) λm=>f nx ⟨h',n,R,m⟩
end
inductive Ret where
 | ok (x:CV) (s:S)
 | pan (x:CV) (s:S)
 deriving Inhabited
def cells:CV->List CV
 | .agg cs=>cs
 | x=>[x]
def normV:Value->CV
 | .agg cs=>.agg (cs.toList.map .val)
 | v=>.val v
def ev(env:Tr CV):Operand->Option CV
 | .tmp t=>env.get t
 | .const v=>some (normV v)
 | .func f=>some (.fn f [] [])
 | .global _=>none
def evs(env:Tr CV):List Operand->Option (List CV)
 | []=>some []
 | x::r=>match ev env x with
  | none=>none
  | some a=>match evs env r with
   | none=>none
   | some l=>some (a::l)
def one:CV->Bool
 | .val (.agg _)=>false
 | .val (.tuple _)=>false
 | .agg _=>false
 | .tup _=>false
 | .any=>false
 | _=>true
def allOne:List CV->Bool
 | []=>true
 | x::r=>bif one x then allOne r else false
def takeN:Nat->List CV->Option (List CV)
 | 0,_=>some []
 | _+1,[]=>none
 | n+1,x::r=>match takeN n r with | some l=>some (x::l) | none=>none
def dropN:Nat->List CV->Option (List CV)
 | 0,l=>some l
 | _+1,[]=>none
 | n+1,_::r=>dropN n r
def part(cs:List CV)(o n:Nat):Option (List CV):=match dropN o cs with | none=>none | some l=>takeN n l
def putN:Nat->List CV->List CV->Option (List CV)
 | 0,[],l=>some l
 | 0,_::_,[]=>none
 | 0,x::r,_::l=>match putN 0 r l with | some l'=>some (x::l') | none=>none
 | _+1,_,[]=>none
 | n+1,xs,y::l=>match putN n xs l with | some l'=>some (y::l') | none=>none
def fillC(place:Nat->Option (Nat×Nat)):List CV->List (Nat×CV)->Option (List CV)
 | cs,[]=>some cs
 | cs,(i,x)::rest=>match place i with
  | none=>none
  | some (off,size)=>bif allOne (cells x) && Nat.beq (cells x).length size then (match putN off (cells x) cs with | some cs'=>fillC place cs' rest | none=>none) else none
def repl:Nat->List CV->List CV
 | 0,_=>[]
 | n+1,zs=>zs++repl n zs
def intV(k:IntKind)(n:Int)(f:CV->Option Ret):Option Ret:=fI n λn=>f (.val (.int k n))
def retI(s:S)(k:IntKind)(n:Int):Option Ret:=fI n λn=>some (.ok (.val (.int k n)) s)
def retB(s:S)(b:Bool):Option Ret:=match b with | true=>some (.ok (.val (.bool true)) s) | false=>some (.ok (.val (.bool false)) s)
def iLt:Int->Int->Bool
 | .ofNat a,.ofNat b=>Nat.blt a b
 | .ofNat _,.negSucc _=>false
 | .negSucc _,.ofNat _=>true
 | .negSucc a,.negSucc b=>Nat.blt b a
def iEq:Int->Int->Bool
 | .ofNat a,.ofNat b=>Nat.beq a b
 | .negSucc a,.negSucc b=>Nat.beq a b
 | _,_=>false
def bytesEq:List UInt8->List UInt8->Bool
 | [],[]=>true
 | a::x,b::y=>bif Nat.beq a.toNat b.toNat then bytesEq x y else false
 | _,_=>false
def kEq:IntKind->IntKind->Bool
 | .i8,.i8 | .i16,.i16 | .i32,.i32 | .i64,.i64 | .u8,.u8 | .u16,.u16 | .u32,.u32 | .u64,.u64=>true
 | _,_=>false
def eqV(P:Program)(t:TypeId)(x y:CV):Option Bool:=match P.underlying t,x,y with
  | some .bool,.val (.bool a),.val (.bool b)=>some (bif a then b else !b)
  | some (.int _),.val (.int k a),.val (.int k' b)=>bif kEq k k' then some (iEq a b) else none
  | some .string,.val (.string a),.val (.string b)=>some (bytesEq a.data.toList b.data.toList)
  | some (.pointer _),.val (.pointer none),.val (.pointer none)=>some true
  | some (.pointer _),.ptr _ _,.val (.pointer none)=>some false
  | some (.pointer _),.val (.pointer none),.ptr _ _=>some false
  | some (.slice _),.val (.slice none 0 0),.val (.slice none 0 0)=>some true
  | some (.slice _),.sl _ _ _ _ _,.val (.slice none 0 0)=>some false
  | some (.slice _),.val (.slice none 0 0),.sl _ _ _ _ _=>some false
  | some (.map _ _),.val (.map none),.val (.map none)=>some true
  | some (.map _ _),.map _,.val (.map none)=>some false
  | some (.func _ _ _),.fn _ _ _,.val .nilFunc=>some false
  | some (.func _ _ _),.val .nilFunc,.val .nilFunc=>some true
  | some (.interface _),.val .nilIface,.val .nilIface=>some true
  | some (.interface _),.iface _ _,.val .nilIface=>some false
  | some (.interface _),.val .nilIface,.iface _ _=>some false
  | _,_,_=>none
def intsOf:List CV->Option (List Int)
 | []=>some []
 | .val (.int .i64 n)::r=>match intsOf r with | some l=>some (n::l) | none=>none
 | _::_=>none
def eqInts':List Int->List Int->Bool
 | [],[]=>true
 | a::x,b::y=>bif iEq a b then eqInts' x y else false
 | _,_=>false
def cmpI':BinOp->Int->Int->Option Bool
 | .eql,a,b=>some (iEq a b)
 | .neq,a,b=>some (!(iEq a b))
 | .lss,a,b=>some (iLt a b)
 | .leq,a,b=>some (!(iLt b a))
 | .gtr,a,b=>some (iLt b a)
 | .geq,a,b=>some (!(iLt a b))
 | _,_,_=>none
end Go.Ev
