/- Part 7 of the proof: contracts of functions of the program and what they need. No condition beyond those that each theorem names. -/
import Derived.Test.YtogjaoodkaahoaaGreatVowJudgesP6
set_option maxHeartbeats 1000000
set_option linter.unusedVariables false
namespace Go.Ev
open Go.Eng
def valL:List Value->Option (List CV)
 | []=>some []
 | v::r=>match valL r with | some l=>some (.val v::l) | none=>none
def bok:CV->Bool
 | .any=>false
 | .val (.agg _)=>false
 | _=>true
def bokL:List CV->Bool
 | []=>true
 | x::r=>bif bok x then bokL r else false
def zipIx:List (Nat×Operand)->List CV->Option (List (Nat×CV))
 | [],[]=>some []
 | (i,_)::r,x::l=>match zipIx r l with | some m=>some ((i,x)::m) | none=>none
 | _,_=>none
def len(l:List CV):Nat:=match l with | []=>0 | _::r=>len r+1
def elInfo(P:Program)(t:TypeId):Option (TypeId×Nat×Nat×List Value):=
 match P.underlying t with
 | some (.slice e)=>match P.info? e with
  | some i=>match i.zero with
   | some z=>some (e,i.size,i.bytes,z.cells.toList)
   | none=>none
  | none=>none
 | _=>none
def natOf:CV->Option Nat
 | .val (.int .i64 (.ofNat n))=>some n
 | _=>none
def anyInt:CV->Option Int
 | .val (.int _ n)=>some n
 | _=>none
def natAny(x:CV):Option Nat:=match anyInt x with | some (.ofNat n)=>some n | _=>none
def evO(env:Tr CV):Option Operand->Option (Option CV)
 | none=>some none
 | some x=>match ev env x with | some a=>some (some a) | none=>none
def bound(d:Nat):Option CV->Option Nat
 | none=>some d
 | some x=>natAny x
def sliceV(sz:Nat)(x:CV)(lo hi mx:Option CV):Option CV:=
 match x with
 | .sl k o n (some c) z=>bif Nat.beq z sz then (match bound 0 lo,bound n hi,bound c mx with
  | some l,some h,some m=>bif Nat.ble l h && Nat.ble h m && Nat.ble m c then (bif Nat.beq m l then some (.sl k o 0 (some 0) z) else some (.sl k (o+l*sz) (h - l) (some (m - l)) z)) else none
  | _,_,_=>none) else none
 | .sl k o n none z=>bif Nat.beq z sz then (match bound 0 lo,bound n hi,mx with
  | some l,some h,none=>bif Nat.ble l h && Nat.ble h n then (bif Nat.beq l 0 then some (.sl k o h none z) else bif Nat.blt l n then some (.sl k (o+l*sz) (h - l) none z) else some .e0) else none
  | some l,some h,some mx=>match natAny mx with
   | some m=>bif Nat.ble l h && Nat.ble h m && Nat.ble m n then (bif Nat.beq m l then some (.sl k o 0 (some 0) z) else some (.sl k (o+l*sz) (h - l) (some (m - l)) z)) else none
   | none=>none
  | _,_,_=>none) else none
 | .e0=>match bound 0 lo,bound 0 hi,bound 0 mx with
  | some 0,some 0,some 0=>some .e0
  | _,_,_=>none
 | .val (.slice none 0 0)=>match bound 0 lo,bound 0 hi,bound 0 mx with
  | some 0,some 0,some 0=>some (.val (.slice none 0 0))
  | _,_,_=>none
 | _=>none
def bytesOf:List CV->Option (List UInt8)
 | []=>some []
 | .val (.int .u8 n)::r=>match bytesOf r with | some l=>some (UInt8.ofNat n.toNat::l) | none=>none
 | _::_=>none
def eqK:List CV->List CV->Option Bool
 | [],[]=>some true
 | .val (.int k a)::x,.val (.int k' b)::y=>bif kEq k k' then (match eqK x y with | some c=>some (bif iEq a b then c else false) | none=>none) else none
 | .val (.bool a)::x,.val (.bool b)::y=>match eqK x y with | some c=>some (bif (bif a then b else !b) then c else false) | none=>none
 | .val (.string a)::x,.val (.string b)::y=>match eqK x y with | some c=>some (bif bytesEq a.data.toList b.data.toList then c else false) | none=>none
 | _,_=>none
def eqKey:CV->CV->Option Bool
 | .agg x,.agg y=>eqK x y
 | .val (.agg _),_=>none
 | _,.val (.agg _)=>none
 | .val u,.val v=>eqK [.val u] [.val v]
 | _,_=>none
def toVals:List CV->Option (List Value)
 | []=>some []
 | .val v::r=>match toVals r with | some l=>some (v::l) | none=>none
 | _::_=>none
def toVal:CV->Option Value
 | .val v=>some v
 | .agg cs=>match toVals cs with | some l=>some (.agg l.toArray) | none=>none
 | _=>none
def findE(key:CV):List (CV×CV×Nat)->Nat->Option (Option (Nat×CV))
 | [],_=>some none
 | (k,v,_)::r,i=>match eqKey key k with
  | some true=>some (some (i,v))
  | some false=>findE key r (i+1)
  | none=>none
def setE:Nat->CV->CV->List (CV×CV×Nat)->Option (List (CV×CV×Nat))
 | _,_,_,[]=>none
 | 0,key,v,(_,_,b)::r=>some ((key,v,b)::r)
 | n+1,key,v,e::r=>match setE n key v r with | some r'=>some (e::r') | none=>none
def snoc{α:Type}:List α->α->Option (List α)
 | [],x=>some [x]
 | y::r,x=>match snoc r x with | some l=>some (y::l) | none=>none
def cat{α:Type}:List α->List α->Option (List α)
 | [],l=>some l
 | y::r,l=>match cat r l with | some m=>some (y::m) | none=>none
def mapInfo(P:Program)(t:TypeId):Option (TypeId×TypeId):=match P.underlying t with | some (.map k e)=>some (k,e) | _=>none
def keyedB(P:Program)(kt:TypeId):Bool:=match P.underlying kt with
 | some (.int _) | some .bool | some .string=>true
 | some (.struct _) | some (.array _ _)=>Nat.blt kt P.types.size && P.keyTypeAt 3 kt
 | _=>false
def keyOk(P:Program)(kt:TypeId)(k:CV):Bool:=bif keyedB P kt then (match toVal k with | some v=>(keyOf P kt v).isSome | none=>false) else false
def oneZ(P:Program)(t:TypeId):Option CV:=match P.info? t with
 | some i=>match i.zero with
  | some (.agg cs)=>match valL cs.toList with | some l=>some (.agg l) | none=>none
  | some v=>some (.val v)
  | none=>none
 | none=>none
def rdRow(s:S)(k o n:Nat)(f:List CV->S->Option Ret):Option Ret:=
 rd s k λob s=>match ob with
  | .row _ cs _=>match part cs o n with | some l=>f l s | none=>none
  | _=>none
def srcCells(sz:Nat)(x:CV)(s:S)(f:List CV->Nat->S->Option Ret):Option Ret:=
 match x with
 | .sl k o n _ z=>bif Nat.beq z sz then (rdRow s k o (n*sz) λl s=>f l n s) else none
 | .e0=>f [] 0 s
 | .val (.slice none 0 0)=>f [] 0 s
 | _=>none
def appendV(P:Program)(t:TypeId)(x y:CV)(s:S):Option Ret:=
 match elInfo P t with
 | none=>none
 | some (e,sz,by_,zs)=>bif !(Nat.blt 0 sz && Nat.beq zs.length sz) then none else
  srcCells sz y s λnews m s=>
   bif !(allOne news) then none else
   match x with
   | .val (.slice none 0 0)=>bif Nat.beq m 0 then some (.ok (.val (.slice none 0 0)) s) else
     bif Nat.ble (m*by_) 140737488355328 && Nat.ble m 9223372036854775807 then (nw s (.row e news true) λk s=>some (.ok (.sl k 0 m none sz) s)) else none
   | .sl k o n (some c) z=>bif !(Nat.beq z sz) then none else
     bif Nat.ble (n+m) c then
      rd s k λob s=>match ob with
      | .row e' cs opn=>match putN (o+n*sz) news cs with
       | some cs'=>wr s k (some (.row e' cs' opn)) λs=>some (.ok (.sl k o (n+m) (some c) z) s)
       | none=>none
      | _=>none
     else bif Nat.ble ((n+m)*by_) 140737488355328 && Nat.ble (n+m) 9223372036854775807 then
      rdRow s k o (n*sz) λold s=>match cat old news with
       | some all=>nw s (.row e all true) λk s=>some (.ok (.sl k 0 (n+m) none sz) s)
       | none=>none
     else none
   | .sl k o n none z=>bif !(Nat.beq z sz && Nat.beq o 0) then none else
     bif Nat.ble ((n+m)*by_) 140737488355328 && Nat.ble (n+m) 9223372036854775807 then
      rd s k λob s=>match ob with
      | .row e' cs true=>bif Nat.beq e' e && Nat.beq (len cs) (n*sz) then (match cat cs news with
       | some all=>wr s k none λs=>nw s (.row e all true) λk s=>some (.ok (.sl k 0 (n+m) none sz) s)
       | none=>none) else none
      | _=>none
     else none
   | _=>none
def minN(n m:Nat):Nat:=bif Nat.ble n m then n else m
def noSl:CV->Bool
 | .e0=>true
 | .val (.slice none 0 0)=>true
 | _=>false
def anySl:CV->Bool
 | .sl _ _ _ _ _=>true
 | x=>noSl x
def copyV(P:Program)(t:TypeId)(x y:CV)(s:S):Option Ret:=
 match slSize P t with
 | none=>none
 | some sz=>match x,y with
  | .sl k o n _ z,.sl k2 o2 m _ z2=>bif Nat.beq z sz && Nat.beq z2 sz then (rdRow s k2 o2 (minN n m*sz) λnews s=>bif allOne news then (rd s k λob s=>match ob with
   | .row e cs opn=>match putN o news cs with
    | some cs'=>wr s k (some (.row e cs' opn)) λs=>retI s .i64 (minN n m:Nat)
    | none=>none
   | _=>none) else none) else none
  | x,y=>bif (noSl x || noSl y) && anySl x && anySl y then retI s .i64 0 else none
def ifT{α:Type}(b:Bool)(x:Option α):Option α:=bif b then x else none
def bothNil:CV->CV->Bool
 | .val .nilIface,.val .nilIface=>true
 | _,_=>false
def binI(op:BinOp)(k:IntKind)(x:Int)(k':IntKind)(y:Int)(s:S):Option Ret:=match op with
 | .shl | .shr=>bif iLt y 0 then none else (match shI op k x y with | some n=>retI s k n | none=>none)
 | .quo=>ifT (kEq k k' && !(iEq y 0)) (retI s k (k.wrap (x.tdiv y)))
 | .rem=>ifT (kEq k k' && !(iEq y 0)) (retI s k (x.tmod y))
 | .add | .sub | .mul=>ifT (kEq k k') (match arI op x y with | some n=>retI s k (k.wrap n) | none=>none)
 | .and | .or | .xor | .andNot=>ifT (kEq k k') (match bitI op k x y with | some n=>retI s k n | none=>none)
 | _=>ifT (kEq k k') (match cmpI' op x y with | some c=>retB s c | none=>none)
def lenB(l:List UInt8):Nat:=match l with | []=>0 | _::r=>lenB r+1
def ok1(x:CV)(s:S):Option Ret:=some (.ok x s)
def binS(op:BinOp)(x y:ByteArray)(s:S):Option Ret:=match op with
 | .add=>match cat x.data.toList y.data.toList with
  | some l=>ifT (Nat.ble (lenB l) 8388608) (ok1 (.val (.string ⟨l.toArray⟩)) s)
  | none=>none
 | .eql=>retB s (bytesEq x.data.toList y.data.toList)
 | .neq=>retB s (!(bytesEq x.data.toList y.data.toList))
 | _=>none
def binA(P:Program)(op:BinOp)(t:TypeId)(x y:List CV)(s:S):Option Ret:=match intsOf x,intsOf y with
 | some l,some m=>ifT (eqInts P t l.length && Nat.beq l.length m.length) (match op with
  | .eql=>retB s (eqInts' l m)
  | .neq=>retB s (!(eqInts' l m))
  | _=>none)
 | _,_=>none
def binO(P:Program)(isC:Bool)(op:BinOp)(t:TypeId)(a b:CV)(s:S):Option Ret:=ifT (isC || !(bothNil a b)) (match op with
 | .eql=>match eqV P t a b with | some c=>retB s c | none=>none
 | .neq=>match eqV P t a b with | some c=>retB s (!c) | none=>none
 | _=>none)
def binV(P:Program)(isC:Bool)(op:BinOp)(t:TypeId)(a b:CV)(s:S):Option Ret:=
 match a,b with
 | .val (.int k x),.val (.int k' y)=>binI op k x k' y s
 | .val (.string x),.val (.string y)=>binS op x y s
 | .agg x,.agg y=>binA P op t x y s
 | a,b=>binO P isC op t a b s
def lookupV(kt:TypeId)(z key:CV)(ok:Bool)(mv:CV)(s:S):Option Ret:=
 match mv with
 | .val (.map none)=>ok1 (bif ok then .tup [z,.val (.bool false)] else z) s
 | .map r=>rd s r λob s=>match ob with
  | .map kt' es _=>bif !(Nat.beq kt' kt) then none else match findE key es 0 with
   | some (some (_,v))=>ok1 (bif ok then .tup [v,.val (.bool true)] else v) s
   | some none=>ok1 (bif ok then .tup [z,.val (.bool false)] else z) s
   | none=>none
  | _=>none
 | _=>none
def ifaceOk'(P:Program)(t:TypeId):Bool:=match P.underlying t with
 | some (.interface _)=>false
 | some _=>true
 | none=>false
def o_move(P:Program)(env:Tr CV)(x:Operand)(s:S):Option Ret:=match ev env x with | some a=>ok1 a s | none=>none
def o_pick(P:Program)(env:Tr CV)(c:Operand)(a:Operand)(b:Operand)(s:S):Option Ret:=match ev env c with
 | some (.val (.bool true))=>match ev env a with | some x=>ok1 x s | none=>none
 | some (.val (.bool false))=>match ev env b with | some x=>ok1 x s | none=>none
 | _=>none
def o_alloc(P:Program)(env:Tr CV)(t:TypeId)(s:S):Option Ret:=match zeroCells P t with
 | some zs=>match valL zs with
  | some cs=>nw s (.row t cs false) λk s=>ok1 (.ptr k 0) s
  | none=>none
 | none=>none
def o_box(P:Program)(env:Tr CV)(t:TypeId)(x:Operand)(s:S):Option Ret:=match ev env x with
 | some a=>ifT (bok a) (nw s (.row t (cells a) false) λk s=>ok1 (.ptr k 0) s)
 | none=>none
def o_build(P:Program)(env:Tr CV)(t:TypeId)(ps:Array (Nat×Operand))(s:S):Option Ret:=match buildInfo P t,evs env (ps.toList.map (·.2)) with
 | some (zs,places),some xs=>match valL zs,zipIx ps.toList xs with
  | some cs,some parts=>ifT (bokL xs) (match fillC (places[·]?) cs parts with | some l=>ok1 (.agg l) s | none=>none)
  | _,_=>none
 | _,_=>none
def o_buildSlice(P:Program)(env:Tr CV)(t:TypeId)(n:Nat)(ps:Array (Nat×Operand))(s:S):Option Ret:=match elInfo P t,evs env (ps.toList.map (·.2)) with
 | some (e,sz,_,zs),some xs=>match valL zs,zipIx ps.toList xs with
  | some cs,some parts=>bif Nat.beq n 0 then (match xs with | []=>nw s (.row e [] false) λk s=>ok1 (.sl k 0 0 (some 0) sz) s | _=>none) else ifT (bokL xs && Nat.ble (n*sz) 16777216 && Nat.beq (len cs) sz && Nat.blt 0 sz) (match fillC (λi=>some (i*sz,sz)) (repl n cs) parts with
   | some l=>nw s (.row e l false) λk s=>ok1 (.sl k 0 n (some n) sz) s
   | none=>none)
  | _,_=>none
 | _,_=>none
def o_load(P:Program)(env:Tr CV)(t:TypeId)(p:Operand)(s:S):Option Ret:=match tyInfo P t,ev env p with
 | some (true,n),some (.ptr k o)=>rdRow s k o n λl s=>ok1 (.agg l) s
 | some (false,_),some (.ptr k o)=>rdRow s k o 1 λl s=>match l with | [x]=>ok1 x s | _=>none
 | _,_=>none
def o_store(P:Program)(env:Tr CV)(t:TypeId)(p:Operand)(x:Operand)(s:S):Option Ret:=match tyInfo P t,ev env p,ev env x with
 | some (_,n),some (.ptr k o),some a=>ifT (bok a && allOne (cells a) && Nat.beq (len (cells a)) n) (rd s k λob s=>match ob with
  | .row e cs opn=>match putN o (cells a) cs with
   | some cs'=>wr s k (some (.row e cs' opn)) λs=>ok1 (.tup []) s
   | none=>none
  | _=>none)
 | _,_,_=>none
def o_nilCheck(P:Program)(env:Tr CV)(x:Operand)(s:S):Option Ret:=match ev env x with
 | some (.ptr k o)=>ok1 (.ptr k o) s
 | some (.fn f a b)=>ok1 (.fn f a b) s
 | some (.iface t v)=>ok1 (.iface t v) s
 | some (.yld k)=>ok1 (.yld k) s
 | _=>none
def o_binOp(P:Program)(env:Tr CV)(op:BinOp)(t:TypeId)(x:Operand)(y:Operand)(s:S):Option Ret:=match ev env x,ev env y with
 | some a,some b=>binV P (Region.isConst x || Region.isConst y) op t a b s
 | _,_=>none
def o_unOp(P:Program)(env:Tr CV)(op:UnOp)(x:Operand)(s:S):Option Ret:=match op,ev env x with
 | .not,some (.val (.bool b))=>retB s (!b)
 | .neg,some (.val (.int k n))=>retI s k (k.wrap (0 - n))
 | .xor,some (.val (.int k n))=>match bitI .xor k (bif k.signed then -1 else k.max) n with | some m=>retI s k m | none=>none
 | _,_=>none
def o_convert(P:Program)(env:Tr CV)(src:TypeId)(dst:TypeId)(x:Operand)(s:S):Option Ret:=match P.underlying src,P.underlying dst,ev env x with
 | some (.int _),some (.int k),some (.val (.int _ n))=>retI s k (k.wrap n)
 | some (.string),some (.string),some (.val (.string b))=>ok1 (.val (.string b)) s
 | some (.int _),some (.string),some (.val (.int _ (.ofNat n)))=>ifT (Nat.blt n 128) (ok1 (.val (.string ⟨#[UInt8.ofNat n]⟩)) s)
 | some (.slice e),some (.string),some (.val (.slice none 0 0))=>match P.underlying e with | some (.int .u8)=>ok1 (.val (.string ⟨#[]⟩)) s | _=>none
 | some (.slice e),some (.string),some (.sl k o n _ sz)=>match P.underlying e with
  | some (.int .u8)=>ifT (Nat.beq sz 1) (rdRow s k o n λl s=>match bytesOf l with | some b=>ok1 (.val (.string ⟨b.toArray⟩)) s | none=>none)
  | _=>none
 | _,_,_=>none
def o_makeInterface(P:Program)(env:Tr CV)(t:TypeId)(x:Operand)(s:S):Option Ret:=match ev env x with
 | some a=>ifT (ifaceOk' P t) (ok1 (.iface t a) s)
 | none=>none
def o_makeFunc(P:Program)(env:Tr CV)(fn:Fn)(first:Array Operand)(caps:Array Operand)(s:S):Option Ret:=match fn,evs env first.toList,evs env caps.toList with
 | .func f,some a,some b=>ok1 (.fn f a b) s
 | _,_,_=>none
def o_makeMap0(P:Program)(env:Tr CV)(t:TypeId)(s:S):Option Ret:=match mapInfo P t with
 | some (kt,_)=>nw s (.map kt [] 0) λk s=>ok1 (.map k) s
 | none=>none
def o_makeMap1(P:Program)(env:Tr CV)(t:TypeId)(r:Operand)(s:S):Option Ret:=match mapInfo P t,ev env r with
 | some (kt,_),some (.val (.int _ _))=>nw s (.map kt [] 0) λk s=>ok1 (.map k) s
 | _,_=>none
def o_makeSlice(P:Program)(env:Tr CV)(t:TypeId)(l:Operand)(c:Operand)(s:S):Option Ret:=match elInfo P t,ev env l,ev env c with
 | some (e,sz,by_,zs),some a,some b=>match natOf a,natOf b,valL zs with
  | some n,some m,some cs=>ifT (Nat.ble n m && Nat.ble (m*by_) 140737488355328 && Nat.ble m 1000000 && Nat.beq (len cs) sz && Nat.blt 0 sz) (nw s (.row e (repl m cs) false) λk s=>ok1 (.sl k 0 n (some m) sz) s)
  | _,_,_=>none
 | _,_,_=>none
def o_sliceS(P:Program)(t:TypeId)(a:CV)(l h m:Option CV)(ok:Bool)(s:S):Option Ret:=match slSize P t with
 | some sz=>ifT ok (match sliceV sz a l h m with | some r=>ok1 r s | none=>none)
 | none=>none
def o_sliceA(P:Program)(t:TypeId)(k q:Nat)(l h m:Option CV)(ok:Bool)(s:S):Option Ret:=match arrInfo P t with
 | some (n,sz)=>ifT ok (match sliceV sz (.sl k q n (some n) sz) l h m with | some r=>ok1 r s | none=>none)
 | none=>none
def o_slice(P:Program)(env:Tr CV)(t:TypeId)(x:Operand)(lo:Option Operand)(hi:Option Operand)(mx:Option Operand)(s:S):Option Ret:=match ev env x,evO env lo,evO env hi,evO env mx with
 | some (.ptr k q),some l,some h,some m=>o_sliceA P t k q l h m (hi.isSome || !mx.isSome) s
 | some a,some l,some h,some m=>o_sliceS P t a l h m (hi.isSome || !mx.isSome) s
 | _,_,_,_=>none
def fldI(P:Program)(t:TypeId)(f:Nat):Option (Bool×Nat×Nat):=
 match P.underlying t with
 | some (.struct fs)=>match fs[f]? with
  | some fd=>match tyInfo P fd.type with
   | some (b,n)=>some (b,fd.offset,n)
   | none=>none
  | none=>none
 | _=>none
def o_field(P:Program)(env:Tr CV)(t:TypeId)(x:Operand)(f:Nat)(s:S):Option Ret:=match fldI P t f,ev env x with
 | some (true,off,n),some (.agg cs)=>match part cs off n with | some l=>ok1 (.agg l) s | none=>none
 | some (false,off,_),some (.agg cs)=>match part cs off 1 with | some [y]=>ok1 y s | _=>none
 | _,_=>none
def o_fieldAddr(P:Program)(env:Tr CV)(t:TypeId)(x:Operand)(f:Nat)(s:S):Option Ret:=match fldOff P t f,ev env x with
 | some off,some (.ptr k o)=>ok1 (.ptr k (o+off)) s
 | _,_=>none
def o_indexAddr(P:Program)(env:Tr CV)(t:TypeId)(x:Operand)(i:Operand)(s:S):Option Ret:=match ev env x,ev env i with
 | some (.sl k o n _ z),some b=>match slSize P t,natAny b with
  | some sz,some j=>ifT (Nat.beq z sz && Nat.blt j n) (ok1 (.ptr k (o+j*sz)) s)
  | _,_=>none
 | some (.ptr k o),some b=>match arrInfo P t,natAny b with
  | some (n,sz),some j=>ifT (Nat.blt j n) (ok1 (.ptr k (o+j*sz)) s)
  | _,_=>none
 | _,_=>none
def o_index(P:Program)(env:Tr CV)(t:TypeId)(x:Operand)(i:Operand)(s:S):Option Ret:=match P.underlying t,ev env x,ev env i with
 | some .string,some (.val (.string b)),some j=>match natAny j with
  | some n=>match b.data.toList[n]? with | some c=>retI s .u8 (c.toNat:Nat) | none=>none
  | none=>none
 | _,_,_=>none
def o_lookup(P:Program)(env:Tr CV)(t:TypeId)(m:Operand)(k:Operand)(ok:Bool)(s:S):Option Ret:=match mapInfo P t,ev env m,ev env k with
 | some (kt,et),some mv,some key=>match oneZ P et with
  | none=>none
  | some z=>ifT (keyOk P kt key) (lookupV kt z key ok mv s)
 | _,_,_=>none
def o_mapUpdate(P:Program)(env:Tr CV)(t:TypeId)(m:Operand)(k:Operand)(x:Operand)(s:S):Option Ret:=match mapInfo P t,ev env m,ev env k,ev env x with
 | some (kt,_),some (.map r),some key,some v=>ifT (keyOk P kt key) (rd s r λob s=>match ob with
  | .map kt' es c=>bif !(Nat.beq kt' kt) then none else match findE key es 0 with
   | some (some (i,_))=>match setE i key v es with | some es'=>wr s r (some (.map kt es' c)) λs=>ok1 (.tup []) s | none=>none
   | some none=>match snoc es (key,v,c) with | some es'=>wr s r (some (.map kt es' (c+1))) λs=>ok1 (.tup []) s | none=>none
   | none=>none
  | _=>none)
 | _,_,_,_=>none
def o_mapEntry(P:Program)(env:Tr CV)(t:TypeId)(m:Operand)(k:Operand)(s:S):Option Ret:=match mapInfo P t,ev env m,ev env k with
 | some (kt,et),some (.map r),some key=>ifT (keyOk P kt key) (rd s r λob s=>match ob with
  | .map kt' es c=>bif !(Nat.beq kt' kt) then none else match findE key es 0 with
   | some (some (i,v))=>match es[i]? with
    | some (_,_,b)=>match setE i key v es with | some es'=>wr s r (some (.map kt es' c)) λs=>ok1 (.tup [v,.val (.int .i64 (.ofNat b))]) s | none=>none
    | none=>none
   | some none=>match oneZ P et with
    | some z=>match snoc es (key,z,c) with | some es'=>wr s r (some (.map kt es' (c+1))) λs=>ok1 (.tup [z,.val (.int .i64 (.ofNat c))]) s | none=>none
    | none=>none
   | none=>none
  | _=>none)
 | _,_,_=>none
def setB:Nat->CV->List (CV×CV×Nat)->Option (List (CV×CV×Nat))
 | _,_,[]=>none
 | n,v,(k,x,b)::r=>bif Nat.beq b n then some ((k,v,b)::r) else (match setB n v r with | some r'=>some ((k,x,b)::r') | none=>none)
def o_entryStore(P:Program)(env:Tr CV)(m:Operand)(k:Operand)(x:Operand)(s:S):Option Ret:=match ev env m,ev env k,ev env x with
 | some (.map r),some (.val (.int _ (.ofNat n))),some v=>rd s r λob s=>match ob with
  | .map kt es c=>match setB n v es with | some es'=>wr s r (some (.map kt es' c)) λs=>ok1 (.tup []) s | none=>none
  | _=>none
 | _,_,_=>none
def o_extract(P:Program)(env:Tr CV)(x:Operand)(i:Nat)(s:S):Option Ret:=match ev env x with
 | some (.tup xs)=>match xs[i]? with | some y=>ok1 y s | none=>none
 | _=>none
def o_typeAssert(P:Program)(env:Tr CV)(x:Operand)(t:TypeId)(ok:Bool)(s:S):Option Ret:=match P.underlying t,ev env x with
 | some (.interface _),_=>none
 | some _,some (.val .nilIface)=>bif ok then (match oneZ P t with | some z=>ok1 (.tup [z,.val (.bool false)]) s | none=>none) else none
 | some _,some (.iface u v)=>bif Nat.beq u t then ok1 (bif ok then .tup [v,.val (.bool true)] else v) s else bif ok then (match oneZ P t with | some z=>ok1 (.tup [z,.val (.bool false)]) s | none=>none) else none
 | _,_=>none
def o_len(P:Program)(env:Tr CV)(c:Call)(s:S):Option Ret:=match c.args.toList,c.argTypes.toList with
 | [x],[t]=>match P.underlying t,ev env x with
  | some (.map _ _),some (.map r)=>rd s r λob s=>match ob with | .map _ es _=>retI s .i64 (es.length:Nat) | _=>none
  | some (.map _ _),some (.val (.map none))=>retI s .i64 0
  | some (.slice _),some (.sl _ _ n _ _)=>retI s .i64 (n:Nat)
  | some (.slice _),some .e0=>retI s .i64 0
  | some (.slice _),some (.val (.slice _ n _))=>retI s .i64 (n:Nat)
  | some .string,some (.val (.string b))=>retI s .i64 (b.data.toList.length:Nat)
  | _,_=>none
 | _,_=>none
def appendZ(P:Program)(t:TypeId)(x:CV)(m:Nat)(s:S):Option Ret:=
 match elInfo P t with
 | none=>none
 | some (e,sz,by_,zs)=>match x,valL zs with
  | .sl k o n (some c) z,some cs=>bif Nat.beq z sz && Nat.blt 0 sz && Nat.beq (len cs) sz && Nat.blt c (n+m) && Nat.ble ((n+m)*by_) 140737488355328 && Nat.ble (n+m) 1000000 then
    rdRow s k o (n*sz) λold s=>match cat old (repl m cs) with
     | some all=>nw s (.row e all true) λk s=>some (.ok (.sl k 0 (n+m) none sz) s)
     | none=>none
   else none
  | _,_=>none
def o_cap(P:Program)(env:Tr CV)(c:Call)(s:S):Option Ret:=match c.args.toList,c.argTypes.toList with
 | [x],[t]=>match P.underlying t,ev env x with
  | some (.slice _),some (.sl _ _ _ (some m) _)=>retI s .i64 (m:Nat)
  | some (.slice _),some (.val (.slice _ _ m))=>retI s .i64 (m:Nat)
  | _,_=>none
 | _,_=>none
def o_append(P:Program)(env:Tr CV)(c:Call)(s:S):Option Ret:=match c.args.toList,c.argTypes.toList with
 | [x,y],[t,t']=>match P.underlying t',ev env x,ev env y with
  | some (.slice _),some a,some b=>appendV P t a b s
  | some (.int _),some a,some b=>match natOf b with | some m=>appendZ P t a m s | none=>none
  | _,_,_=>none
 | _,_=>none
def o_copy(P:Program)(env:Tr CV)(c:Call)(s:S):Option Ret:=match c.args.toList,c.argTypes.toList with
 | [x,y],[t,t']=>match ev env x,ev env y with
  | some a,some b=>copyV P t a b s
  | _,_=>none
 | _,_=>none
def o_min(P:Program)(env:Tr CV)(c:Call)(s:S):Option Ret:=match evs env c.args.toList with
 | some [.val (.int k a),.val (.int k' b)]=>retI s k (bif iLt b a then b else a)
 | _=>none
def o_max(P:Program)(env:Tr CV)(c:Call)(s:S):Option Ret:=match evs env c.args.toList with
 | some [.val (.int k a),.val (.int k' b)]=>retI s k (bif iLt a b then b else a)
 | _=>none
def o_call(P:Program)(env:Tr CV)(c:Call)(s:S):Option Ret:=match c.callee with
 | .builtin .len=>o_len P env c s
 | .builtin .append=>o_append P env c s
 | .builtin .cap=>o_cap P env c s
 | .builtin .copy=>o_copy P env c s
 | .builtin .min=>o_min P env c s
 | .builtin .max=>o_max P env c s
 | _=>none
def opV(P:Program)(env:Tr CV)(o:Op)(s:S):Option Ret:=
 match o with
 | .move x | .assign x=>o_move P env x s
 | .pick c a b=>o_pick P env c a b s
 | .alloc t=>o_alloc P env t s
 | .box t x=>o_box P env t x s
 | .build t ps=>o_build P env t ps s
 | .buildSlice t n ps=>o_buildSlice P env t n ps s
 | .load t p=>o_load P env t p s
 | .store t p x=>o_store P env t p x s
 | .nilCheck x=>o_nilCheck P env x s
 | .binOp op t x y _=>o_binOp P env op t x y s
 | .unOp op _ x=>o_unOp P env op x s
 | .convert src dst x=>o_convert P env src dst x s
 | .makeInterface t x=>o_makeInterface P env t x s
 | .makeFunc fn first caps=>o_makeFunc P env fn first caps s
 | .makeMap t none=>o_makeMap0 P env t s
 | .makeMap t (some r)=>o_makeMap1 P env t r s
 | .makeSlice t l c=>o_makeSlice P env t l c s
 | .slice t x lo hi mx=>o_slice P env t x lo hi mx s
 | .fieldAddr t x f=>o_fieldAddr P env t x f s
 | .field t x f=>o_field P env t x f s
 | .indexAddr t x i=>o_indexAddr P env t x i s
 | .index t x i=>o_index P env t x i s
 | .lookup t m k ok=>o_lookup P env t m k ok s
 | .mapUpdate t m k x | .insert t m k x=>o_mapUpdate P env t m k x s
 | .mapEntry t m k=>o_mapEntry P env t m k s
 | .entryStore _ m k x=>o_entryStore P env m k x s
 | .extract x i=>o_extract P env x i s
 | .typeAssert x _ t ok=>o_typeAssert P env x t ok s
 | .call c=>o_call P env c s
 | _=>none
end Go.Ev
