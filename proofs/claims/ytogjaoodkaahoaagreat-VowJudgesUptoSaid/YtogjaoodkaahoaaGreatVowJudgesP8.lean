/- Part 8 of the proof: contracts of functions of the program and what they need. No condition beyond those that each theorem names. -/
import Derived.Test.YtogjaoodkaahoaaGreatVowJudgesP7
set_option maxHeartbeats 1000000
set_option linter.unusedVariables false
namespace Go.Ev
open Go.Eng
inductive SD where
 | mark (k:Nat)
 | call (f:FuncId) (args caps:List CV)
 deriving Inhabited
inductive Ex where
 | normal
 | exit (id:Nat)
 | ret
 | pan (x:CV)
 deriving Inhabited
structure Fr where
 n:Nat
 env:Tr CV
 ds:List SD
 rd:Option Nat
 deriving Inhabited
structure Run where
 call:FuncId->List CV->S->Option Ret
 code:Code->Fr->S->Option (Ex×Fr×S)
 round:Nat->List CV->S->Option Ret
def app2(a b c:List CV):Option (List CV):=match cat b c with | some l=>cat a l | none=>none
def callV(r:Run)(f:CV)(args:List CV)(s:S):Option Ret:=
 match f with
 | .fn f first caps=>match app2 first args caps with | some l=>r.call f l s | none=>none
 | .yld k=>r.round k args s
 | _=>none
def methV(P:Program)(t:TypeId)(name:String):Option FuncId:=
 match P.info? t with
 | some i=>match i.methods.find? (·.name==name) with
  | some m=>match m.path.toList,m.func,P.underlying t with
   | [],some (f,true),some (.pointer _)=>some f
   | [],some (f,false),some (.pointer _)=>none
   | [],some (f,false),some _=>some f
   | _,_,_=>none
  | none=>none
 | none=>none
def stepOp(P:Program)(r:Run)(env:Tr CV)(o:Oper)(s:S):Option Ret:=
 match o.op with
 | .call c=>match c.callee with
  | .value x=>match ev env x,evs env c.args.toList with
   | some f,some xs=>callV r f xs s
   | _,_=>none
  | .invoke x name=>match ev env x,evs env c.args.toList with
   | some (.iface t v),some xs=>match methV P t name with
    | some f=>callV r (.fn f [] []) (v::xs) s
    | none=>none
   | _,_=>none
  | _=>opV P env o.op s
 | .panic x=>match ev env x with | some (.iface t v)=>some (.pan (.iface t v) s) | _=>none
 | _=>opV P env o.op s
def putE(n:Nat)(dst:Option Nat)(x:CV)(env:Tr CV):Option (Tr CV):=match dst with | none=>some env | some d=>bif Nat.blt d n then Tr.set 24 env d (some x) else none
def guardV(all:List Oper)(env:Tr CV)(o:Oper):Option Bool:=
 match o.guard with
 | none=>some true
 | some (j,want)=>match all[j]? with
  | some p=>match p.dst with
   | some d=>match env.get d with
    | some (.val (.bool true))=>some want
    | some (.val (.bool false))=>some (!want)
    | some (.tup [])=>some false
    | _=>none
   | none=>none
  | none=>none
def deferV(env:Tr CV)(c:Call):Option SD:=
 match c.callee with
 | .value x=>match ev env x,evs env c.args.toList with
  | some (.fn f first caps),some xs=>match cat first xs with | some l=>some (.call f l caps) | none=>none
  | _,_=>none
 | _=>none
def regS(P:Program)(r:Run)(all:List Oper):List Oper->Fr->S->Option (Ex×Fr×S)
 | [],fr,s=>some (.normal,fr,s)
 | o::rest,⟨n,env,ds,rr⟩,s=>match guardV all env o with
  | none=>none
  | some false=>match putE n o.dst (.tup []) env with | some env'=>regS P r all rest ⟨n,env',ds,rr⟩ s | none=>none
  | some true=>match o.op with
   | .defer c=>match rr with
    | some _=>none
    | none=>match deferV env c with
     | none=>none
     | some d=>match putE n o.dst (.tup []) env with | some env'=>regS P r all rest ⟨n,env',d::ds,rr⟩ s | none=>none
   | _=>match stepOp P r env o s with
    | none=>none
    | some (.ok x s')=>match putE n o.dst x env with | some env'=>regS P r all rest ⟨n,env',ds,rr⟩ s' | none=>none
    | some (.pan x s')=>some (.pan x,⟨n,env,ds,rr⟩,s')
structure Lg where
 i:Nat
 R:Nat
 W:Nat
def apart(m:Nat)(R W:Nat):List Lg->Bool
 | []=>true
 | ⟨j,R',W'⟩::r=>bif m.testBit j || (Nat.beq (Nat.land W (Nat.lor R' W')) 0 && Nat.beq (Nat.land R W') 0) then apart m R W r else false
def idle(m:Nat):List Lg->Bool
 | []=>true
 | ⟨j,_,W⟩::r=>bif m.testBit j || Nat.beq W 0 then idle m r else false
def wipe:List Oper->Tr CV->Option (Tr CV)
 | [],e=>some e
 | o::r,e=>match o.dst with
  | none=>wipe r e
  | some d=>match Tr.set 24 e d none with | some e'=>wipe r e' | none=>none
def isDefer:Op->Bool
 | .defer _=>true
 | _=>false
def regP(P:Program)(r:Run)(all:List Oper)(q:Nat):List Oper->Nat->List Nat->List Lg->Nat->Tr CV->S->Option Nat
 | [],_,_,_,_,_,s=>match s with | ⟨_,_,R,_⟩=>some R
 | o::rest,i,ms,lg,n,env,s=>match ms with
  | []=>none
  | m::ms=>bif m.testBit q then regP P r all q rest (i+1) ms lg n env s else match guardV all env o with
   | none=>none
   | some false=>match putE n o.dst (.tup []) env with | some env'=>regP P r all q rest (i+1) ms lg n env' s | none=>none
   | some true=>bif isDefer o.op then none else match s with
    | ⟨h,nx,R,W⟩=>match stepOp P r env o ⟨h,nx,0,0⟩ with
     | some (.ok x ⟨_,nx',R',W'⟩)=>bif apart m R' W' lg && Nat.beq W' 0 && Nat.beq nx nx' then
       (match putE n o.dst x env with
       | some env'=>fN (Nat.lor R R') λR2=>regP P r all q rest (i+1) ms (bif Nat.beq R' 0 then lg else⟨i,R',W'⟩::lg) n env' ⟨h,nx,R2,W⟩
       | none=>none) else none
     | _=>none
def regD(P:Program)(r:Run)(all:List Oper):List Oper->Nat->List Nat->List Lg->Fr->S->Option (Ex×Fr×S)
 | [],_,_,_,fr,s=>some (.normal,fr,s)
 | o::rest,i,ms,lg,⟨n,env,ds,rr⟩,s=>match ms with
  | []=>none
  | m::ms=>match guardV all env o with
   | none=>none
   | some false=>match putE n o.dst (.tup []) env with | some env'=>regD P r all rest (i+1) ms lg ⟨n,env',ds,rr⟩ s | none=>none
   | some true=>bif isDefer o.op then none else match s with
    | ⟨h,nx,R,W⟩=>match stepOp P r env o ⟨h,nx,0,0⟩ with
     | some (.ok x ⟨h',nx',R',W'⟩)=>bif apart m R' W' lg then
       (match putE n o.dst x env with
       | some env'=>fN (Nat.lor R R') λR2=>fN (Nat.lor W W') λW2=>regD P r all rest (i+1) ms (bif Nat.beq (Nat.lor R' W') 0 then lg else⟨i,R',W'⟩::lg) ⟨n,env',ds,rr⟩ ⟨h',nx',R2,W2⟩
       | none=>none) else none
     | some (.pan x ⟨h',nx',R',W'⟩)=>bif apart m R' W' lg && idle m lg then
       (fN (Nat.lor R R') λR2=>fN (Nat.lor W W') λW2=>match regP P r all i rest (i+1) ms (⟨i,R',W'⟩::lg) n env ⟨h,nx,R2,W⟩,wipe all env with
       | some R3,some env'=>some (.pan x,⟨n,env',ds,rr⟩,⟨h',nx',R3,W2⟩)
       | _,_=>none) else none
     | _=>none
structure Tm where
 i:Nat
 L:Nat
 D:Nat
def tmBits:List Nat->Nat
 | []=>0
 | t::r=>Nat.lor (Nat.shiftLeft 1 t) (tmBits r)
def dstBit:Option Nat->Nat
 | none=>0
 | some d=>Nat.shiftLeft 1 d
def tmApart(m L D:Nat):List Tm->Bool
 | []=>true
 | ⟨j,L',D'⟩::r=>bif m.testBit j || (Nat.beq (Nat.land D' (Nat.lor L D)) 0 && Nat.beq (Nat.land D L') 0) then tmApart m L D r else false
def tmOk(all:List Oper):List Oper->Nat->List Nat->List Tm->Bool
 | [],_,_,_=>true
 | o::r,i,ms,tg=>match ms with
  | []=>false
  | m::ms=>bif tmApart m (tmBits (looks all o)) (dstBit o.dst) tg && (deps o).all (λj=>Nat.blt j i) then tmOk all r (i+1) ms (⟨i,tmBits (looks all o),dstBit o.dst⟩::tg) else false
def drawOk(l:List Oper):Bool:=tmOk l l 0 (masks l []) []
def setArgs:Nat->List CV->Tr CV->Option (Tr CV)
 | _,[],e=>some e
 | i,x::r,e=>match Tr.set 24 e i (some x) with | some e'=>setArgs (i+1) r e' | none=>none
def setPs(n:Nat):List Nat->List CV->Tr CV->Option (Tr CV)
 | [],[],e=>some e
 | p::ps,x::r,e=>bif Nat.blt p n then (match Tr.set 24 e p (some x) with | some e'=>setPs n ps r e' | none=>none) else none
 | _,_,_=>none
def resV(P:Program)(env:Tr CV):List ResultVar->S->(List CV->S->Option Ret)->Option Ret
 | [],s,f=>f [] s
 | .tmp t::r,s,f=>match env.get t with | some x=>resV P env r s λl s=>f (x::l) s | none=>none
 | .cell a t::r,s,f=>match env.get a,tyInfo P t with
  | some (.ptr k o),some (true,n)=>rdRow s k o n λc s=>resV P env r s λl s=>f (.agg c::l) s
  | some (.ptr k o),some (false,_)=>rdRow s k o 1 λc s=>match c with | [x]=>resV P env r s λl s=>f (x::l) s | _=>none
  | _,_=>none
def tupV(l:List CV):CV:=match l with | [x]=>x | l=>.tup l
structure Dm where
 p:Option CV
 back:Bool
def regR(P:Program)(n:Nat)(all:List Oper):List Oper->Tr CV->Dm->S->Option (Tr CV×Dm×S)
 | [],env,m,s=>some (env,m,s)
 | o::rest,env,m,s=>match guardV all env o with
  | none=>none
  | some false=>match putE n o.dst (.tup []) env with | some env'=>regR P n all rest env' m s | none=>none
  | some true=>match o.op with
   | .call c=>match c.callee with
    | .builtin .recover=>match m with
     | ⟨some x,false⟩=>match putE n o.dst x env with | some env'=>regR P n all rest env' ⟨some x,true⟩ s | none=>none
     | m=>match putE n o.dst (.val .nilIface) env with | some env'=>regR P n all rest env' m s | none=>none
    | _=>match opV P env o.op s with
     | some (.ok x s')=>match putE n o.dst x env with | some env'=>regR P n all rest env' m s' | none=>none
     | _=>none
   | _=>match opV P env o.op s with
    | some (.ok x s')=>match putE n o.dst x env with | some env'=>regR P n all rest env' m s' | none=>none
    | _=>none
def hasRec(l:List Oper):Bool:=l.any λo=>match o.op with | .call c=>(match c.callee with | .builtin .recover=>true | _=>false) | _=>false
def codeD(P:Program)(r:Run)(n:Nat):Code->Tr CV->Dm->S->Option (Ex×Tr CV×Dm×S)
 | .seq a b,env,m,s=>match codeD P r n a env m s with
  | some (.normal,env',m',s')=>codeD P r n b env' m' s'
  | x=>x
 | .cond c a b,env,m,s=>match ev env c with
  | some (.val (.bool true))=>codeD P r n a env m s
  | some (.val (.bool false))=>codeD P r n b env m s
  | _=>none
 | .region id ops false,env,m,s=>bif hasRec ops.toList then (match regR P n ops.toList ops.toList env m s with
   | some (env',m',s')=>some (.normal,env',m',s')
   | none=>none) else (match r.code (.region id ops false) ⟨n,env,[],none⟩ s with
   | some (ex,⟨_,env',[],_⟩,s')=>some (ex,env',m,s')
   | _=>none)
 | c,env,m,s=>match r.code c ⟨n,env,[],none⟩ s with
  | some (ex,⟨_,env',[],_⟩,s')=>some (ex,env',m,s')
  | _=>none
def callD(P:Program)(r:Run)(f:FuncId)(args:List CV)(p:Option CV)(s:S):Option (Bool×S):=
 match P.funcs[f]? with
 | none=>none
 | some fn=>match fn.body,setArgs 0 args .nil with
  | some code,some env=>bif fnOk P f && Nat.ble (len args) fn.ntmps then (match codeD P r fn.ntmps code env ⟨p,false⟩ s with
   | some (.normal,env',m,s')=>match resV P env' fn.results.toList s' λl s=>some (.ok (tupV l) s) with
    | some (.ok _ s')=>some (m.back,s')
    | _=>none
   | some (.ret,env',m,s')=>match resV P env' fn.results.toList s' λl s=>some (.ok (tupV l) s) with
    | some (.ok _ s')=>some (m.back,s')
    | _=>none
   | _=>none) else none
  | _,_=>none
def leave(P:Program)(r:Run)(fn:Func)(env:Tr CV):List SD->Option CV->S->Option Ret
 | [],none,s=>resV P env fn.results.toList s λl s=>some (.ok (tupV l) s)
 | [],some x,s=>some (.pan x s)
 | .mark k::ds,p,s=>rd s k λob s=>match ob with
  | .dfr=>wr s k (some .gone) λs=>leave P r fn env ds p s
  | _=>none
 | .call f args caps::ds,p,s=>match cat args caps with
  | none=>none
  | some l=>match callD P r f l p s with
   | some (true,s')=>leave P r fn env ds none s'
   | some (false,s')=>leave P r fn env ds p s'
   | none=>none
def callN(P:Program)(r:Run)(f:FuncId)(args:List CV)(s:S):Option Ret:=
 match P.funcs[f]? with
 | none=>none
 | some fn=>match fn.body,setArgs 0 args .nil with
  | some code,some env=>bif fnOk P f && Nat.ble (len args) fn.ntmps then (match r.code code ⟨fn.ntmps,env,[],none⟩ s with
   | some (.normal,⟨_,env',ds,_⟩,s')=>leave P r fn env' ds none s'
   | some (.ret,⟨_,env',ds,_⟩,s')=>leave P r fn env' ds none s'
   | some (.pan x,⟨_,env',ds,_⟩,s')=>leave P r fn env' ds (some x) s'
   | _=>none) else none
  | _,_=>none
def roundN(P:Program)(r:Run)(k:Nat)(args:List CV)(s:S):Option Ret:=
 rd s k λob s=>match ob with
 | .loop _ _ env n ps assign body _=>match setPs n ps args env with
  | none=>none
  | some env1=>match r.code assign ⟨n,env1,[],some k⟩ s with
   | some (.normal,⟨_,env2,[],_⟩,s)=>rd s k λob s=>match ob with
    | .loop .ready pd env' n' ps' as' bo' d'=>wr s k (some (.loop .busy pd env' n' ps' as' bo' d')) λs=>match r.code body ⟨n,env2,[],some k⟩ s with
     | some (.normal,_,s)=>rd s k λob s=>match ob with
      | .loop _ _ env' n' ps' as' bo' d'=>wr s k (some (.loop .ready none env' n' ps' as' bo' d')) λs=>some (.ok (.val (.bool true)) s)
      | _=>none
     | some (.ret,_,s)=>rd s k λob s=>match ob with
      | .loop _ _ env' n' ps' as' bo' d'=>wr s k (some (.loop .done (some .ret) env' n' ps' as' bo' d')) λs=>some (.ok (.val (.bool false)) s)
      | _=>none
     | some (.exit id,_,s)=>rd s k λob s=>match ob with
      | .loop _ _ env' n' ps' as' bo' d'=>wr s k (some (.loop .done (some (.exit id)) env' n' ps' as' bo' d')) λs=>some (.ok (.val (.bool false)) s)
      | _=>none
     | _=>none
    | _=>none
   | _=>none
 | _=>none
def rangeN(P:Program)(r:Run)(g:Operand)(ps:List Nat)(assign body:Code)(fr:Fr)(s:S):Option (Ex×Fr×S):=
 match fr with
 | ⟨n,env,ds,rr⟩=>match ev env g with
  | some (.fn f first caps)=>
   let go (d:Nat) (ds':List SD) (s:S):Option (Ex×Fr×S):=
    nw s (.loop .ready none env n ps assign body d) λk s=>match app2 first [.yld k] caps with
    | none=>none
    | some l=>match r.call f l s with
     | none=>none
     | some (.pan x s)=>some (.pan x,⟨n,env,ds',rr⟩,s)
     | some (.ok _ s)=>rd s k λob s=>match ob with
      | .loop .ready none env' n' ps' as' bo' d'=>wr s k (some (.loop .exhausted none env' n' ps' as' bo' d')) λs=>some (.normal,⟨n,env,ds',rr⟩,s)
      | .loop .done (some j) env' n' ps' as' bo' d'=>wr s k (some (.loop .exhausted (some j) env' n' ps' as' bo' d')) λs=>r.code j ⟨n,env,ds',rr⟩ s
      | _=>none
   match rr with
   | none=>nw s .dfr λd s=>go d (.mark d::ds) s
   | some l=>rd s l λob s=>match ob with
    | .loop _ _ _ _ _ _ _ d=>go d ds s
    | _=>none
  | _=>none
def codeN(P:Program)(r:Run)(c:Code)(fr:Fr)(s:S):Option (Ex×Fr×S):=
 match c with
 | .skip=>some (.normal,fr,s)
 | .label _=>some (.normal,fr,s)
 | .ret=>some (.ret,fr,s)
 | .exit id=>some (.exit id,fr,s)
 | .region _ ops false=>regS P r ops.toList ops.toList fr s
 | .region _ ops true=>bif drawOk ops.toList then regD P r ops.toList ops.toList 0 (masks ops.toList []) [] fr s else none
 | .seq a b=>match r.code a fr s with
  | some (.normal,fr',s')=>r.code b fr' s'
  | x=>x
 | .cond c a b=>match ev fr.env c with
  | some (.val (.bool true))=>r.code a fr s
  | some (.val (.bool false))=>r.code b fr s
  | _=>none
 | .block id b=>match r.code b fr s with
  | some (.exit id',fr',s')=>bif Nat.beq id' id then some (.normal,fr',s') else some (.exit id',fr',s')
  | x=>x
 | .loop b=>match r.code b fr s with
  | some (.normal,fr',s')=>r.code (.loop b) fr' s'
  | x=>x
 | .scope b=>match fr.rd with
  | none=>r.code b fr s
  | some _=>none
 | .rangeFunc g ps assign body=>rangeN P r g ps.toList assign body fr s
 | _=>none
def callT(P:Program)(T:FuncId->Bool)(r:Run)(f:FuncId)(args:List CV)(s:S):Option Ret:=
 bif T f then (match args with | []=>some (.ok (.val (.bool true)) s) | _=>none) else callN P r f args s
def runT(P:Program)(T:FuncId->Bool):Nat->Run
 | 0=>⟨λ_ _ _=>none,λ_ _ _=>none,λ_ _ _=>none⟩
 | n+1=>⟨callT P T (runT P T n),codeN P (runT P T n),roundN P (runT P T n)⟩
def S0:S:=⟨.nil,0,0,0⟩
def saysT(P:Program)(T:FuncId->Bool)(n:Nat)(f:FuncId):Bool:=match (runT P T n).call f [] S0 with
 | some (.ok (.val (.bool true)) _)=>true
 | _=>false
def dropC:Nat->Code->Option Code
 | 0,c=>some c
 | n+1,.seq _ b=>dropC n b
 | _+1,_=>none
def cutR(r:Run):Nat->Code->Fr->S->Option (Fr×S)
 | 0,_,fr,s=>some (fr,s)
 | n+1,.seq a b,fr,s=>match r.code a fr s with
  | some (.normal,fr',s')=>cutR r n b fr' s'
  | _=>none
 | _+1,_,_,_=>none
def keepV:List Nat->Tr CV->Tr CV->Option (Tr CV)
 | [],_,t=>some t
 | k::r,e,t=>match e.get k with
  | some x=>match Tr.set 24 t k (some x) with | some t'=>keepV r e t' | none=>none
  | none=>none
def keepO:List Nat->Tr CO->Tr CO->Option (Tr CO)
 | [],_,t=>some t
 | k::r,e,t=>match e.get k with
  | some x=>match Tr.set 24 t k (some x) with | some t'=>keepO r e t' | none=>none
  | none=>none
def segT(P:Program)(T:FuncId->Bool)(n:Nat)(f:FuncId)(i j:Nat)(es hs:List Nat)(fr:Fr)(s:S):Option (Fr×S):=
 match P.funcs[f]? with
 | none=>none
 | some fn=>match fn.body with
  | none=>none
  | some code=>match dropC i code with
   | none=>none
   | some c=>match cutR (runT P T n) j c fr s with
    | some (⟨m,env,ds,none⟩,⟨h,nx,_,_⟩)=>match keepV es env .nil,keepO hs h .nil with
     | some e',some h'=>some (⟨m,e',ds,none⟩,⟨h',nx,0,0⟩)
     | _,_=>none
    | _=>none
def isT:Option Ret->Bool
 | some (.ok (.val (.bool true)) _)=>true
 | _=>false
def endT(P:Program)(T:FuncId->Bool)(n:Nat)(f:FuncId)(i:Nat)(fr:Fr)(s:S):Bool:=
 match P.funcs[f]? with
 | none=>false
 | some fn=>match fn.body with
  | none=>false
  | some code=>match dropC i code with
   | none=>false
   | some c=>match (runT P T n).code c fr s with
    | some (.normal,⟨_,env',ds,_⟩,s')=>isT (leave P (runT P T n) fn env' ds none s')
    | some (.ret,⟨_,env',ds,_⟩,s')=>isT (leave P (runT P T n) fn env' ds none s')
    | _=>false
def fr0(P:Program)(f:FuncId):Fr:=match P.funcs[f]? with
 | some fn=>⟨fn.ntmps,.nil,[],none⟩
 | none=>⟨0,.nil,[],none⟩
def frA(P:Program)(f:FuncId)(args:List CV):Option Fr:=match P.funcs[f]? with
 | some fn=>match setArgs 0 args .nil with | some env=>bif Nat.ble (len args) fn.ntmps then some ⟨fn.ntmps,env,[],none⟩ else none | none=>none
 | none=>none
def preG(P:Program)(T:FuncId->Bool)(n:Nat)(f:FuncId)(i k:Nat)(fr:Fr)(s:S):Option (FuncId×List CV×Fr×S):=
 match P.funcs[f]? with
 | none=>none
 | some fn=>match fn.body with
  | none=>none
  | some code=>match dropC i code with
   | some (.seq (.region _ ops false) _)=>match regS P (runT P T n) ops.toList (ops.toList.take k) fr s,ops.toList.drop k with
    | some (.normal,⟨m,env,ds,none⟩,⟨h,nx,_,_⟩),o::_=>match o.guard,o.op with
     | none,.call c=>match c.callee with
      | .value x=>match ev env x,evs env c.args.toList with
       | some (.fn g first caps),some xs=>match app2 first xs caps with | some l=>some (g,l,⟨m,env,ds,none⟩,⟨h,nx,0,0⟩) | none=>none
       | _,_=>none
      | _=>none
     | _,_=>none
    | _,_=>none
   | _=>none
def postG(P:Program)(T:FuncId->Bool)(n:Nat)(f:FuncId)(i k:Nat)(es hs:List Nat)(fr:Fr)(x:CV)(s:S):Option (Fr×S):=
 match P.funcs[f]? with
 | none=>none
 | some fn=>match fn.body with
  | none=>none
  | some code=>match dropC i code with
   | some (.seq (.region _ ops false) _)=>match ops.toList.drop k with
    | o::rest=>match putE fr.n o.dst x fr.env with
     | some env=>match regS P (runT P T n) ops.toList rest ⟨fr.n,env,fr.ds,none⟩ s with
      | some (.normal,⟨m,env,ds,none⟩,⟨h,nx,_,_⟩)=>match keepV es env .nil,keepO hs h .nil with
       | some e',some h'=>some (⟨m,e',ds,none⟩,⟨h',nx,0,0⟩)
       | _,_=>none
      | _=>none
     | none=>none
    | []=>none
   | _=>none
def pruneR(hs:List Nat):Option Ret->Option (CV×S)
 | some (.ok x ⟨h,nx,_,_⟩)=>match keepO hs h .nil with | some h'=>some (x,⟨h',nx,0,0⟩) | none=>none
 | _=>none
def endG(P:Program)(T:FuncId->Bool)(n:Nat)(f:FuncId)(i:Nat)(hs:List Nat)(fr:Fr)(s:S):Option (CV×S):=
 match P.funcs[f]? with
 | none=>none
 | some fn=>match fn.body with
  | none=>none
  | some code=>match dropC i code with
   | none=>none
   | some c=>match (runT P T n).code c fr s with
    | some (.normal,⟨_,env',ds,_⟩,s')=>pruneR hs (leave P (runT P T n) fn env' ds none s')
    | some (.ret,⟨_,env',ds,_⟩,s')=>pruneR hs (leave P (runT P T n) fn env' ds none s')
    | _=>none
end Go.Ev
