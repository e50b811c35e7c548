/- Part 13 of the proof: contracts of functions of the program and what they need. No condition beyond those that each theorem names. -/
import Derived.Test.YtogjaoodkaahoaaGreatVowJudgesP12
set_option maxHeartbeats 1000000
set_option linter.unusedVariables false
namespace Go.Eng
abbrev AV.ints(l:List Int):AV:=.sl 1 (l.map λn=>[AV.i n])
abbrev AV.intss(l:List (List Int)):AV:=.sl 1 (l.map λx=>[AV.ints x])
theorem retB{a b:Bool}(h:a=b):tupOf [AV.b a]=AV.b b:=by subst h;rfl
theorem retI{a b:Int}(h:a=b):tupOf [AV.i a]=AV.i b:=by subst h;rfl
theorem retX{x y:AV}(h:x=y):tupOf [x]=y:=h
theorem bv64(n:Nat)(h:n<18446744073709551616):(BitVec.ofInt IntKind.u64.bits (n:Int)).toNat=n:=by
 simp[IntKind.bits];omega
theorem u64_wrap(n:Nat)(h:n<18446744073709551616):IntKind.u64.wrap (n:Int)=n:=by
 simp only[IntKind.wrap,IntKind.bits,IntKind.signed];simp;omega
theorem bit_or(s t:Nat)(hs:s<18446744073709551616)(ht:t<18446744073709551616):bitI .or .u64 (s:Int) (t:Int)=some ((s ||| t:Nat):Int):=by
 show some (IntKind.u64.wrap _)=_;rw[BitVec.toNat_or,bv64 s hs,bv64 t ht,u64_wrap _ (Nat.or_lt_two_pow (n:=64) hs ht)]
theorem bit_and(s t:Nat)(hs:s<18446744073709551616)(ht:t<18446744073709551616):bitI .and .u64 (s:Int) (t:Int)=some ((s &&& t:Nat):Int):=by
 show some (IntKind.u64.wrap _)=_;rw[BitVec.toNat_and,bv64 s hs,bv64 t ht,u64_wrap _ (Nat.lt_of_le_of_lt Nat.and_le_left hs)]
theorem sh_right(s:Nat)(c:Int):shI .shr .u64 (s:Int) c=some ((s / 2^min c.toNat 64:Nat):Int):=by
 show some ((s:Int).fdiv (2^(min c.toNat 64)))=_;congr 1;have:((2:Int)^min c.toNat 64)=((2^min c.toNat 64:Nat):Int):=by simp
 rw[this];exact (Int.ofNat_fdiv _ _).symm
theorem sh_left(c:Int)(h:0<=c/\c<64):shI .shl .u64 1 c=some ((2^c.toNat:Nat):Int):=by
 show some (IntKind.u64.wrap _)=_;have e:min c.toNat IntKind.u64.bits=c.toNat:=Nat.min_eq_left (by simp[IntKind.bits];omega);have h2:(1:Int)*2^(min c.toNat IntKind.u64.bits)=((2^c.toNat:Nat):Int):=by rw[e];simp
 rw[h2,u64_wrap _ (Nat.pow_lt_pow_right (a:=2) (n:=64) Yb Yb)]
theorem has_bit(s:Nat)(c:Int)(hs:s<18446744073709551616):((((s / 2^min c.toNat 64) &&& 1:Nat):Int)==1)=s.testBit c.toNat:=by
 rw[Nat.and_one_is_mod];have key:s.testBit c.toNat=decide (s / 2^min c.toNat 64%2=1):=by
  by_cases h:c.toNat<=64
  ·rw[Nat.min_eq_left h,Nat.testBit_eq_decide_div_mod_eq]
  ·rw[Nat.min_eq_right Yb,Nat.testBit_lt_two_pow (Nat.lt_of_lt_of_le hs (Nat.pow_le_pow_right (n:=2) (i:=64) Yb Yb))];rw[Nat.div_eq_of_lt Yb];simp
 rw[key];rcases Nat.mod_two_eq_zero_or_one (s / 2^min c.toNat 64) with h | h <;> rw[h] <;> rfl
namespace Fc
inductive Fact where
 | mk (op arg:Int) (path:List Int) (cls n:Int) (kids:List Fact)
def Fact.op:Fact->Int | .mk x _ _ _ _ _=>x
def Fact.arg:Fact->Int | .mk _ x _ _ _ _=>x
def Fact.path:Fact->List Int | .mk _ _ x _ _ _=>x
def Fact.cls:Fact->Int | .mk _ _ _ x _ _=>x
def Fact.n:Fact->Int | .mk _ _ _ _ x _=>x
def Fact.kids:Fact->List Fact | .mk _ _ _ _ _ x=>x
instance:Inhabited Fact:=⟨.mk 0 0 [] 0 0 []⟩
mutual
def encF:Fact->List AV
 | .mk op arg path cls n kids=>[.i op,.i arg,AV.ints path,.i cls,.i n,.sl 6 (encFs kids)]
def encFs:List Fact->List (List AV)
 | []=>[]
 | f::r=>encF f::encFs r
end
def Fcells(f:Fact):List AV:=[.i f.op,.i f.arg,AV.ints f.path,.i f.cls,.i f.n,.sl 6 (encFs f.kids)]
theorem encF_eq(f:Fact):encF f=Fcells f:=by cases f;rfl
theorem encFs_map:∀l:List Fact,encFs l=l.map Fcells
 | []=>rfl
 | f::r=>by rw[encFs,encF_eq,encFs_map r];rfl
instance:MapLike encFs Fcells:=⟨encFs_map⟩
abbrev AV.facts(l:List Fact):AV:=.sl 6 (encFs l)
theorem AVle_facts{els:List (List AV)}(l:List Fact)(h:els=l.map Fcells):AVle (.sl 6 els) (AV.facts l):=by subst h;rw[<-encFs_map];exact .refl _
abbrev AV.fact(f:Fact):AV:=.agg (Fcells f)
mutual
def Fact.eqb:Fact->Fact->Bool
 | .mk a b c d e f,.mk a' b' c' d' e' f'=>a==a' && b==b' && d==d' && e==e' && c==c' && Fact.eqbs f f'
def Fact.eqbs:List Fact->List Fact->Bool
 | [],[]=>true
 | x::r,y::s=>Fact.eqb x y && Fact.eqbs r s
 | _,_=>false
end
mutual
theorem Fact.eqb_iff:∀x y:Fact,Fact.eqb x y=true↔x=y
 | .mk a b c d e f,.mk a' b' c' d' e' f'=>by
  rw[Fact.eqb];simp only[Bool.and_eq_true,beq_iff_eq,Fact.eqbs_iff f f',Fact.mk.injEq];constructor
  ·rintro⟨⟨⟨⟨⟨h1,h2⟩,h3⟩,h4⟩,h5⟩,h6⟩;exact⟨h1,h2,h5,h3,h4,h6⟩
  ·rintro⟨h1,h2,h5,h3,h4,h6⟩;exact⟨⟨⟨⟨⟨h1,h2⟩,h3⟩,h4⟩,h5⟩,h6⟩
theorem Fact.eqbs_iff:∀x y:List Fact,Fact.eqbs x y=true↔x=y
 | [],[]=>by simp[Fact.eqbs]
 | [],_::_=>by simp[Fact.eqbs]
 | _::_,[]=>by simp[Fact.eqbs]
 | x::r,y::s=>by
  rw[Fact.eqbs];simp only[Bool.and_eq_true,Fact.eqb_iff x y,Fact.eqbs_iff r s,List.cons.injEq]
end
instance:BEq Fact:=⟨Fact.eqb⟩
instance:LawfulBEq Fact where
 eq_of_beq h:=(Fact.eqb_iff _ _).1 h
 rfl:=(Fact.eqb_iff _ _).2 rfl
instance:DecidableEq Fact:=λa b=>if h:Fact.eqb a b=true then isTrue ((Fact.eqb_iff a b).1 h) else isFalse λe=>h ((Fact.eqb_iff a b).2 e)
theorem Fact.ext'{x y:Fact}(h1:x.op=y.op)(h2:x.arg=y.arg)(h3:x.path=y.path)(h4:x.cls=y.cls)(h5:x.n=y.n)(h6:x.kids=y.kids):x=y:=by
 cases x;cases y;simp only[Fact.op,Fact.arg,Fact.path,Fact.cls,Fact.n,Fact.kids] at*;subst_vars;rfl
mutual
theorem Fact.ind1{P:Fact->Prop}(h:∀f,(∀k∈f.kids,P k)->P f):∀f,P f
 | .mk a b c d e f=>h _ (Fact.ind2 h f)
theorem Fact.ind2{P:Fact->Prop}(h:∀f,(∀k∈f.kids,P k)->P f):∀l:List Fact,∀k∈l,P k
 | [],_,hk=>by cases hk
 | x::r,k,hk=>by
  rcases List.mem_cons.1 hk with e | hk
  ·rw[e];exact Fact.ind1 h x
  ·exact Fact.ind2 h r k hk
end
structure FLit where
 f:Fact
 neg:Bool
def Lcells(l:FLit):List AV:=[.i l.f.op,.i l.f.arg,AV.ints l.f.path,.i l.f.cls,.i l.f.n,.sl 6 (encFs l.f.kids),.b l.neg]
instance:Inhabited FLit:=⟨default,false⟩
abbrev AV.lit(l:FLit):AV:=.agg (Lcells l)
structure FW where
 parents:List (List Int)
 owner:List Int
def Wcells(w:FW):List AV:=[AV.intss w.parents,AV.ints w.owner]
abbrev AV.set(s:Nat):AV:=.val (.int .u64 (s:Int))
def ownP(w:FW)(c:Int):Bool:=decide (3<=c) && decide (c<3+w.parents.length)
def classP(w:FW)(c:Int):Bool:=decide (0<=c) && decide (c<3+w.parents.length)
def slotP(w:FW)(s:Int):Bool:=decide (0<=s) && decide (s<w.owner.length)
def upFold(U:List Nat)(i:Nat)(l:List Int):Nat:=l.foldl (λs p=>s ||| U.getD p.toNat 0) (1 ||| 2^(3+i))
def upsFrom:List (List Int)->Nat->List Nat->List Nat
 | [],_,U=>U
 | l::r,i,U=>upsFrom r (i+1) (U.set (3+i) (upFold U i l))
def upsP(w:FW):List Nat:=upsFrom w.parents 0 ([1,3,5]++List.replicate 60 0)
def parentsP(i:Nat):List Int->List Int->Bool
 | _,[]=>true
 | seen,p::r=>!(decide (p<3) || decide (p>=3+i) || seen.contains p) && parentsP i (seen++[p]) r
def parentssP:Nat->List (List Int)->Bool
 | _,[]=>true
 | i,l::r=>parentsP i [] l && parentssP (i+1) r
def worldP(w:FW):Bool:=decide (w.parents.length<=60) && decide (w.owner.length<=40) && parentssP 0 w.parents && w.owner.all (ownP w)
def Wptr(w:FW):AV:=.ptr (Wcells w++(upsP w).map λs=>AV.set s)
abbrev AV.world(w:FW):AV:=.agg (Wcells w)
def kidsP(op:Int):Int:=if op=5 then 1 else if op=6\/op=7 then 2 else 0
def leafP(f:Fact):Bool:=decide (2<=f.op) && decide (f.op<=4)
def pathP(w:FW)(l:List Int):Bool:=decide (l.length<=2) && l.all (slotP w)
def badP(f:Fact)(left deep:Int):Bool:=decide (left<0) || (deep==0) || decide (f.op<1) || decide (f.op>7) || ((f.kids.length:Int) !=kidsP f.op)
def plainP(f:Fact):Bool:=!((f.arg !=0) || decide ((f.path.length:Int)>0) || (f.cls !=0) || (f.n !=0))
def argP(w:FW)(f:Fact):Bool:=!(decide (f.arg<0) || decide (f.arg>=3) || !pathP w f.path)
def leafOkP(w:FW)(f:Fact):Bool:=if f.op=2 then (f.n==0) && classP w f.cls else (f.cls==0) && decide (f.n>= -1000000000) && decide (f.n<=1000000000)
mutual
def nodeP(w:FW):Fact->Int->Int->Bool×Int
 | .mk op arg path cls n kids,left,deep=>
  if badP (.mk op arg path cls n kids) (left - 1) deep then (false,left - 1)
  else if leafP (.mk op arg path cls n kids) then (argP w (.mk op arg path cls n kids) && leafOkP w (.mk op arg path cls n kids),left - 1)
  else if plainP (.mk op arg path cls n kids) then nodesP w kids (left - 1) (deep - 1)
  else (false,left - 1)
def nodesP(w:FW):List Fact->Int->Int->Bool×Int
 | [],left,_=>(true,left)
 | k::r,left,deep=>if(nodeP w k left deep).1 then nodesP w r (nodeP w k left deep).2 deep else nodeP w k left deep
end
theorem nodeP_eq(w:FW)(f:Fact)(left deep:Int):nodeP w f left deep=if badP f (left - 1) deep then (false,left - 1) else if leafP f then (argP w f && leafOkP w f,left - 1) else if plainP f then nodesP w f.kids (left - 1) (deep - 1) else (false,left - 1):=by
 cases f;rw[nodeP];rfl
def formedP(w:FW)(f:Fact):Bool:=(nodeP w f 24 12).1
theorem nodesP_snoc(w:FW)(deep:Int)(x:Fact):∀(l:List Fact) (left:Int),(nodesP w l left deep).1=true->nodesP w (l++[x]) left deep=nodeP w x (nodesP w l left deep).2 deep
 | [],left,h=>by
  show nodesP w [x] left deep=_;rw[nodesP,nodesP,nodesP];by_cases hx:(nodeP w x left deep).1=true
  ·rw[if_pos hx];exact Prod.ext hx.symm rfl
  ·rw[if_neg hx]
 | k::r,left,h=>by
  rw[nodesP] at h;show nodesP w (k::(r++[x])) left deep=_;rw[nodesP];by_cases hk:(nodeP w k left deep).1=true
  ·rw[if_pos hk] at h;rw[if_pos hk,nodesP_snoc w deep x r _ h,nodesP,if_pos hk]
  ·rw[if_neg hk] at h;exact absurd h hk
theorem nodesP_stop(w:FW)(deep:Int)(y:List Fact):∀(l:List Fact) (left:Int),(nodesP w l left deep).1=false->nodesP w (l++y) left deep=nodesP w l left deep
 | [],left,h=>by rw[nodesP] at h;cases h
 | k::r,left,h=>by
  rw[nodesP] at h;show nodesP w (k::(r++y)) left deep=_;rw[nodesP,nodesP];by_cases hk:(nodeP w k left deep).1=true
  ·rw[if_pos hk] at h;rw[if_pos hk,if_pos hk,nodesP_stop w deep y r _ h]
  ·rw[if_neg hk,if_neg hk]
mutual
theorem nodeP_left(w:FW):∀(f:Fact) (left deep:Int),(nodeP w f left deep).2<=left/\((nodeP w f left deep).1=true->0<=(nodeP w f left deep).2)
 | .mk op arg path cls n kids,left,deep=>by
  rw[nodeP];by_cases h1:badP (.mk op arg path cls n kids) (left - 1) deep=true
  ·rw[if_pos h1];exact⟨YB,Yn⟩
  ·rw[if_neg h1];have hl: ¬(left - 1<0):=by
    intro h;apply h1;simp[badP,h]
   by_cases h2:leafP (.mk op arg path cls n kids)=true
   ·rw[if_pos h2];exact⟨YB,λ_=>by simp;omega⟩
   ·rw[if_neg h2];by_cases h3:plainP (.mk op arg path cls n kids)=true
    ·rw[if_pos h3];have:=nodesP_left w kids (left - 1) (deep - 1) Yb;exact⟨Yb,this.2⟩
    ·rw[if_neg h3];exact⟨YB,Yn⟩
theorem nodesP_left(w:FW):∀(l:List Fact) (left deep:Int),0<=left->(nodesP w l left deep).2<=left/\((nodesP w l left deep).1=true->0<=(nodesP w l left deep).2)
 | [],left,deep,h=>by rw[nodesP];exact⟨Yn,λ_=>h⟩
 | k::r,left,deep,h=>by
  rw[nodesP];have hk:=nodeP_left w k left deep;by_cases h1:(nodeP w k left deep).1=true
  ·rw[if_pos h1];have hr:=nodesP_left w r (nodeP w k left deep).2 deep (hk.2 h1);exact⟨Yb,hr.2⟩
  ·rw[if_neg h1];exact hk
end
end Fc
end Go.Eng

namespace Go.Eng
theorem AVle.eqI{a b:Int}(h:a=b):AVle (.i a) (.i b):=by subst h;exact .refl _
end Go.Eng
namespace Go.Eng.Bd
open Go.Eng.Fc
variable{i k:Nat}{α:Type}{l L out M:List Int}{v h:Int}{p:Int->Bool}{A r g:List (List Int)}
structure Cls where
 parents:List Int
 slots:List Int
 inits:List (Int×Int)
structure Mth where
 kind:Int
 gen:Int
 fact:Fact
 node:Int
structure Nd where
 op:Int
 n:Int
 kids:List Int
structure Prog where
 classes:List Cls
 slots:Int
 gens:List Int
 methods:List Mth
 nodes:List Nd
 main:Int
instance:Inhabited Cls:=⟨⟨[],[],[]⟩⟩
instance:Inhabited Mth:=⟨⟨0,0,default,0⟩⟩
instance:Inhabited Nd:=⟨⟨0,0,[]⟩⟩
abbrev initA(x:Int×Int):List AV:=[.i x.1,.i x.2]
abbrev clsA(c:Cls):List AV:=[AV.ints c.parents,AV.ints c.slots,.sl 2 (c.inits.map initA)]
abbrev mthA(m:Mth):List AV:=[.i m.kind,.i m.gen]++Fcells m.fact++[.i m.node]
abbrev ndA(x:Nd):List AV:=[.i x.op,.i x.n,AV.ints x.kids]
abbrev progC(p:Prog):List AV:=[.sl 3 (p.classes.map clsA),.i p.slots,AV.ints p.gens,.sl 9 (p.methods.map mthA),.sl 3 (p.nodes.map ndA),.i p.main]
abbrev AV.prog(p:Prog):AV:=.agg (progC p)
abbrev AV.cls(c:Cls):AV:=.agg (clsA c)
abbrev AV.nd(x:Nd):AV:=.agg (ndA x)
def graphP(p:Prog):List (List Int):=p.classes.map (·.parents)
def fineL(i:Nat)(seen:List Int):List Int->Bool
 | []=>true
 | x::r=>!(decide (x<3) || decide (x>=3+i) || seen.contains x) && fineL i (seen++[x]) r
def fineG(i:Nat):List (List Int)->Bool
 | []=>true
 | l::r=>decide (l.length<=3) && fineL i [] l && fineG (i+1) r
def fineP(g:List (List Int)):Bool:=decide (g.length<=16) && fineG 0 g
def headOk(all:List (List Int))(h:Int):Bool:=!(all.any λm=>m.tail.contains h)
def nextH(all:List (List Int)):List (List Int)->Option Int
 | []=>none
 | []::r=>nextH all r
 | (h::_)::r=>if headOk all h then some h else nextH all r
def dropH(h:Int)(all:List (List Int)):List (List Int):=all.map λl=>l.filter (· !=h)
def mergeN:Nat->List (List Int)->List Int->List Int×Bool
 | 0,_,out=>(out,false)
 | n+1,all,out=>match nextH all all with
  | some h=>mergeN n (dropH h all) (out++[h])
  | none=>(out,all.all List.isEmpty)
def total(all:List (List Int)):Nat:=(all.map List.length).sum
def mergeP(all:List (List Int)):List Int×Bool:=mergeN (total all+1) all []
def bareL(l:List Int):List Int:=l.filter (· !=0)
def listsP(orders:List (List Int))(ps:List Int):Option (List (List Int)):=
 if ps.any (λp=>(orders.getD p.toNat []).isEmpty) then none else some (ps.map (λp=>bareL (orders.getD p.toNat []))++[ps])
def orderP(orders:List (List Int))(c:Nat)(ps:List Int):List Int:=
 if c=0 then [0] else match listsP orders ps with
  | none=>[]
  | some all=>let m:=mergeP all;if m.2 then (c:Int)::(m.1++[0]) else []
def parsOf(g:List (List Int)):List (List Int):=[[],[],[]]++g
def ordersN:List (List Int)->Nat->List (List Int)->List (List Int)
 | [],_,out=>out
 | ps::r,c,out=>ordersN r (c+1) (out++[orderP out c ps])
def ordersP(g:List (List Int)):List (List Int):=ordersN (parsOf g) 0 []
def linP(g:List (List Int))(c:Int):List Int:=(ordersP g).getD c.toNat []
def ownersN:List Cls->Nat->List Int
 | [],_=>[]
 | c::r,i=>List.replicate c.slots.length ((i:Int)+3)++ownersN r (i+1)
def worldOf(p:Prog):Fc.FW:=⟨graphP p,ownersN p.classes 0⟩
def ownT(cs:List Cls)(i k:Nat):List Int:=ownersN (cs.take i) 0++List.replicate k ((i:Int)+3)
theorem ownersN_snoc(x:Cls):∀(cs:List Cls) (i:Nat),ownersN (cs++[x]) i=ownersN cs i++List.replicate x.slots.length (((i+cs.length:Nat):Int)+3)
 | [],i=>by simp[ownersN]
 | c::r,i=>by
  rw[List.cons_append,ownersN,ownersN,ownersN_snoc x r (i+1),List.append_assoc,List.length_cons];congr 3;omega
theorem ownersN_len:∀(cs:List Cls) (i:Nat),(∀c∈cs,c.slots.length<=1000)->(ownersN cs i).length<=1000*cs.length
 | [],i,h=>by simp[ownersN]
 | c::r,i,h=>by
  have h1:=ownersN_len r (i+1) λx hx=>h x (.tail _ hx);have h2:=h c (.head _);rw[ownersN,List.length_append,List.length_replicate,List.length_cons];omega
theorem ownT_len{cs:List Cls}(k:Nat)(h:∀c∈cs,c.slots.length<=1000):(ownT cs i k).length<=1000*cs.length+k:=by
 have:=ownersN_len (cs.take i) 0 λc hc=>h c (List.mem_of_mem_take hc);have h2:(cs.take i).length<=cs.length:=by rw[List.length_take];omega
 rw[ownT,List.length_append,List.length_replicate];have:1000*(cs.take i).length<=1000*cs.length:=Nat.mul_le_mul_left _ h2;omega
theorem ownT_snoc(cs:List Cls)(i k:Nat):AV.ints (ownT cs i (k+1))= .sl 1 (((ownT cs i k).map λn=>[AV.i n])++[[AV.i ((i:Int)+3)]]):=by
 rw[ownT,List.replicate_succ', <-List.append_assoc];show AV.sl 1 (List.map _ (_++_))=_;rw[List.map_append];rfl
theorem ownT_all(cs:List Cls):ownT cs cs.length 0=ownersN cs 0:=by simp[ownT]
theorem take_getD[Inhabited α]{l:List α}{k:Nat}(h:k<l.length):l.take k++[l.getD k default]=l.take (k+1):=by
 rw[List.take_succ_eq_append_getElem h,List.getD_eq_getElem?_getD,List.getElem?_eq_getElem h];rfl
theorem split_getD[Inhabited α]{l:List α}{k:Nat}(h:k<l.length):l=l.take k++l.getD k default::l.drop (k+1):=by
 rw[List.getD_eq_getElem?_getD,List.getElem?_eq_getElem h];simp
def idxB(l:List Int)(v:Int):Int:=match l.findIdx? (λx=>x==v) with | some i=>(i:Int) | none=>-1
theorem idxB_at(hk:k<l.length)(hp:∀x∈l.take k,x≠v)(h:v=l.getD k default):(k:Int)=idxB l v:=by
 have e:l.findIdx? (λx=>x==v)=some k:=by
  rw[List.findIdx?_eq_some_iff_getElem];refine⟨hk,?_,λj hj=>?_⟩
  ·rw[h,List.getD_eq_getElem?_getD,List.getElem?_eq_getElem hk];simp
  ·have:=hp (l[j]'Yb) Yae;simpa using this
 rw[idxB,e]
theorem idxB_none(hp:∀x∈l,x≠v):(-1:Int)=idxB l v:=by
 have e:l.findIdx? (λx=>x==v)=none:=by
  rw[List.findIdx?_eq_none_iff];intro x hx;simpa using hp x hx
 rw[idxB,e]
theorem idxB_contains(l:List Int)(v:Int):decide (idxB l v>=0)=l.contains v:=by
 unfold idxB;cases h:l.findIdx? (λx=>x==v) with
 | none=>
  rw[List.findIdx?_eq_none_iff] at h;symm;simp;intro hx;have:=h v hx;simp at this
 | some i=>
  rw[List.findIdx?_eq_some_iff_getElem] at h;obtain⟨hi,h1,_⟩:=h;symm;simp;have:l[i]=v:=by simpa using h1
  rw[<-this];exact List.getElem_mem hi
theorem ne_step(hk:k<l.length)(hp:∀x∈l.take k,x≠v)(h:v≠l.getD k default):∀x∈l.take (k+1),x≠v:=by
 rw[<-take_getD hk];intro x hx;rcases List.mem_append.1 hx with hx | hx
 ·exact hp x hx
 ·simp at hx;rw[hx];intro e;apply h;simp[e]
theorem fineL_take(i:Nat):∀(l seen:List Int) (k:Nat),k<l.length->fineL i seen (l.take (k+1))=(fineL i seen (l.take k) && !(decide (l.getD k default<3) || decide (l.getD k default>=3+i) || (seen++l.take k).contains (l.getD k default)))
 | [],seen,k,h=>by simp at h
 | x::r,seen,0,h=>by simp[fineL]
 | x::r,seen,k+1,h=>by
  have:=fineL_take i r (seen++[x]) k YN;simp only[List.take_succ_cons,fineL,List.getD_cons_succ];rw[this,List.append_assoc,List.singleton_append,Bool.and_assoc]
theorem fineL_all(i:Nat):∀(l seen:List Int) (k:Nat),fineL i seen l=true->fineL i seen (l.take k)=true
 | [],seen,k,h=>by simpa using h
 | x::r,seen,0,h=>rfl
 | x::r,seen,k+1,h=>by
  simp only[List.take_succ_cons,fineL,Bool.and_eq_true] at h ⊢;exact⟨h.1,fineL_all i r _ k h.2⟩
theorem fineG_take:∀(g:List (List Int)) (i k:Nat),k<g.length->fineG i (g.take (k+1))=(fineG i (g.take k) && (decide ((g.getD k default).length<=3) && fineL (i+k) [] (g.getD k default)))
 | [],i,k,h=>by simp at h
 | l::r,i,0,h=>by simp[fineG]
 | l::r,i,k+1,h=>by
  have:=fineG_take r (i+1) k YN;simp only[List.take_succ_cons,fineG,List.getD_cons_succ];rw[this,show i+1+k=i+(k+1) by omega];simp only[Bool.and_assoc]
theorem fineG_all:∀(g:List (List Int)) (i k:Nat),fineG i g=true->fineG i (g.take k)=true
 | [],i,k,h=>by simpa using h
 | l::r,i,0,h=>rfl
 | l::r,i,k+1,h=>by
  simp only[List.take_succ_cons,fineG,Bool.and_eq_true] at h ⊢;exact⟨h.1,fineG_all r _ k h.2⟩
theorem no_take{f:List α->Bool}{l:List α}(k:Nat)(hall:∀k,f l=true->f (l.take k)=true)(h:f (l.take k)=false):f l=false:=by
 cases hf:f l with
 | false=>rfl
 | true=>rw[hall k hf] at h;cases h
theorem one_ints(l:List Int):(l.map λn=>[AV.i n]).all allOne=true:=by
 rw[List.all_eq_true];intro x hx;obtain⟨a,_,rfl⟩:=List.mem_map.1 hx;rfl
theorem one_intss(l:List (List Int)):(l.map λx=>[AV.ints x]).all allOne=true:=by
 rw[List.all_eq_true];intro x hx;obtain⟨a,_,rfl⟩:=List.mem_map.1 hx;rfl
def argB(f:Fact):Int:=if f.op=2\/f.op=3\/f.op=4 then f.arg+1 else 0
mutual
def smallA:Fact->Bool
 | .mk op arg path cls n kids=>decide (-1000000<=argB (.mk op arg path cls n kids)) && decide (argB (.mk op arg path cls n kids)<=1000000) && smallAs kids
def smallAs:List Fact->Bool
 | []=>true
 | k::r=>smallA k && smallAs r
end
theorem intss_snoc{cs:List Cls}(h:i<cs.length):AV.intss ((cs.take (i+1)).map (·.parents))= .sl 1 ((((cs.take i).map (·.parents)).map λx=>[AV.ints x])++[[AV.ints (cs.getD i default).parents]]):=by
 rw[<-take_getD h,List.map_append];show AV.sl 1 (List.map _ (_++_))=_;rw[List.map_append];rfl
theorem ownT_next{cs:List Cls}(h:i<cs.length):ownT cs (i+1) 0=ownT cs i (cs.getD i default).slots.length:=by
 rw[ownT, <-take_getD h,ownersN_snoc,ownT,List.length_take,Nat.min_eq_left Yb,Nat.zero_add];simp
theorem filter_yes(h:i<l.length)(hp:p (l.getD i default)=true):AV.ints ((l.take (i+1)).filter p)= .sl 1 ((((l.take i).filter p).map λn=>[AV.i n])++[[AV.i (l.getD i default)]]):=by
 rw[<-take_getD h,List.filter_append];show AV.sl 1 (List.map _ (_++List.filter p [_]))=_;rw[List.map_append,List.filter_cons,if_pos hp];rfl
theorem filter_no(h:i<l.length)(hp:p (l.getD i default)=false):AV.ints ((l.take (i+1)).filter p)=AV.ints ((l.take i).filter p):=by
 rw[<-take_getD h,List.filter_append,List.filter_cons,if_neg (by rw[hp];simp),List.filter_nil,List.append_nil]
theorem getD_memB[Inhabited α]{l:List α}{k:Nat}(h:k<l.length):l.getD k default∈l:=by
 rw[List.getD_eq_getElem?_getD,List.getElem?_eq_getElem h];simp
theorem drop_getD[Inhabited α]{l:List α}{i:Nat}(h:i<l.length):l.drop i=l.getD i default::l.drop (i+1):=by
 rw[List.drop_eq_getElem_cons h,List.getD_eq_getElem?_getD,List.getElem?_eq_getElem h];rfl
theorem all_takeB[Inhabited α]{l:List α}{i:Nat}{p:α->Bool}(h:i<l.length):(l.take (i+1)).all p=((l.take i).all p && p (l.getD i default)):=by
 rw[<-take_getD h,List.all_append];simp
theorem any_takeB[Inhabited α]{l:List α}{i:Nat}{p:α->Bool}(h:i<l.length):(l.take (i+1)).any p=((l.take i).any p || p (l.getD i default)):=by
 rw[<-take_getD h,List.any_append];simp
theorem next_nil(h:L= []):nextH A (L::r)=nextH A r:=by subst h;rfl
theorem next_no(h0:0<L.length)(h:headOk A (L.getD 0 default)=false):nextH A (L::r)=nextH A r:=by
 cases L with
 | nil=>simp at h0
 | cons x t=>rw[nextH,if_neg (by rw[show x=(x::t).getD 0 default from rfl,h];simp)]
theorem next_yes(h0:0<L.length)(h:headOk A (L.getD 0 default)=true):nextH A (L::r)=some (L.getD 0 default):=by
 cases L with
 | nil=>simp at h0
 | cons x t=>rw[nextH,if_pos (by rw[show x=(x::t).getD 0 default from rfl,h])];rfl
theorem total_cons(l:List Int)(r:List (List Int)):total (l::r)=l.length+total r:=by simp[total]
theorem total_dropH(h:Int):∀A:List (List Int),total (dropH h A)<=total A
 | []=>by simp[dropH,total]
 | l::r=>by
  have h1:=total_dropH h r;have h2:=List.length_filter_le (· !=h) l;show total (l.filter (· !=h)::dropH h r)<=_;rw[total_cons,total_cons];omega
theorem total_lt(h:Int):∀(A:List (List Int)) (i:Nat),i<A.length->h∈A.getD i default->total (dropH h A)<total A
 | [],i,hi,_=>by simp at hi
 | l::r,0,_,hm=>by
  have h1:=total_dropH h r;have h2:(l.filter (· !=h)).length<l.length:=by
   rcases Nat.lt_or_ge (l.filter (· !=h)).length l.length with h3 | h3
   ·exact h3
   ·have e:l.filter (· !=h)=l:=List.Sublist.eq_of_length_le (List.filter_sublist) h3;rw[List.filter_eq_self] at e;have:=e h (by simpa using hm);simp at this
  show total (l.filter (· !=h)::dropH h r)<_;rw[total_cons,total_cons];omega
 | l::r,i+1,hi,hm=>by
  have h1:=total_lt h r i (by simpa using hi) (by simpa using hm);have h2:=List.length_filter_le (· !=h) l;show total (l.filter (· !=h)::dropH h r)<_;rw[total_cons,total_cons];omega
theorem len_total:∀(A:List (List Int)) (i:Nat),i<A.length->(A.getD i default).length<=total A
 | [],i,hi=>by simp at hi
 | l::r,0,_=>by rw[total_cons];simp
 | l::r,i+1,hi=>by
  have h1:=len_total r i (by simpa using hi);rw[total_cons,List.getD_cons_succ];omega
theorem dropH_len(h:Int)(A:List (List Int)):(dropH h A).length=A.length:=by simp[dropH]
theorem dropH_snoc(h:Int)(hk:k<A.length):AV.intss (dropH h (A.take (k+1)))= .sl 1 (((dropH h (A.take k)).map λx=>[AV.ints x])++[[AV.ints ((A.getD k default).filter (· !=h))]]):=by
 rw[<-take_getD hk,dropH,List.map_append];show AV.sl 1 (List.map _ (_++_))=_;rw[List.map_append];rfl
theorem ints_snoc(l:List Int)(x:Int):AV.ints (l++[x])= .sl 1 ((l.map λn=>[AV.i n])++[[AV.i x]]):=by
 show AV.sl 1 (List.map _ (_++_))=_;rw[List.map_append];rfl
theorem merge_some{n:Nat}(hn:nextH A A=some h):mergeN (n+1) A out=mergeN n (dropH h A) (out++[h]):=by rw[mergeN,hn]
theorem merge_none{n:Nat}(hn:nextH A A=none):mergeN (n+1) A out=(out,A.all List.isEmpty):=by rw[mergeN,hn]
theorem headOk_any:headOk A h= !(A.any λm=>m.tail.contains h):=rfl
theorem len_empty(h:0<L.length):L.isEmpty=false:=by cases L with | nil=>simp at h | cons=>rfl
theorem any_getD[Inhabited α]{l:List α}{j:Nat}{p:α->Bool}(h:j<l.length)(hp:p (l.getD j default)=true):l.any p=true:=List.any_eq_true.2 ⟨_,getD_memB h,hp⟩
theorem head_in(h3:(bif decide ((0:Int)<(M.length:Int)) then (M.drop 1).contains h else false)=true):M.tail.contains h=true:=by
 rw[<-List.drop_one];cases hd:decide ((0:Int)<(M.length:Int)) with
 | true=>rw[hd] at h3;exact h3
 | false=>rw[hd] at h3;cases h3
theorem head_out(h3:(bif decide ((0:Int)<(M.length:Int)) then (M.drop 1).contains h else false)=false):M.tail.contains h=false:=by
 rw[<-List.drop_one];cases hd:decide ((0:Int)<(M.length:Int)) with
 | true=>rw[hd] at h3;exact h3
 | false=>cases M with | nil=>rfl | cons=>simp at hd
theorem fine_no1(h: ¬g.length<=16):fineP g=false:=by simp[fineP,h]
theorem fine_no2(hi:i<g.length)(h:(decide ((g.getD i default).length<=3) && fineL i [] (g.getD i default))=false):fineP g=false:=by
 have e:fineG 0 (g.take (i+1))=false:=by rw[fineG_take g 0 i hi,Nat.zero_add,h,Bool.and_false]
 unfold fineP;rw[no_take (i+1) (λk=>fineG_all g 0 k) e,Bool.and_false]
theorem fine_no3(hk:k<l.length)(h:(decide (l.getD k default<3) || decide (l.getD k default>=3+i) || (l.take k).contains (l.getD k default))=true):fineL i [] l=false:=by
 have e:fineL i [] (l.take (k+1))=false:=by rw[fineL_take i l [] k hk,List.nil_append,h];simp
 exact no_take (k+1) (λk=>fineL_all i l [] k) e
def kindOf(op:Int):Option (Option Nat):=
 if op=5 then some none
 else if op=1\/op=2\/op=3\/op=6\/op=18 then some (some 0)
 else if op=4\/op=8\/op=17 then some (some 1)
 else if op=7\/op=9\/op=11\/op=12\/op=13\/op=14\/op=15\/op=16 then some (some 2)
 else if op=10 then some (some 3) else none
def inP(n:Int):Bool:=decide (-1000000000<=n) && decide (n<=1000000000)
def mostP(p:Prog)(op size:Int):Int:=if op=3 then size else if op=4\/op=7 then p.slots else if op=5 then p.gens.length else 1
def numP(p:Prog)(x:Nd)(size:Int):Bool:=
 if x.op=1 then inP x.n else if x.op=6\/x.op=8 then decide (3<=x.n) && decide (x.n<3+p.classes.length) else decide (0<=x.n) && decide (x.n<mostP p x.op size)
mutual
def speaksP:Fact->Int
 | .mk op arg path cls n kids=>speaksL kids (argB (.mk op arg path cls n kids))
def speaksL:List Fact->Int->Int
 | [],n=>n
 | k::r,n=>speaksL r (max n (speaksP k))
end
theorem speaksP_eq(f:Fact):speaksP f=speaksL f.kids (argB f):=by cases f;rfl
theorem speaksL_snoc(x:Fact):∀(l:List Fact) (n:Int),speaksL (l++[x]) n=max (speaksL l n) (speaksP x)
 | [],n=>rfl
 | k::r,n=>by rw[List.cons_append,speaksL,speaksL,speaksL_snoc x r]
theorem smallA_iff{f:Fact}(h:smallA f=true): -1000000<=argB f/\argB f<=1000000/\∀k∈f.kids,smallA k=true:=by
 have mem:∀(l:List Fact),smallAs l=true->∀k∈l,smallA k=true:=by
  intro l
  induction l with
  | nil=>intro _ k hk;cases hk
  | cons x r ih=>
   intro h k hk;rw[smallAs,Bool.and_eq_true] at h;rcases List.mem_cons.1 hk with e | hk
   ·rw[e];exact h.1
   ·exact ih h.2 k hk
 cases f;simp only[smallA,Bool.and_eq_true,decide_eq_true_eq] at h;exact⟨h.1.1,h.1.2,mem _ h.2⟩
end Go.Eng.Bd

namespace Go.Eng.Bd
open Go.Eng.Fc
variable{l:List (Int×AV)}{c:Go.Eng.Ctx}{O all g:List (List Int)}{ps S out o C o2 o':List Int}{k i:Nat}{α:Type}{H H':List Ent}{next fails:Bool}{env:List (Nat×AV)}{Q:Exit->Act->World->Prop}
theorem nextH_mem{A:List (List Int)}:∀{B:List (List Int)} {h:Int},nextH A B=some h->∃l∈B,h∈l
 | [],h,e=>by simp[nextH] at e
 | []::r,h,e=>by
  rw[nextH] at e;obtain⟨l,hl,hh⟩:=nextH_mem e;exact⟨l,.tail _ hl,hh⟩
 | (x::t)::r,h,e=>by
  rw[nextH] at e;split at e
  ·cases e;exact⟨_,.head _,.head _⟩
  ·obtain⟨l,hl,hh⟩:=nextH_mem e;exact⟨l,.tail _ hl,hh⟩
theorem mem_dropH{h x:Int}{A:List (List Int)}{l:List Int}(hl:l∈dropH h A)(hx:x∈l):x≠h/\∃l'∈A,x∈l':=by
 simp only[dropH,List.mem_map] at hl;obtain⟨l',h1,rfl⟩:=hl;rw[List.mem_filter] at hx;exact⟨by simpa using hx.2,l',h1,hx.1⟩
theorem mergeN_ok:∀(n:Nat) (A:List (List Int)) (out:List Int),out.Nodup->(∀x∈out,∀l∈A,x∉l)->(mergeN n A out).1.Nodup/\∀x∈(mergeN n A out).1,x∈out\/∃l∈A,x∈l
 | 0,A,out,h1,h2=>⟨h1,λx hx=>.inl hx⟩
 | n+1,A,out,h1,h2=>by
  cases hn:nextH A A with
  | none=>rw[merge_none hn];exact⟨h1,λx hx=>.inl hx⟩
  | some h=>
   rw[merge_some hn];obtain⟨l0,hl0,hh0⟩:=nextH_mem hn;obtain⟨r1,r2⟩:=mergeN_ok n (dropH h A) (out++[h]) (List.nodup_append.2 ⟨h1,Yn,λa ha b hb e=>by simp at hb;subst hb;subst e;exact h2 a ha l0 hl0 hh0⟩) (λx hx l hl hxl=>by
    obtain⟨e1,l',hl',hx'⟩:=mem_dropH hl hxl;rcases List.mem_append.1 hx with hx | hx
    ·exact h2 x hx l' hl' hx'
    ·simp at hx;exact e1 hx)
   refine⟨r1,λx hx=>?_⟩;rcases r2 x hx with hx | ⟨l,hl,hxl⟩
   ·rcases List.mem_append.1 hx with hx | hx
    ·exact .inl hx
    ·simp at hx;subst hx;exact .inr ⟨l0,hl0,hh0⟩
   ·obtain⟨_,l',hl',hx'⟩:=mem_dropH hl hxl;exact .inr ⟨l',hl',hx'⟩
structure OrdOk(c:Nat)(x:List Int):Prop where
 nodup:x.Nodup
 in_:∀y∈x,0<=y/\y<=c
theorem OrdOk.len{c:Nat}{x:List Int}(h:OrdOk c x):x.length<=c+1:=by
 have:=List.Nodup.length_le_of_subset (l₂:=(List.range (c+1)).map Int.ofNat) h.nodup (λy hy=>by
  obtain⟨h1,h2⟩:=h.in_ y hy;exact List.mem_map.2 ⟨y.toNat,YB,YB⟩)
 simpa using this
def psOk(c:Nat)(ps:List Int):Prop:=ps.length<=3/\∀p∈ps,3<=p/\p<c
def OrdsOk(O:List (List Int)):Prop:=∀k,k<O.length->OrdOk k (O.getD k [])
theorem OrdsOk.len{O:List (List Int)}(h:OrdsOk O)(k:Nat):(O.getD k []).length<=O.length+1:=by
 by_cases hk:k<O.length
 ·have:=(h k hk).len;omega
 ·rw[List.getD_eq_getElem?_getD,List.getElem?_eq_none Yb];simp
theorem lists_mem(h:listsP O ps=some all):all=ps.map (λp=>bareL (O.getD p.toNat []))++[ps]/\∀p∈ps,O.getD p.toNat []≠ []:=by
 unfold listsP at h;split at h
 ·cases h
 ·rename_i hn;refine⟨(Option.some.inj h).symm,λp hp e=>hn (List.any_eq_true.2 ⟨p,hp,by rw[e];rfl⟩)⟩
theorem sum_le{l:List Nat}{m:Nat}(h:∀x∈l,x<=m):l.sum<=l.length*m:=by
 induction l with
 | nil=>simp
 | cons x r ih=>
  have h1:=h x (.head _);have h2:=ih λy hy=>h y (.tail _ hy);rw[List.sum_cons,List.length_cons,Nat.add_mul,Nat.one_mul];omega
theorem bareL_le(l:List Int):(bareL l).length<=l.length:=List.length_filter_le _ _
theorem lists_total(hO:OrdsOk O)(hps:ps.length<=3)(h:listsP O ps=some all):total all<=3*(O.length+1)+3/\all.length<=4:=by
 obtain⟨rfl,_⟩:=lists_mem h;constructor
 ·simp only[total,List.map_append,List.map_map,List.map_cons,List.map_nil,List.sum_append,List.sum_cons,List.sum_nil];have h1:=sum_le (l:=ps.map (List.length∘λp=>bareL (O.getD p.toNat []))) (m:=O.length+1) (λx hx=>by
   obtain⟨p,hp,rfl⟩:=List.mem_map.1 hx;exact Nat.le_trans (bareL_le _) (hO.len _))
  rw[List.length_map] at h1;have h2:ps.length*(O.length+1)<=3*(O.length+1):=Nat.mul_le_mul_right _ hps;omega
 ·rw[List.length_append,List.length_map,List.length_singleton];omega
theorem orderP_ok(hO:OrdsOk O)(hps:psOk O.length ps):OrdOk O.length (orderP O O.length ps):=by
 unfold orderP;split
 ·rename_i h0;exact⟨Yn,Yn⟩
 rename_i h0;cases hl:listsP O ps with
 | none=>exact⟨Yn,Yn⟩
 | some all=>
  simp only;split
  ·obtain⟨rfl,hne⟩:=lists_mem hl;have key:∀l∈ps.map (λp=>bareL (O.getD p.toNat []))++[ps],∀x∈l,0<x/\x<O.length:=by
    intro l hl x hx;rcases List.mem_append.1 hl with h | h
    ·obtain⟨p,hp,rfl⟩:=List.mem_map.1 h;simp only[bareL,List.mem_filter,bne_iff_ne,ne_eq] at hx;have hp2:=hps.2 p hp;have:=(hO p.toNat Yb).in_ x hx.1;omega
    ·simp at h;subst h;have:=hps.2 x hx;omega
   obtain⟨m1,m2⟩:=mergeN_ok (total (ps.map (λp=>bareL (O.getD p.toNat []))++[ps])+1) (ps.map (λp=>bareL (O.getD p.toNat []))++[ps]) [] Yn Yn;have m3:∀x∈(mergeP (ps.map (λp=>bareL (O.getD p.toNat []))++[ps])).1,0<x/\x<O.length:=λx hx=>by
    rcases m2 x hx with h | ⟨l,hl,hx⟩
    ·simp at h
    ·exact key l hl x hx
   refine⟨List.nodup_cons.2 ⟨λh=>?_,List.nodup_append.2 ⟨m1,Yn,λa ha b hb e=>?_⟩⟩,λy hy=>?_⟩
   ·rcases List.mem_append.1 h with h | h
    ·have:=m3 _ h;omega
    ·simp only[List.mem_singleton] at h;omega
   ·simp at hb;subst hb;subst e;have:=m3 _ ha;omega
   ·rcases List.mem_cons.1 hy with rfl | hy
    ·omega
    ·rcases List.mem_append.1 hy with h | h
     ·have:=m3 _ h;omega
     ·simp at h;omega
  ·exact⟨Yn,Yn⟩
theorem OrdsOk.snoc(hO:OrdsOk O)(hps:psOk O.length ps):OrdsOk (O++[orderP O O.length ps]):=by
 intro k hk;rw[List.length_append,List.length_singleton] at hk;by_cases h:k<O.length
 ·have e:(O++[orderP O O.length ps]).getD k []=O.getD k []:=by rw[List.getD_eq_getElem?_getD,List.getElem?_append_left h, <-List.getD_eq_getElem?_getD]
  rw[e];exact hO k h
 ·obtain rfl:k=O.length:=by omega
  rw[List.getD_eq_getElem?_getD,List.getElem?_append_right Yb,Nat.sub_self];exact orderP_ok hO hps
theorem fineL_in(i:Nat):∀(l seen:List Int),fineL i seen l=true->∀x∈l,3<=x/\x<3+i
 | [],_,_,x,hx=>by cases hx
 | y::r,seen,h,x,hx=>by
  simp only[fineL,Bool.and_eq_true,Bool.not_eq_true',Bool.or_eq_false_iff,decide_eq_false_iff_not] at h;rcases List.mem_cons.1 hx with rfl | hx
  ·omega
  ·exact fineL_in i r _ h.2 x hx
theorem fineG_ps:∀(g:List (List Int)) (i k:Nat),fineG i g=true->k<g.length->psOk (3+(i+k)) (g.getD k default)
 | [],i,k,_,hk=>by simp at hk
 | l::r,i,k,h,hk=>by
  simp only[fineG,Bool.and_eq_true,decide_eq_true_eq] at h;cases k with
  | zero=>exact⟨h.1.1,λp hp=>by have:=fineL_in i l [] h.1.2 p hp;omega⟩
  | succ k=>
   have:=fineG_ps r (i+1) k h.2 (by simpa using hk);rw[show 3+(i+(k+1))=3+(i+1+k) by omega,List.getD_cons_succ];exact this
theorem parsOf_len(g:List (List Int)):(parsOf g).length=3+g.length:=by simp[parsOf];omega
theorem parsOf_ps(h:fineP g=true)(k:Nat):psOk k ((parsOf g).getD k default):=by
 simp only[fineP,Bool.and_eq_true,decide_eq_true_eq] at h
 match k with
 | 0=>exact⟨by simp[parsOf],by simp[parsOf]⟩
 | 1=>exact⟨by simp[parsOf],by simp[parsOf]⟩
 | 2=>exact⟨by simp[parsOf],by simp[parsOf]⟩
 | k+3=>
  have e:(parsOf g).getD (k+3) default=g.getD k default:=rfl;rw[e];by_cases hk:k<g.length
  ·have:=fineG_ps g 0 k h.2 hk;rwa [Nat.zero_add,Nat.add_comm] at this
  ·rw[List.getD_eq_getElem?_getD,List.getElem?_eq_none Yb];exact⟨Nat.zero_le _,by intro p hp;cases hp⟩
theorem fineP_len(h:fineP g=true):g.length<=16:=by
 simp only[fineP,Bool.and_eq_true,decide_eq_true_eq] at h;exact h.1
theorem ordersN_snoc(x:List Int):∀(l:List (List Int)) (c:Nat) (out:List (List Int)),ordersN (l++[x]) c out=ordersN l c out++[orderP (ordersN l c out) (c+l.length) x]
 | [],c,out=>by simp[ordersN]
 | y::r,c,out=>by
  rw[List.cons_append,ordersN,ordersN,ordersN_snoc x r (c+1),List.length_cons];rw[show c+1+r.length=c+(r.length+1) by omega]
theorem ordersN_len:∀(l:List (List Int)) (c:Nat) (out:List (List Int)),(ordersN l c out).length=out.length+l.length
 | [],c,out=>by simp[ordersN]
 | y::r,c,out=>by rw[ordersN,ordersN_len r,List.length_append,List.length_cons,List.length_cons,List.length_nil];omega
def ordT(g:List (List Int))(k:Nat):List (List Int):=ordersN ((parsOf g).take k) 0 []
theorem ordT_len(h:k<=3+g.length):(ordT g k).length=k:=by
 rw[ordT,ordersN_len,List.length_take,parsOf_len,List.length_nil];omega
theorem ordT_succ(h:k<3+g.length):ordT g (k+1)=ordT g k++[orderP (ordT g k) (ordT g k).length ((parsOf g).getD k default)]:=by
 rw[ordT, <-take_getD (by rw[parsOf_len];exact h),ordersN_snoc, <-ordT,ordT_len Yb,List.length_take,parsOf_len,show 0+min k (3+g.length)=k by omega]
theorem ordT_all(g:List (List Int)):ordT g (3+g.length)=ordersP g:=by rw[ordT, <-parsOf_len,List.take_length];rfl
theorem ordT_ok{g:List (List Int)}(h:fineP g=true):∀k,k<=3+g.length->OrdsOk (ordT g k)
 | 0,_=>λk hk=>by simp[ordT,ordersN] at hk
 | k+1,hk=>by
  rw[ordT_succ Yb];exact (ordT_ok h k Yb).snoc (by rw[ordT_len Yb];exact parsOf_ps h k)
structure OrdMap(l:List (Int×AV))(O:List (List Int)):Prop where
 ok:IMapOk l
 get:∀k:Nat,getI l (k:Int)=if(O.getD k []).isEmpty then none else some (AV.ints (O.getD k []))
theorem OrdMap.nil:OrdMap [] []:=⟨.nil,λk=>by simp[getI]⟩
theorem getD_snoc{x:List Int}(k:Nat):(O++[x]).getD k []=if k=O.length then x else O.getD k []:=by
 by_cases h:k<O.length
 ·rw[if_neg Yb,List.getD_eq_getElem?_getD,List.getElem?_append_left h, <-List.getD_eq_getElem?_getD]
 ·by_cases h2:k=O.length
  ·rw[if_pos h2,List.getD_eq_getElem?_getD,List.getElem?_append_right Yb,h2,Nat.sub_self];rfl
  ·rw[if_neg h2,List.getD_eq_getElem?_getD,List.getElem?_eq_none Y5,List.getD_eq_getElem?_getD,List.getElem?_eq_none Yb]
theorem OrdMap.skip(h:OrdMap l O):OrdMap l (O++[[]]):=by
 refine⟨h.ok,λk=>?_⟩;rw[h.get,getD_snoc];by_cases h2:k=O.length
 ·rw[if_pos h2,h2,List.getD_eq_getElem?_getD,List.getElem?_eq_none Yb];rfl
 ·rw[if_neg h2]
theorem OrdMap.put{l:List (Int×AV)}{O:List (List Int)}(h:OrdMap l O){x:List Int}(hx:x≠ [])(hs:O.length<=1000000):OrdMap (putI l (O.length:Int) (AV.ints x)) (O++[x]):=by
 refine⟨h.ok.put Y6 _,λk=>?_⟩;rw[getI_put,getD_snoc];by_cases h2:k=O.length
 ·rw[if_pos (by rw[h2]),if_pos h2];cases x with
  | nil=>exact absurd rfl hx
  | cons a r=>rfl
 ·rw[if_neg Yb,if_neg h2,h.get]
theorem OrdMap.look(h:OrdMap l O)(k:Int)(hk:0<=k):AVle ((getI l k).getD (.val (.slice none 0 0))) (AV.ints (O.getD k.toNat [])):=by
 have:=h.get k.toNat;rw[show ((k.toNat:Nat):Int)=k by omega] at this;rw[this];split
 ·rename_i h0;rw[List.isEmpty_iff.1 h0];exact AVle.nil 1
 ·exact AVle.refl _
theorem lists_none{p:Int}(hp:p∈ps)(h:O.getD p.toNat []= []):listsP O ps=none:=by
 unfold listsP;rw[if_pos (List.any_eq_true.2 ⟨p,hp,by rw[h];rfl⟩)]
theorem lists_some(h:∀p∈ps,O.getD p.toNat []≠ []):listsP O ps=some (ps.map (λp=>bareL (O.getD p.toNat []))++[ps]):=by
 unfold listsP;rw[if_neg];intro hn;obtain⟨p,hp,he⟩:=List.any_eq_true.1 hn;exact h p hp (List.isEmpty_iff.1 he)
theorem ordT_succ'(h:k<3+g.length):ordT g (k+1)=ordT g k++[orderP (ordT g k) k ((parsOf g).getD k default)]:=by
 rw[ordT_succ h,ordT_len Yb]
abbrev AV.sets(l:List Nat):AV:=.sl 1 (l.map λs=>[AV.set s])
abbrev nilRows:List (List AV):=[[.val (.slice none 0 0)],[.val (.slice none 0 0)],[.val (.slice none 0 0)]]
abbrev gRows(g:List (List Int)):List (List AV):=g.map λx=>[AV.ints x]
theorem gRows_flat(g:List (List Int)):(gRows g).flatten.length=g.length:=by
 rw[flatten_len (k:=1) (λx hx=>by obtain⟨y,_,rfl⟩:=List.mem_map.1 hx;rfl),List.length_map,Nat.mul_one]
theorem rows_cells(g:List (List Int))(z:AV)(hz:z= .val (.slice none 0 0)):(List.replicate (3+g.length) z).take (0+3*1)++(gRows g).flatten++(List.replicate (3+g.length) z).drop (0+3*1+(gRows g).flatten.length)=(nilRows++gRows g).flatten++[]:=by
 subst hz;rw[gRows_flat,List.take_replicate,List.drop_replicate,show min (0+3*1) (3+g.length)=3 by omega,show 3+g.length - (0+3*1+g.length)=0 by omega];simp[nilRows]
theorem rows_le(g:List (List Int)):AVle (.sl 1 (nilRows++gRows g)) (AV.intss (parsOf g)):=by
 have e:AV.intss (parsOf g)= .sl 1 ([[AV.ints []],[AV.ints []],[AV.ints []]]++gRows g):=rfl;rw[e];exact AVle.sl (.cons (.cons (AVle.nil 1) .nil) (.cons (.cons (AVle.nil 1) .nil) (.cons (.cons (AVle.nil 1) .nil) (AVleE.refl _))))
theorem sets_snoc(l:List Nat)(s:Nat):AV.sl 1 ((l.map λs=>[AV.set s])++[[AV.set s]])=AV.sets (l++[s]):=by
 show _=AV.sl 1 (List.map _ (_++_));rw[List.map_append];rfl
theorem lt_get{l:List Nat}(h:∀x∈l,x<18446744073709551616)(k:Nat):l.getD k default<18446744073709551616:=by
 rw[List.getD_eq_getElem?_getD];by_cases hk:k<l.length
 ·rw[List.getElem?_eq_getElem hk];exact h _ (List.getElem_mem hk)
 ·rw[List.getElem?_eq_none Yb];show (0:Nat)<_;omega
theorem ord_cells(c:Int)(m:List Int):AV.ints (c::(m++[0]))= .sl 1 ([[.i c]]++m.map (λn=>[AV.i n])++[[.i 0]]):=by
 show AV.sl 1 (List.map _ (c::(m++[0])))=_;rw[List.map_cons,List.map_append];rfl
theorem order_zero(h:O.length=0):orderP O O.length ps= [0]:=by rw[orderP,if_pos h]
theorem order_none(h:O.length≠0)(hl:listsP O ps=none):orderP O O.length ps= []:=by rw[orderP,if_neg h,hl]
theorem order_yes(h:O.length≠0)(hl:listsP O ps=some all)(hm:(mergeP all).2=true):orderP O O.length ps=(O.length:Int)::((mergeP all).1++[0]):=by
 rw[orderP,if_neg h,hl];simp only[hm,if_true]
theorem order_no(h:O.length≠0)(hl:listsP O ps=some all)(hm:(mergeP all).2=false):orderP O O.length ps= []:=by
 rw[orderP,if_neg h,hl];simp[hm]
theorem mem_two{a b:α}{H:List α}:∀e∈ [a,b],e∈a::b::H:=λe he=>by simp at he ⊢;rcases he with h | h <;> simp[h]
theorem intss_snocF{β:Type}(f:β->List Int)(l:List β)[Inhabited β]{k:Nat}(hk:k<l.length):AV.intss ((l.take (k+1)).map f)= .sl 1 (((l.take k).map f).map (λx=>[AV.ints x])++[[AV.ints (f (l.getD k default))]]):=by
 rw[<-take_getD hk,List.map_append];show AV.sl 1 (List.map _ (_++_))=_;rw[List.map_append];rfl
abbrev intEls(l:List Int):List (List AV):=l.map λn=>[AV.i n]
abbrev rowE(v:Value)(l:List Int):Ent:=.row 3 1 v (intEls l).length (intEls l).flatten
theorem intEls_len(l:List Int):(intEls l).length=l.length:=by simp
theorem rowE_append(v:Value)(l m:List Int): .row 3 1 v ((intEls l).length+(intEls m).length) ((intEls l).flatten++(intEls m).flatten)=rowE v (l++m):=by
 simp[rowE]
def sortI(l:List Int):List Int:=l.mergeSort λx y=>decide (x<=y)
structure MapSet(l:List (Int×AV))(S:List Int):Prop where
 ok:IMapOk l
 get:∀k:Int,getI l k=if k∈S then some (.b true) else none
theorem MapSet.nil:MapSet [] []:=⟨.nil,λk=>by simp[getI]⟩
theorem MapSet.put{l:List (Int×AV)}{S:List Int}(h:MapSet l S){k:Int}(hk:smallKey k):MapSet (putI l k (.b true)) (S++[k]):=by
 refine⟨h.ok.put hk _,λk'=>?_⟩;rw[getI_put,h.get];by_cases h1:k'=k
 ·subst h1;simp
 ·rw[if_neg h1];simp[h1]
theorem MapSet.look(h:MapSet l S)(k:Int):AVle ((getI l k).getD (.val (.bool false))) (.b (S.contains k)):=by
 rw[h.get];by_cases h1:k∈S
 ·rw[if_pos h1,List.contains_iff_mem.2 h1];exact AVle.refl _
 ·rw[if_neg h1,show S.contains k=false from by simpa using h1];exact AVle.refl _
def hasN(p:Prog):Nat->List Int->List Int->List Int
 | 0,_,out=>out
 | n+1,S,out=>if S.contains ((n:Int)+3) then hasN p n (S++(p.classes.getD n default).parents) (out++(p.classes.getD n default).slots) else hasN p n S out
def hasP(p:Prog)(class_:Int):List Int:=sortI (hasN p (class_ - 2).toNat [class_] [])
theorem hasN_in{p:Prog}{n:Nat}{c:Int}(hc:c=n+3)(h:S.contains c=true):hasN p (c - 2).toNat S out=hasN p (c - 1 - 2).toNat (S++(p.classes.getD (c - 3).toNat default).parents) (out++(p.classes.getD (c - 3).toNat default).slots):=by
 subst hc;rw[show ((n:Int)+3 - 2).toNat=n+1 by omega,show ((n:Int)+3 - 1 - 2).toNat=n by omega,show ((n:Int)+3 - 3).toNat=n by omega,hasN,if_pos h]
theorem hasN_out{p:Prog}{n:Nat}{c:Int}(hc:c=n+3)(h:S.contains c=false):hasN p (c - 2).toNat S out=hasN p (c - 1 - 2).toNat S out:=by
 subst hc;rw[show ((n:Int)+3 - 2).toNat=n+1 by omega,show ((n:Int)+3 - 1 - 2).toNat=n by omega,hasN,if_neg (by rw[h];simp)]
section
variable{P:Program}{H:List Ent}{ρ:Nat->Option AV}{o:Oper}
theorem POp.lookupS{t:TypeId}{x kx:Operand}{b:Nat}{ke:Nat×Nat}{k:Int}{g1 g2:Bool}[hM:HasMapI P t ke][hZ:HasZ P ke.2 (.bool false)](h:o.op= .lookup t x kx false)
  (hx:aev ρ x=some (g1,.val (.map (some b)))) (hg1:g1=true) (hk:aev ρ kx=some (g2,.i k)) (hg2:g2=true) (hm:imapE b l∈H) (hS:MapSet l S) (hsm:smallKey k):POp P H ρ o (.b (S.contains k)):=by
 have h1:=POp.lookupI (P:=P) (H:=H) (ke:=ke) (zv:=.bool false) h hx hg1 hk hg2 hm hS.ok hsm;have e:(getI l k).getD (.val (.bool false))= .b (S.contains k):=by
  rw[hS.get];by_cases h1:k∈S
  ·rw[if_pos h1,List.contains_iff_mem.2 h1];rfl
  ·rw[if_neg h1,show S.contains k=false from by simpa using h1];rfl
 rwa [e] at h1
end
theorem bool_or(b:Bool):b=false\/b=true:=by cases b <;> simp
def slots1:List Int->Nat->Bool
 | [],_=>true
 | s::r,n=>(s==(n:Int)) && slots1 r (n+1)
def slotsA:List Cls->Nat->Bool
 | [],_=>true
 | c::r,n=>decide (c.slots.length<=4) && slots1 c.slots n && slotsA r (n+c.slots.length)
def slotsCnt(cs:List Cls):Nat:=(cs.map (·.slots.length)).sum
def inits1(mine:List Int):List (Int×Int)->List Int->Bool
 | [],_=>true
 | x::r,seen=>(mine.contains x.1 && !seen.contains x.1 && inP x.2) && inits1 mine r (seen++[x.1])
def clsOk(p:Prog)(i:Nat):Bool:=!(linP (graphP p) ((i:Int)+3)).isEmpty && inits1 (hasP p ((i:Int)+3)) (p.classes.getD i default).inits []
def classesP(p:Prog):Bool:=decide (p.classes.length<=10) && slotsA p.classes 0 && (((slotsCnt p.classes:Int)==p.slots) && fineP (graphP p)) && (List.range p.classes.length).all (clsOk p)
theorem slots1_take:∀(l:List Int) (n k:Nat),k<l.length->slots1 (l.take (k+1)) n=(slots1 (l.take k) n && (l.getD k default==((n+k:Nat):Int)))
 | [],n,k,h=>by simp at h
 | x::r,n,0,h=>by simp[slots1]
 | x::r,n,k+1,h=>by
  have:=slots1_take r (n+1) k YN;simp only[List.take_succ_cons,slots1,List.getD_cons_succ];rw[this,Bool.and_assoc,show n+1+k=n+(k+1) by omega]
theorem slots1_all:∀(l:List Int) (n k:Nat),slots1 l n=true->slots1 (l.take k) n=true
 | [],n,k,h=>by simp[slots1]
 | x::r,n,0,h=>rfl
 | x::r,n,k+1,h=>by
  simp only[List.take_succ_cons,slots1,Bool.and_eq_true] at h ⊢;exact⟨h.1,slots1_all r _ k h.2⟩
theorem slots1_mem:∀(l:List Int) (n:Nat),slots1 l n=true->∀x∈l,(n:Int)<=x/\x<n+l.length
 | [],n,_,x,hx=>by cases hx
 | y::r,n,h,x,hx=>by
  simp only[slots1,Bool.and_eq_true,beq_iff_eq] at h;rw[List.length_cons];rcases List.mem_cons.1 hx with rfl | hx
  ·omega
  ·have:=slots1_mem r (n+1) h.2 x hx;omega
theorem slotsA_take:∀(l:List Cls) (n k:Nat),k<l.length->slotsA (l.take (k+1)) n=(slotsA (l.take k) n && (decide ((l.getD k default).slots.length<=4) && slots1 (l.getD k default).slots (n+slotsCnt (l.take k))))
 | [],n,k,h=>by simp at h
 | x::r,n,0,h=>by simp[slotsA,slotsCnt]
 | x::r,n,k+1,h=>by
  have:=slotsA_take r (n+x.slots.length) k YN;simp only[List.take_succ_cons,slotsA,List.getD_cons_succ];rw[this,Bool.and_assoc,Bool.and_assoc,Bool.and_assoc,show n+slotsCnt (x::r.take k)=n+x.slots.length+slotsCnt (r.take k) by simp[slotsCnt];omega]
theorem slotsA_all:∀(l:List Cls) (n k:Nat),slotsA l n=true->slotsA (l.take k) n=true
 | [],n,k,h=>by simp[slotsA]
 | x::r,n,0,h=>rfl
 | x::r,n,k+1,h=>by
  simp only[List.take_succ_cons,slotsA,Bool.and_eq_true] at h ⊢;exact⟨h.1,slotsA_all r _ k h.2⟩
theorem slotsCnt_take{l:List Cls}(h:k<l.length):slotsCnt (l.take (k+1))=slotsCnt (l.take k)+(l.getD k default).slots.length:=by
 rw[<-take_getD h];simp[slotsCnt]
theorem slotsA_mem:∀(l:List Cls) (n:Nat),slotsA l n=true->∀c∈l,c.slots.length<=4/\∀x∈c.slots,0<=x/\x<n+4*l.length
 | [],n,_,c,hc=>by cases hc
 | y::r,n,h,c,hc=>by
  simp only[slotsA,Bool.and_eq_true,decide_eq_true_eq] at h;rw[List.length_cons];rcases List.mem_cons.1 hc with rfl | hc
  ·exact⟨h.1.1,λx hx=>by have:=slots1_mem _ _ h.1.2 x hx;omega⟩
  ·have:=slotsA_mem r _ h.2 c hc;exact⟨this.1,λx hx=>by have:=this.2 x hx;omega⟩
theorem slotsA_cnt:∀(l:List Cls) (n:Nat),slotsA l n=true->slotsCnt l<=4*l.length
 | [],n,_=>by simp[slotsCnt]
 | y::r,n,h=>by
  simp only[slotsA,Bool.and_eq_true,decide_eq_true_eq] at h;have:=slotsA_cnt r _ h.2;have e:slotsCnt (y::r)=y.slots.length+slotsCnt r:=by simp[slotsCnt]
  rw[e,List.length_cons];omega
theorem inits1_take(mine:List Int):∀(l:List (Int×Int)) (seen:List Int) (k:Nat),k<l.length->inits1 mine (l.take (k+1)) seen=(inits1 mine (l.take k) seen && (mine.contains (l.getD k default).1 && !(seen++(l.take k).map (·.1)).contains (l.getD k default).1 && inP (l.getD k default).2))
 | [],seen,k,h=>by simp at h
 | x::r,seen,0,h=>by simp[inits1]
 | x::r,seen,k+1,h=>by
  have:=inits1_take mine r (seen++[x.1]) k YN;simp only[List.take_succ_cons,inits1,List.getD_cons_succ];rw[this,Bool.and_assoc (mine.contains x.1 && !seen.contains x.1 && inP x.2),List.map_cons,List.append_assoc,List.singleton_append]
theorem inits1_all(mine:List Int):∀(l:List (Int×Int)) (seen:List Int) (k:Nat),inits1 mine l seen=true->inits1 mine (l.take k) seen=true
 | [],seen,k,h=>by simp[inits1]
 | x::r,seen,0,h=>rfl
 | x::r,seen,k+1,h=>by
  simp only[List.take_succ_cons,inits1,Bool.and_eq_true] at h ⊢;exact⟨h.1,inits1_all mine r _ k h.2⟩
theorem hasN_mem{p:Prog}:∀(n:Nat) (S out:List Int),∀x∈hasN p n S out,x∈out\/∃i,x∈(p.classes.getD i default).slots
 | 0,S,out,x,h=>.inl h
 | n+1,S,out,x,h=>by
  rw[hasN] at h;split at h
  ·rcases hasN_mem n _ _ x h with h | h
   ·rcases List.mem_append.1 h with h | h
    ·exact .inl h
    ·exact .inr ⟨n,h⟩
   ·exact .inr h
  ·exact hasN_mem n _ _ x h
theorem hasP_mem{p:Prog}{k x:Int}(h:x∈hasP p k):∃c∈p.classes,x∈c.slots:=by
 unfold hasP sortI at h;rw[List.mem_mergeSort] at h;rcases hasN_mem _ _ _ x h with h | ⟨i,h⟩
 ·cases h
 ·by_cases hi:i<p.classes.length
  ·exact⟨_,getD_memB hi,h⟩
  ·rw[List.getD_eq_getElem?_getD,List.getElem?_eq_none Yb] at h;cases h
theorem range_all{f:Nat->Bool}{n i:Nat}(hi:i<n)(h:f i=false):(List.range n).all f=false:=by
 cases hq:(List.range n).all f with
 | false=>rfl
 | true=>rw[List.all_eq_true.1 hq i (List.mem_range.2 hi)] at h;cases h
theorem range_step{f:Nat->Bool}(h:(List.range i).all f=true)(hi:f i=true):(List.range (i+1)).all f=true:=by
 rw[List.range_succ,List.all_append,h];simp[hi]
theorem cls_no1{p:Prog}(h:decide (p.classes.length<=10)=false):classesP p=false:=by
 unfold classesP;rw[h];simp
theorem cls_noA{p:Prog}(h:slotsA p.classes 0=false):classesP p=false:=by
 unfold classesP;rw[h];simp
theorem cls_no2{p:Prog}(hi:i<p.classes.length)(h:(decide ((p.classes.getD i default).slots.length<=4) && slots1 (p.classes.getD i default).slots (slotsCnt (p.classes.take i)))=false):classesP p=false:=by
 refine cls_noA (no_take (f:=λl=>slotsA l 0) (i+1) (λk=>slotsA_all _ _ k) ?_);show slotsA _ _=false;rw[slotsA_take _ _ _ hi,Nat.zero_add,h,Bool.and_false]
theorem cls_no3{p:Prog}{i j:Nat}(hi:i<p.classes.length)(hj:j<(p.classes.getD i default).slots.length)(h:((p.classes.getD i default).slots.getD j default==((slotsCnt (p.classes.take i)+j:Nat):Int))=false):classesP p=false:=by
 refine cls_no2 hi ?_;have e:slots1 (p.classes.getD i default).slots (slotsCnt (p.classes.take i))=false:=by
  refine no_take (f:=λl=>slots1 l (slotsCnt (p.classes.take i))) (j+1) (λk=>slots1_all _ _ k) ?_;show slots1 _ _=false;rw[slots1_take _ _ _ hj,h,Bool.and_false]
 rw[e,Bool.and_false]
theorem cls_no4{p:Prog}(h:(((slotsCnt p.classes:Int)==p.slots) && fineP (graphP p))=false):classesP p=false:=by
 unfold classesP;rw[h];simp
theorem cls_no5{p:Prog}(hi:i<p.classes.length)(h:clsOk p i=false):classesP p=false:=by
 unfold classesP;rw[range_all hi h,Bool.and_false]
theorem cls_in{p:Prog}{i j:Nat}(hj:j<(p.classes.getD i default).inits.length)(h:((hasP p ((i:Int)+3)).contains ((p.classes.getD i default).inits.getD j default).1 && !(((p.classes.getD i default).inits.take j).map (·.1)).contains ((p.classes.getD i default).inits.getD j default).1 && inP ((p.classes.getD i default).inits.getD j default).2)=false):clsOk p i=false:=by
 unfold clsOk;have e:inits1 (hasP p ((i:Int)+3)) (p.classes.getD i default).inits []=false:=by
  refine no_take (f:=λl=>inits1 (hasP p ((i:Int)+3)) l []) (j+1) (λk=>inits1_all _ _ _ k) ?_;show inits1 _ _ _=false;rw[inits1_take _ _ _ _ hj,List.nil_append,h,Bool.and_false]
 rw[e,Bool.and_false]
structure Prog.Small(p:Prog):Prop where
 classes:p.classes.length<=1048576
 parents:∀c∈p.classes,c.parents.length<=4000000
theorem graph_fine{p:Prog}(h:fineP (graphP p)=true):p.classes.length<=16/\∀c∈p.classes,∀x∈c.parents,smallKey x:=by
 have h1:=fineP_len h;have h2:p.classes.length<=16:=by simpa [graphP] using h1
 refine⟨h2,λc hc x hx=>?_⟩;obtain⟨i,hi,rfl⟩:=List.mem_iff_getElem.1 hc;have h3:fineG 0 (graphP p)=true:=by simp only[fineP,Bool.and_eq_true] at h;exact h.2
 have:=fineG_ps (graphP p) 0 i h3 (by simpa [graphP] using hi);have e:(graphP p).getD i default=p.classes[i].parents:=by
  rw[List.getD_eq_getElem?_getD,graphP,List.getElem?_map,List.getElem?_eq_getElem hi];rfl
 rw[e] at this;have:=this.2 x hx;unfold smallKey;omega
structure Vis where
 n:Int
 sz:Int
 dp:Int
abbrev plcA(x:Vis):AV:=.agg [.i x.sz,.i x.dp]
def goodN(p:Prog)(next:Bool)(x:Nd)(sz:Int):Bool:=
 numP p x sz && (next || x.op !=18) && (match kindOf x.op with
  | none=>false
  | some none=>(x.kids.length:Int)==p.gens.getD x.n.toNat default
  | some (some k)=>x.kids.length==k)
def placeOk(p:Prog)(x:Vis)(out:List Int):Bool:=decide (0<=x.n) && decide (x.n<p.nodes.length) && decide (out.getD x.n.toNat default<0) && decide (x.dp<=12)
def ndOf(p:Prog)(x:Vis):Nd:=p.nodes.getD x.n.toNat default
def okV(p:Prog)(next:Bool)(x:Vis)(out:List Int):Bool:=placeOk p x out && goodN p next (ndOf p x) x.sz
def setV(out:List Int)(x:Vis):List Int:=out.set x.n.toNat x.sz
def kidV(x:Vis)(op:Int)(i:Nat)(k:Int):Vis:=⟨k,if op=9/\i=1 then x.sz+1 else x.sz,x.dp+1⟩
def kidsV(x:Vis)(op:Int):Nat->List Int->List Vis
 | _,[]=>[]
 | i,k::r=>kidV x op i k::kidsV x op (i+1) r
def visitsW(v:Vis->List Int->List Vis×Option (List Int)):List Vis->List Int->List Vis×Option (List Int)
 | [],out=>([],some out)
 | y::r,out=>match v y out with
  | (l,none)=>(l,none)
  | (l,some o)=>(l++(visitsW v r o).1,(visitsW v r o).2)
def visit(p:Prog)(next:Bool):Nat->Vis->List Int->List Vis×Option (List Int)
 | 0,x,out=>([x],none)
 | f+1,x,out=>if okV p next x out then
   (x::(visitsW (visit p next f) (kidsV x (ndOf p x).op 0 (ndOf p x).kids) (setV out x)).1,(visitsW (visit p next f) (kidsV x (ndOf p x).op 0 (ndOf p x).kids) (setV out x)).2)
  else ([x],none)
theorem visitsW_append(v:Vis->List Int->List Vis×Option (List Int)):∀(a b:List Vis) (o:List Int) {l:List Vis} {o':List Int},visitsW v a o=(l,some o')->visitsW v (a++b) o=(l++(visitsW v b o').1,(visitsW v b o').2)
 | [],b,o,l,o',h=>by simp only[visitsW,Prod.mk.injEq,Option.some.injEq] at h;obtain⟨rfl,rfl⟩:=h;simp
 | y::r,b,o,l,o',h=>by
  rw[List.cons_append];simp only[visitsW] at h ⊢;rcases hv:v y o with⟨l1,_ | o1⟩
  ·rw[hv] at h;simp at h
  ·rw[hv] at h;simp only[Prod.mk.injEq] at h;obtain⟨rfl,h2⟩:=h;have:=visitsW_append v r b o1 (l:=(visitsW v r o1).1) (o':=o') (Prod.ext rfl h2);simp only[this,List.append_assoc]
theorem kidsV_len(x:Vis)(op:Int):∀(i:Nat) (l:List Int),(kidsV x op i l).length=l.length
 | _,[]=>rfl
 | i,k::r=>by rw[kidsV,List.length_cons,kidsV_len x op (i+1) r,List.length_cons]
theorem kidsV_drop(x:Vis)(op:Int):∀(i j:Nat) (l:List Int),(kidsV x op i l).drop j=kidsV x op (i+j) (l.drop j)
 | _,_,[]=>by simp[kidsV]
 | i,0,k::r=>rfl
 | i,j+1,k::r=>by rw[kidsV,List.drop_succ_cons,kidsV_drop x op (i+1) j r,List.drop_succ_cons,show i+1+j=i+(j+1) by omega]
theorem visit_no{p:Prog}{f:Nat}{x:Vis}(h:okV p next x out=false):visit p next f x out=([x],none):=by
 cases f with
 | zero=>rfl
 | succ f=>rw[visit,if_neg (by rw[h];simp)]
theorem visit_yes{p:Prog}{f:Nat}{x:Vis}(h:okV p next x out=true):visit p next (f+1) x out=(x::(visitsW (visit p next f) (kidsV x (ndOf p x).op 0 (ndOf p x).kids) (setV out x)).1,(visitsW (visit p next f) (kidsV x (ndOf p x).op 0 (ndOf p x).kids) (setV out x)).2):=by
 rw[visit,if_pos h]
theorem visit_ne{p:Prog}(f:Nat)(x:Vis)(out:List Int):(visit p next f x out).1≠ []:=by
 cases h:okV p next x out with
 | false=>rw[visit_no h];simp
 | true=>
  cases f with
  | zero=>simp[visit]
  | succ f=>rw[visit_yes h];simp
theorem visitsW_ne{v:Vis->List Int->List Vis×Option (List Int)}(hv:∀x o,(v x o).1≠ []):∀(l:List Vis) (o:List Int),(visitsW v l o).2=none->(visitsW v l o).1≠ []
 | [],o,h=>by simp[visitsW] at h
 | y::r,o,h=>by
  simp only[visitsW] at h ⊢;have:=hv y o;rcases hq:v y o with⟨l1,_ | o1⟩
  ·rw[hq] at this;exact this
  ·rw[hq] at this;intro e;exact this (List.append_eq_nil_iff.1 e).1
theorem perm_kid(b:α)(A:List α)(W:α)(X:List α):(b::(A++(W::X))).Perm (A++(W::b::X)):=by
 have:=(List.perm_middle (a:=b) (l₁:=A++[W]) (l₂:=X)).symm;simpa using this
theorem visit_head{p:Prog}(f:Nat)(x:Vis)(out:List Int):∃t,(visit p next f x out).1=x::t:=by
 cases h:okV p next x out with
 | false=>rw[visit_no h];exact⟨[],rfl⟩
 | true=>
  cases f with
  | zero=>exact⟨[],rfl⟩
  | succ f=>rw[visit_yes h];exact⟨_,rfl⟩
theorem visit_pre{p:Prog}{f:Nat}{x:Vis}{pre rest L:List Vis}(hL:pre++(visit p next f x out).1++rest=L):pre++[x]<+:L:=by
 obtain⟨t,ht⟩:=visit_head (p:=p) (next:=next) f x out;rw[<-hL,ht];exact⟨t++rest,Yn⟩
theorem visit_last{p:Prog}{f:Nat}{x:Vis}{pre rest L:List Vis}(hL:pre++(visit p next f x out).1++rest=L)(hn2:(visit p next f x out).2≠none->fails=true->rest≠ [])(hf:fails=true)(h:pre++[x]=L):(visit p next f x out).2=none:=by
 obtain⟨t,ht⟩:=visit_head (p:=p) (next:=next) f x out;cases hv:(visit p next f x out).2 with
 | none=>rfl
 | some o=>
  exfalso;have h1:=hn2 (by rw[hv];simp) hf;rw[<-hL,ht,List.append_assoc] at h;have h2:=List.append_cancel_left h;simp only[List.cons_append,List.cons.injEq,true_and] at h2;exact h1 (List.append_eq_nil_iff.1 h2.symm).2
theorem visit_ok{p:Prog}{f:Nat}{x:Vis}{pre rest L:List Vis}(hdf:x.dp+f=14)(hL:pre++(visit p next f x out).1++rest=L)(hn1:(visit p next f x out).2=none->rest= []/\fails=true)(hlast:pre++[x]=L->fails=false):
  okV p next x out=true/\∃f',f=f'+1:=by
 have hok:okV p next x out=true:=by
  cases hv:okV p next x out with
  | true=>rfl
  | false=>
   exfalso;have e:=visit_no (f:=f) hv;obtain⟨h1,h2⟩:=hn1 (by rw[e]);rw[e,h1,List.append_nil] at hL;rw[hlast hL] at h2;cases h2
 refine⟨hok,?_⟩;cases f with
 | succ f=>exact⟨f,rfl⟩
 | zero=>
  exfalso;simp only[okV,placeOk,Bool.and_eq_true,decide_eq_true_eq] at hok;omega
theorem okV_place{p:Prog}{x:Vis}(h:okV p next x out=true):0<=x.n/\x.n<p.nodes.length:=by
 simp only[okV,placeOk,Bool.and_eq_true,decide_eq_true_eq] at h;exact⟨h.1.1.1.1,h.1.1.1.2⟩
theorem kid_step{v:Vis->List Int->List Vis×Option (List Int)}(hv:∀x o,(v x o).1≠ []){ks:List Vis}{i:Nat}{y:Vis}{s o:List Int}{l:List Vis}(hd:ks.drop i=y::ks.drop (i+1))(h:visitsW v (ks.take i) s=(l,some o)):
  ∃R,(visitsW v ks s).1=l++((v y o).1++R)/\((v y o).2=none->R= []/\(visitsW v ks s).2=none)/\(∀o',(v y o).2=some o'->visitsW v (ks.take (i+1)) s=(l++(v y o).1,some o')/\((visitsW v ks s).2=none->R≠ [])):=by
 have hall:visitsW v ks s=(l++(visitsW v (ks.drop i) o).1,(visitsW v (ks.drop i) o).2):=by
  have:=visitsW_append v (ks.take i) (ks.drop i) s h;rwa [List.take_append_drop] at this
 rw[hd] at hall;have hlt:i<ks.length:=by
  rcases Nat.lt_or_ge i ks.length with h1 | h1
  ·exact h1
  ·rw[List.drop_of_length_le h1] at hd;cases hd
 have hti:ks.take (i+1)=ks.take i++[y]:=by
  have:ks.drop i=ks[i]::ks.drop (i+1):=List.drop_eq_getElem_cons hlt;rw[this] at hd;rw[List.take_succ_eq_append_getElem hlt,(List.cons.inj hd).1]
 have hone:=visitsW_append v (ks.take i) [y] s h;simp only[visitsW] at hall;rcases hq:v y o with⟨l1,_ | o1⟩
 ·rw[hq] at hall;refine⟨[],by rw[hall];simp,λ_=>⟨rfl,by rw[hall]⟩,λo' h=>Yab⟩
 ·rw[hq] at hall;refine⟨(visitsW v (ks.drop (i+1)) o1).1,by rw[hall],λh=>Yab,λo' h=>?_⟩;cases h;refine⟨?_,λh=>?_⟩
  ·rw[hti,hone];simp[visitsW,hq]
  ·rw[hall] at h;exact visitsW_ne hv _ _ h
theorem kidsV_get(x:Vis)(op:Int){l:List Int}{i:Nat}(h:i<l.length):(kidsV x op 0 l).drop i=kidV x op i (l.getD i default)::(kidsV x op 0 l).drop (i+1):=by
 rw[kidsV_drop,kidsV_drop,Nat.zero_add,Nat.zero_add,drop_getD h,kidsV]
theorem kid_args{p:Prog}{f:Nat}{x y:Vis}{pre rest L l R:List Vis}{W:List Vis×Option (List Int)}(hvy:visit p next (f+1) x out=(x::W.1,W.2))(hL:pre++(visit p next (f+1) x out).1++rest=L)
  (hn1:(visit p next (f+1) x out).2=none->rest= []/\fails=true) (hn2:(visit p next (f+1) x out).2≠none->fails=true->rest≠ []) (hR:W.1=l++((visit p next f y o).1++R)) (hR1:(visit p next f y o).2=none->R= []/\W.2=none) (hR2:∀o':List Int,(visit p next f y o).2=some o'->(W.2=none->R≠ [])):
  (pre++x::l)++(visit p next f y o).1++(R++rest)=L/\((visit p next f y o).2=none->R++rest= []/\fails=true)/\((visit p next f y o).2≠none->fails=true->R++rest≠ []):=by
 rw[hvy] at hL hn1 hn2;refine⟨by rw[<-hL,hR];simp,λh=>?_,λh hf he=>?_⟩
 ·obtain⟨h1,h2⟩:=hR1 h;obtain⟨h3,h4⟩:=hn1 h2;exact⟨by rw[h1,h3];rfl,h4⟩
 ·obtain⟨o',ho⟩:=Option.ne_none_iff_exists'.1 h;obtain⟨e1,e2⟩:=List.append_eq_nil_iff.1 he;cases hw:W.2 with
  | none=>exact hR2 o' ho hw e1
  | some q=>exact hn2 (by simp[hw]) hf e2
theorem CW.subH{r:Option Nat}{P:Program}{code:Code}(hH:H'.Sublist H)(h:CW c r P code ⟨env,H'⟩ Q):CW c r P code ⟨env,H⟩ Q:=λa w s=>h a w (s.weaken (λ_ _ h=>h) hH)
theorem Done.subH{e:Exit}(hH:H'.Sublist H)(h:Done c ⟨env,H'⟩ e Q):Done c ⟨env,H⟩ e Q:=λa w s=>h a w (s.weaken (λ_ _ h=>h) hH)
theorem drop_kid(A:List α)(W b:α)(X:List α):(A++(W::X)).Sublist (A++(W::b::X)):=.append_left (.cons_cons _ (.cons _ (.refl _))) _
def outsV(pre:List Vis)(out:List Int):List Int:=pre.foldl setV out
structure VP(p:Prog)(next:Bool)(out:List Int)(L:List Vis)(r:Option (List Int)):Prop where
 yes:∀pre y,pre++[y]<+:L->¬(pre++[y]=L/\r=none)->okV p next y (outsV pre out)=true
 no:∀pre y,pre++[y]=L->r=none->okV p next y (outsV pre out)=false
 end_:∀o,r=some o->o=outsV L out
 ne:r=none->L≠ []
theorem VP.nil{p:Prog}:VP p next out [] (some out):=
 ⟨λpre y h=>by have:=h.length_le;simp at this,λpre y h=>by simp at h,λo h=>by cases h;rfl,λh=>by cases h⟩
theorem outsV_append(a b:List Vis)(o:List Int):outsV (a++b) o=outsV b (outsV a o):=by simp[outsV]
theorem prefix_cases{A L1 L2:List α}(h:A<+:L1++L2):A<+:L1\/∃B,A=L1++B/\B<+:L2:=by
 obtain⟨t,ht⟩:=h;rcases List.append_eq_append_iff.1 ht with⟨a,h1,h2⟩ | ⟨a,h1,h2⟩
 ·exact .inl ⟨a,h1.symm⟩
 ·exact .inr ⟨a,h1,t,h2.symm⟩
theorem snoc_of_append{pre L1 B:List α}{y:α}(h:pre++[y]=L1++B)(hB:B≠ []):∃B',B=B'++[y]/\pre=L1++B':=by
 rcases List.eq_nil_or_concat B with rfl | ⟨B',z,rfl⟩
 ·exact absurd rfl hB
 ·rw[List.concat_eq_append, <-List.append_assoc] at h;obtain⟨e2,e3⟩:=List.append_inj' h rfl;cases e3;exact⟨B',List.concat_eq_append,e2⟩
theorem VP.append{p:Prog}{out o1:List Int}{L1 L2:List Vis}{r:Option (List Int)}(h1:VP p next out L1 (some o1))(h2:VP p next o1 L2 r):VP p next out (L1++L2) r:=by
 have e1:=h1.end_ o1 rfl;refine⟨λpre y h hn=>?_,λpre y h hr=>?_,λo h=>?_,λh=>?_⟩
 ·rcases prefix_cases h with h | ⟨B,hB,hp⟩
  ·exact h1.yes pre y h (λhc=>by cases hc.2)
  ·rcases Classical.em (B= []) with rfl | hBn
   ·rw[List.append_nil] at hB;exact h1.yes pre y (by rw[hB];exact List.prefix_refl _) (λhc=>by cases hc.2)
   ·obtain⟨B',rfl,rfl⟩:=snoc_of_append hB hBn;rw[outsV_append, <-e1];exact h2.yes B' y hp (λhc=>hn ⟨by rw[List.append_assoc,hc.1],hc.2⟩)
 ·obtain⟨B',rfl,rfl⟩:=snoc_of_append h (h2.ne hr);rw[outsV_append, <-e1];exact h2.no B' y rfl hr
 ·rw[outsV_append, <-e1];exact h2.end_ o h
 ·intro e;exact h2.ne h (List.append_eq_nil_iff.1 e).2
theorem one_pre{pre:List α}{x y:α}(hp:pre++[y]<+: [x]):pre= []/\y=x:=by
 have h1:=hp.length_le;simp only[List.length_append,List.length_singleton] at h1;obtain rfl:pre= []:=List.eq_nil_of_length_eq_zero Yb;obtain⟨t,ht⟩:=hp;simp at ht;exact⟨rfl,ht.1⟩
theorem VP.one{p:Prog}{x:Vis}(h:okV p next x out=true):VP p next out [x] (some (setV out x)):=
 ⟨λpre y hp _=>by obtain⟨rfl,rfl⟩:=one_pre hp;exact h,λpre y hp hr=>by(cases hr),λo h=>by(cases h;rfl),λh=>by(cases h)⟩
theorem VP.not{p:Prog}{x:Vis}(h:okV p next x out=false):VP p next out [x] none:=
 ⟨λpre y hp hn=>by obtain⟨rfl,rfl⟩:=one_pre hp;exact absurd ⟨rfl,rfl⟩ hn,λpre y hp hr=>by obtain⟨rfl,rfl⟩:=one_pre (by rw[hp];exact List.prefix_refl _);exact h,λo h=>by(cases h),λh=>by simp⟩
theorem VP.kids{p:Prog}{next:Bool}{v:Vis->List Int->List Vis×Option (List Int)}{ok:Vis->Prop}(hv:∀x o,ok x->VP p next o (v x o).1 (v x o).2):∀(l:List Vis),(∀x∈l,ok x)->∀(o:List Int),VP p next o (visitsW v l o).1 (visitsW v l o).2
 | [],_,o=>VP.nil
 | y::r,hl,o=>by
  have h1:=hv y o (hl y (.head _));simp only[visitsW];rcases hq:v y o with⟨l1,_ | o1⟩
  ·rw[hq] at h1;exact h1
  ·rw[hq] at h1;exact h1.append (VP.kids hv r (λx hx=>hl x (.tail _ hx)) o1)
theorem kidsV_dp(x:Vis)(op:Int):∀(i:Nat) (l:List Int),∀y∈kidsV x op i l,y.dp=x.dp+1
 | _,[],y,h=>by simp[kidsV] at h
 | i,k::r,y,h=>by
  rw[kidsV,List.mem_cons] at h;rcases h with rfl | h
  ·rfl
  ·exact kidsV_dp x op (i+1) r y h
theorem visit_vp{p:Prog}{next:Bool}:∀(f:Nat) (x:Vis) (out:List Int),x.dp+f=14->VP p next out (visit p next f x out).1 (visit p next f x out).2
 | 0,x,out,h=>by
  refine VP.not ?_;unfold okV placeOk;rw[show decide (x.dp<=12)=false from decide_eq_false Yb];simp
 | f+1,x,out,h=>by
  cases hk:okV p next x out with
  | false=>rw[visit_no hk];exact VP.not hk
  | true=>
   rw[visit_yes hk];exact (VP.one hk).append (VP.kids (ok:=λy=>y.dp+f=14) (λy o hy=>visit_vp f y o hy) _ (λy hy=>by rw[kidsV_dp _ _ _ _ y hy];omega) _)
theorem setV_len(o:List Int)(x:Vis):(setV o x).length=o.length:=by simp[setV]
theorem outsV_len:∀(l:List Vis) (o:List Int),(outsV l o).length=o.length
 | [],o=>rfl
 | x::r,o=>by rw[show outsV (x::r) o=outsV r (setV o x) from rfl,outsV_len r,setV_len]
theorem outsV_snoc(l:List Vis)(x:Vis)(o:List Int):outsV (l++[x]) o=setV (outsV l o) x:=by simp[outsV]
def smallV(x:Vis):Prop:=-1000<=x.sz/\x.sz<=1000+x.dp/\1<=x.dp/\x.dp<=14
theorem visit_small{p:Prog}{next:Bool}:∀(f:Nat) (x:Vis) (out:List Int),x.dp+f=14->smallV x->∀y∈(visit p next f x out).1,smallV y
 | 0,x,out,h,hs,y,hy=>by rw[show (visit p next 0 x out).1= [x] from rfl] at hy;simp at hy;subst hy;exact hs
 | f+1,x,out,h,hs,y,hy=>by
  cases hk:okV p next x out with
  | false=>rw[visit_no hk] at hy;simp at hy;subst hy;exact hs
  | true=>
   rw[visit_yes hk] at hy;simp only[List.mem_cons] at hy;rcases hy with rfl | hy
   ·exact hs
   ·have key:∀(l:List Vis),(∀z∈l,z.dp+f=14/\smallV z)->∀(o:List Int),∀y∈(visitsW (visit p next f) l o).1,smallV y:=by
     intro l
     induction l with
     | nil=>intro _ o y hy;simp[visitsW] at hy
     | cons z r ih=>
      intro hl o y hy;simp only[visitsW] at hy;have h1:=visit_small (p:=p) (next:=next) f z o (hl z (.head _)).1 (hl z (.head _)).2;rcases hq:visit p next f z o with⟨l1,_ | o1⟩
      ·rw[hq] at hy h1;exact h1 y hy
      ·rw[hq] at hy h1;simp only[List.mem_append] at hy;rcases hy with hy | hy
       ·exact h1 y hy
       ·exact ih (λz hz=>hl z (.tail _ hz)) o1 y hy
    refine key _ (λz hz=>⟨by rw[kidsV_dp _ _ _ _ z hz];omega,?_⟩) _ y hy;have hz1:=kidsV_dp _ _ _ _ z hz;have:∀(op:Int) (i:Nat) (l:List Int),∀z∈kidsV x op i l,z.sz=x.sz\/z.sz=x.sz+1:=by
     intro op i l
     induction l generalizing i with
     | nil=>intro z hz;simp[kidsV] at hz
     | cons k r ih=>
      intro z hz;rw[kidsV,List.mem_cons] at hz;rcases hz with rfl | hz
      ·simp only[kidV];split <;> simp
      ·exact ih (i+1) z hz
    have hz2:=this _ _ _ z hz;unfold smallV at hs ⊢;omega
theorem okV_no1{p:Prog}{x:Vis}(h:placeOk p x C=false):okV p next x C=false:=by simp[okV,h]
theorem okV_no2{p:Prog}{x:Vis}(h:(numP p (ndOf p x) x.sz && (next || (ndOf p x).op !=18))=false):okV p next x C=false:=by
 simp only[okV,goodN,h,Bool.false_and,Bool.and_false]
theorem okV_no3{p:Prog}{x:Vis}(h:kindOf (ndOf p x).op=none):okV p next x C=false:=by
 simp[okV,goodN,h]
theorem okV_k{p:Prog}{x:Vis}(h1:placeOk p x C=true)(h2:(numP p (ndOf p x) x.sz && (next || (ndOf p x).op !=18))=true)(h:kindOf (ndOf p x).op=some (some k)):okV p next x C=(((ndOf p x).kids.length:Int)==(k:Int)):=by
 simp only[okV,goodN,h1,h2,h,Bool.true_and];rw[Bool.eq_iff_iff,beq_iff_eq,beq_iff_eq];omega
theorem okV_a{p:Prog}{x:Vis}(h1:placeOk p x C=true)(h2:(numP p (ndOf p x) x.sz && (next || (ndOf p x).op !=18))=true)(h:kindOf (ndOf p x).op=some none):okV p next x C=(((ndOf p x).kids.length:Int)==p.gens.getD (ndOf p x).n.toNat default):=by
 simp only[okV,goodN,h1,h2,h,Bool.true_and]
theorem placeOk_in{p:Prog}{x:Vis}(h:placeOk p x C=true):0<=x.n/\x.n<p.nodes.length:=by
 simp only[placeOk,Bool.and_eq_true,decide_eq_true_eq] at h;exact h.1.1
theorem cellI_get(h:i<C.length):(C.map AV.i)[0+i*1]? =some (.i (C.getD i default)):=by
 rw[Nat.zero_add,Nat.mul_one,List.getElem?_map,List.getElem?_eq_getElem h,Option.map_some,List.getD_eq_getElem?_getD,List.getElem?_eq_getElem h];rfl
theorem cellI_set{s:Int}(h:i<C.length):(C.map AV.i).take (0+i*1)++[.i s]++(C.map AV.i).drop (0+i*1+1)=(C.set i s).map AV.i:=by
 rw[Nat.zero_add,Nat.mul_one,List.map_set,List.set_eq_take_append_cons_drop,if_pos YN,List.append_assoc];rfl
mutual
theorem node_smallA(w:Fc.FW):∀(f:Fact) (left deep:Int),(nodeP w f left deep).1=true->smallA f=true
 | .mk op arg path cls n kids,left,deep,h=>by
  rw[nodeP] at h;by_cases h1:badP (.mk op arg path cls n kids) (left - 1) deep=true
  ·rw[if_pos h1] at h;cases h
  rw[if_neg h1] at h;have hk:(kids.length:Int)=kidsP op:=by
   have h2:badP (.mk op arg path cls n kids) (left - 1) deep=false:=by simpa using h1
   simp only[badP,Bool.or_eq_false_iff,bne_eq_false_iff_eq] at h2;exact h2.2
  by_cases hl:leafP (.mk op arg path cls n kids)=true
  ·rw[if_pos hl] at h;have hl:2<=op/\op<=4:=by rw[leafP,Bool.and_eq_true] at hl;exact⟨of_decide_eq_true hl.1,of_decide_eq_true hl.2⟩
   have hk0:kids= []:=by
    have:kidsP op=0:=by unfold kidsP;rw[if_neg Yb,if_neg Yb]
    exact List.eq_nil_of_length_eq_zero Yb
   have ha:0<=arg/\arg<3:=by
    have h9:argP w (.mk op arg path cls n kids)=true:=by simp only[Bool.and_eq_true] at h;exact h.1
    rw[argP,Bool.not_eq_true',Bool.or_eq_false_iff,Bool.or_eq_false_iff] at h9;have a1: ¬arg<0:=of_decide_eq_false h9.1.1;have a2: ¬arg>=3:=of_decide_eq_false h9.1.2;omega
   subst hk0;have hb:argB (.mk op arg path cls n [])=arg+1:=by unfold argB;rw[if_pos (by show op=2\/op=3\/op=4;omega)];rfl
   simp only[smallA,smallAs,hb,Bool.and_true,Bool.and_eq_true,decide_eq_true_eq];omega
  ·rw[if_neg hl] at h;have hl':leafP (.mk op arg path cls n kids)=false:=by simpa using hl
   have hl': ¬(2<=op/\op<=4):=by intro hc;rw[show leafP (.mk op arg path cls n kids)=true by rw[leafP,Bool.and_eq_true];exact⟨decide_eq_true hc.1,decide_eq_true hc.2⟩] at hl';cases hl'
   have hb:argB (.mk op arg path cls n kids)=0:=by unfold argB;rw[if_neg (by show ¬(op=2\/op=3\/op=4);omega)]
   by_cases hp:plainP (.mk op arg path cls n kids)=true
   ·rw[if_pos hp] at h;have:=nodes_smallA w kids _ _ h;simp only[smallA,hb,this,Bool.and_true];decide
   ·rw[if_neg hp] at h;cases h
theorem nodes_smallA(w:Fc.FW):∀(l:List Fact) (left deep:Int),(nodesP w l left deep).1=true->smallAs l=true
 | [],left,deep,h=>rfl
 | k::r,left,deep,h=>by
  rw[nodesP] at h;by_cases hk:(nodeP w k left deep).1=true
  ·rw[if_pos hk] at h;rw[smallAs,node_smallA w k _ _ hk,nodes_smallA w r _ _ h];rfl
  ·rw[if_neg hk] at h;exact absurd h hk
end
theorem formed_smallA{w:Fc.FW}{f:Fact}(h:formedP w f=true):smallA f=true:=node_smallA w f 24 12 h
def headP(p:Prog):Bool:=decide ((p.gens.length:Int)<=8) && decide ((p.methods.length:Int)<=16) && decide ((p.nodes.length:Int)>=1) && decide ((p.nodes.length:Int)<=120)
def genP(n:Int):Bool:=decide (n>=1) && decide (n<=3)
def mth1(p:Prog)(m:Mth):Bool:=decide (m.kind>=1) && decide (m.kind<=4) && decide (m.gen>=0) && decide (m.gen<p.gens.length)
def mth2(p:Prog)(m:Mth):Bool:=(worldP (worldOf p) && formedP (worldOf p) m.fact) && decide (speaksP m.fact<=p.gens.getD m.gen.toNat default)
def nextM(m:Mth):Bool:=m.kind==1 || m.kind==4
def bodyV(p:Prog)(m:Mth):Vis:=⟨m.node,p.gens.getD m.gen.toNat default,1⟩
def methodsN(p:Prog):List Mth->List Int->Option (List Int)
 | [],out=>some out
 | m::r,out=>if mth1 p m && mth2 p m then (match (visit p (nextM m) 13 (bodyV p m) out).2 with
  | none=>none
  | some o=>methodsN p r o) else none
def out0(p:Prog):List Int:=List.replicate p.nodes.length (-1)
theorem out0_map(p:Prog):(out0 p).map AV.i=List.replicate p.nodes.length (.i (-1)):=by simp[out0]
def sizesP(p:Prog):Option (List Int):=
 if classesP p && headP p && p.gens.all genP then (match methodsN p p.methods (out0 p) with
  | none=>none
  | some o=>match (visit p false 13 ⟨p.main,0,1⟩ o).2 with
   | none=>none
   | some o2=>if o2.contains (-1) then none else some o2) else none
theorem szs_no1{p:Prog}(h:classesP p=false):sizesP p=none:=by unfold sizesP;rw[h];rfl
theorem szs_no2{p:Prog}(h:headP p=false):sizesP p=none:=by unfold sizesP;rw[h,Bool.and_false];rfl
theorem szs_no3{p:Prog}(h:p.gens.all genP=false):sizesP p=none:=by unfold sizesP;rw[h,Bool.and_false];rfl
theorem szs_no4{p:Prog}(h:methodsN p p.methods (out0 p)=none):sizesP p=none:=by unfold sizesP;rw[h];split <;> rfl
theorem szs_no5{p:Prog}(h:methodsN p p.methods (out0 p)=some o)(h2:(visit p false 13 ⟨p.main,0,1⟩ o).2=none):sizesP p=none:=by unfold sizesP;rw[h];simp only[h2];split <;> rfl
theorem szs_no6{p:Prog}(h:methodsN p p.methods (out0 p)=some o)(h2:(visit p false 13 ⟨p.main,0,1⟩ o).2=some o2)(h3:o2.contains (-1)=true):sizesP p=none:=by unfold sizesP;rw[h];simp only[h2,h3,if_true];split <;> rfl
theorem szs_yes{p:Prog}(h1:classesP p=true)(hh:headP p=true)(hg:p.gens.all genP=true)(h:methodsN p p.methods (out0 p)=some o)(h2:(visit p false 13 ⟨p.main,0,1⟩ o).2=some o2)(h3:o2.contains (-1)=false):sizesP p=some o2:=by
 unfold sizesP;rw[h1,hh,hg,h];simp only[h2,h3];rfl
theorem mths_step{p:Prog}{m:Mth}(hi:i<p.methods.length)(hm:m=p.methods.getD i default):methodsN p (p.methods.drop i) o=if mth1 p m && mth2 p m then (match (visit p (nextM m) 13 (bodyV p m) o).2 with
  | none=>none
  | some o=>methodsN p (p.methods.drop (i+1)) o) else none:=by
 rw[drop_getD hi,methodsN, <-hm]
theorem mths_no{p:Prog}{m:Mth}(hi:i<p.methods.length)(hm:m=p.methods.getD i default)(h:(mth1 p m && mth2 p m)=false):methodsN p (p.methods.drop i) o=none:=by
 rw[mths_step hi hm,h];rfl
theorem mths_stop{p:Prog}{m:Mth}(hi:i<p.methods.length)(hm:m=p.methods.getD i default)(h:(visit p (nextM m) 13 (bodyV p m) o).2=none):methodsN p (p.methods.drop i) o=none:=by
 rw[mths_step hi hm,h];split <;> rfl
theorem mths_go{p:Prog}{m:Mth}(hi:i<p.methods.length)(hm:m=p.methods.getD i default)(h0:(mth1 p m && mth2 p m)=true)(h:(visit p (nextM m) 13 (bodyV p m) o).2=some o'):methodsN p (p.methods.drop i) o=methodsN p (p.methods.drop (i+1)) o':=by
 rw[mths_step hi hm,h0,h];rfl
theorem visit_end{p:Prog}{x:Vis}(hx:x.dp=1)(h:(visit p next 13 x o).2.isNone=false):(visit p next 13 x o).2=some (outsV (visit p next 13 x o).1 o):=by
 cases hv:(visit p next 13 x o).2 with
 | none=>rw[hv] at h;cases h
 | some o'=>rw[(visit_vp (p:=p) (next:=next) 13 x o Yb).end_ o' hv]
theorem gens_in{p:Prog}(h:p.gens.all genP=true){n:Int}(hn:n∈p.gens):1<=n/\n<=3:=by
 have:=List.all_eq_true.1 h n hn;simp only[genP,Bool.and_eq_true,decide_eq_true_eq] at this;exact this
theorem all_noG{p:Prog}(hi:i<p.gens.length)(h:genP (p.gens.getD i default)=false):p.gens.all genP=false:=by
 cases hq:p.gens.all genP with
 | false=>rfl
 | true=>rw[List.all_eq_true.1 hq _ (getD_memB hi)] at h;cases h
theorem classes_small{p:Prog}(h:classesP p=true):p.classes.length<=10/\∀c∈p.classes,c.parents.length<=4000000/\c.slots.length<=1000:=by
 simp only[classesP,Bool.and_eq_true,decide_eq_true_eq] at h;have hA:=slotsA_mem _ _ h.1.1.2;refine⟨h.1.1.1,λc hc=>⟨?_,by have:=(hA c hc).1;omega⟩⟩;obtain⟨i,hi,rfl⟩:=List.mem_iff_getElem.1 hc;have h3:fineG 0 (graphP p)=true:=by have:=h.1.2.2;simp only[fineP,Bool.and_eq_true] at this;exact this.2
 have:=(fineG_ps (graphP p) 0 i h3 (by simpa [graphP] using hi)).1;have e:(graphP p).getD i default=p.classes[i].parents:=by
  rw[List.getD_eq_getElem?_getD,graphP,List.getElem?_map,List.getElem?_eq_getElem hi];rfl
 rw[e] at this;omega
theorem zero_of_if{b:Bool}(h:((if b=true then (0:Int) else 2)==0)=true):b=true:=by cases b <;> simp at h ⊢
theorem if_zero(b:Bool):((if b=true then (0:Int) else 2)==0)=b:=by cases b <;> simp
theorem visit_len{p:Prog}{x:Vis}(hx:x.dp=1)(h:(visit p next 13 x o).2=some o'):o'.length=o.length:=by
 rw[(visit_vp (p:=p) (next:=next) 13 x o Yb).end_ o' h,outsV_len]
theorem methods_len{p:Prog}:∀(l:List Mth) (o o':List Int),methodsN p l o=some o'->o'.length=o.length
 | [],o,o',h=>by rw[methodsN] at h;cases h;rfl
 | m::r,o,o',h=>by
  rw[methodsN] at h;split at h
  ·cases hv:(visit p (nextM m) 13 (bodyV p m) o).2 with
   | none=>rw[hv] at h;cases h
   | some o1=>
    rw[hv] at h;rw[methods_len r o1 o' h,visit_len rfl hv]
  ·cases h
theorem sizes_parts{p:Prog}(h:sizesP p=some o):classesP p=true/\headP p=true/\p.gens.all genP=true/\∃o1,methodsN p p.methods (out0 p)=some o1/\(visit p false 13 ⟨p.main,0,1⟩ o1).2=some o/\o.contains (-1)=false:=by
 unfold sizesP at h;split at h
 ·rename_i hc;rw[Bool.and_eq_true,Bool.and_eq_true] at hc;refine⟨hc.1.1,hc.1.2,hc.2,?_⟩;cases hm:methodsN p p.methods (out0 p) with
  | none=>rw[hm] at h;cases h
  | some o1=>
   rw[hm] at h;cases hv:(visit p false 13 ⟨p.main,0,1⟩ o1).2 with
   | none=>simp only[hv] at h;cases h
   | some o2=>
    simp only[hv] at h;split at h
    ·cases h
    ·rename_i hn;cases h;exact⟨o1,rfl,hv,by simpa using hn⟩
 ·cases h
theorem sizes_len{p:Prog}(h:sizesP p=some o):o.length=p.nodes.length/\p.nodes.length<=120:=by
 obtain⟨_,hh,_,o1,hm,hv,_⟩:=sizes_parts h;refine⟨by rw[visit_len rfl hv,methods_len _ _ _ hm];simp[out0],?_⟩;simp only[headP,Bool.and_eq_true,decide_eq_true_eq] at hh;omega
theorem ints_flat(o:List Int):o.map AV.i=(o.map λn=>[AV.i n]).flatten++[]:=by
 rw[List.append_nil]
 induction o with
 | nil=>rfl
 | cons a r ih=>rw[List.map_cons,ih];rfl
theorem Borrow.outs{nb n:Nat}{pre post:List AV}(hm:Ent.blk nb 3 (o.map AV.i)∈H)(hn:o.length=n)(hc:n<=1000000):Borrow H (pre++.val (.slice (some ⟨nb,0,none⟩) n n)::post) (pre++AV.ints o::post):=by
 have e:(o.map λn=>[AV.i n]).flatten++[]=o.map AV.i:=by
  rw[List.append_nil];clear hm hn
  induction o with
  | nil=>rfl
  | cons a r ih=>rw[List.map_cons,List.flatten_cons,ih];rfl
 have h:=Borrow.blk (t:=3) (b:=nb) (k:=1) (cap:=n) (els:=o.map λn=>[AV.i n]) (more:=[]) (pre:=pre) (post:=post) (H:=H) (by rw[e];exact hm) (λx hx=>by obtain⟨y,_,rfl⟩:=List.mem_map.1 hx;rfl) YP Yy;rw[List.length_map,hn] at h;exact h
structure Th where
 cls:Int
 slots:List (Int×Int)
instance:Inhabited Th:=⟨⟨0,[]⟩⟩
abbrev AV.mv(x:Int×Int):AV:=.agg (initA x)
abbrev AV.mvs(l:List (Int×Int)):AV:=.sl 2 (l.map initA)
abbrev thA(t:Th):List AV:=[.i t.cls,AV.mvs t.slots]
abbrev AV.ths(l:List Th):AV:=.sl 2 (l.map thA)
def valueP(n:Int)(x:Int×Int):Bool:=if x.1=1 then inP x.2 else if x.1=2 then x.2==0 else if x.1=3 then decide (x.2>=0) && decide (x.2<n) else false
def idxG(l:List α)(q:α->Bool):Int:=match l.findIdx? q with | some i=>(i:Int) | none=>-1
theorem idxG_at[Inhabited α]{l:List α}{q:α->Bool}{k:Nat}(hk:k<l.length)(hp:∀x∈l.take k,q x=false)(h:q (l.getD k default)=true):(k:Int)=idxG l q:=by
 have e:l.findIdx? q=some k:=by
  rw[List.findIdx?_eq_some_iff_getElem];refine⟨hk,?_,λj hj=>?_⟩
  ·rw[List.getD_eq_getElem?_getD,List.getElem?_eq_getElem hk] at h;exact h
  ·rw[hp (l[j]'Yb) Yae];simp
 rw[idxG,e]
theorem idxG_none{l:List α}{q:α->Bool}(hp:∀x∈l,q x=false):(-1:Int)=idxG l q:=by
 rw[idxG,List.findIdx?_eq_none_iff.2 hp]
theorem idxG_any(l:List α)(q:α->Bool):decide (idxG l q>=0)=l.any q:=by
 unfold idxG;cases h:l.findIdx? q with
 | none=>
  rw[List.findIdx?_eq_none_iff] at h;rw[show l.any q=false by rw[List.any_eq_false];intro x hx;rw[h x hx];simp];simp
 | some i=>
  obtain⟨hi,h1,_⟩:=List.findIdx?_eq_some_iff_getElem.1 h;rw[show l.any q=true by rw[List.any_eq_true];exact⟨_,List.getElem_mem hi,h1⟩];simp
end Go.Eng.Bd
