/- Part 9 of the proof: contracts of functions of the program and what they need. No condition beyond those that each theorem names. -/
import Derived.Test.YtodccgailpkgeaaGreatKindLeastP8
set_option maxHeartbeats 1000000
set_option linter.unusedVariables false
namespace Go.Eng
abbrev aa.ints(l:List Int):aa:=.aF 1 (l.map λn=>[aa.i n])
abbrev aa.bD(l:List (List Int)):aa:=.aF 1 (l.map λx=>[aa.ints x])
theorem bR{a b:Bool}(h:a=b):kU [aa.b a]=aa.b b:=by subst h;rfl
theorem gp{a b:Int}(h:a=b):kU [aa.i a]=aa.i b:=by subst h;rfl
theorem ym{x y:aa}(h:x=y):kU [x]=y:=h
theorem DG(n:Nat)(h:n<18446744073709551616):(BitVec.ofInt IntKind.u64.bits (n:Int)).toNat=n:=by
 simp[IntKind.bits];omega
theorem AN(n:Nat)(h:n<18446744073709551616):IntKind.u64.wrap (n:Int)=n:=by
 simp only[IntKind.wrap,IntKind.bits,IntKind.signed];simp;omega
theorem vV(s t:Nat)(aH:s<18446744073709551616)(ht:t<18446744073709551616):pT .or .u64 (s:Int) (t:Int)=some ((s ||| t:Nat):Int):=by
 show some (IntKind.u64.wrap _)=_;rw[BitVec.toNat_or,DG s aH,DG t ht,AN _ (Nat.or_lt_two_pow (n:=64) aH ht)]
theorem AO(s t:Nat)(aH:s<18446744073709551616)(ht:t<18446744073709551616):pT .and .u64 (s:Int) (t:Int)=some ((s &&& t:Nat):Int):=by
 show some (IntKind.u64.wrap _)=_;rw[BitVec.toNat_and,DG s aH,DG t ht,AN _ (Nat.lt_of_le_of_lt Nat.and_le_left aH)]
def lM(s t:Nat):Nat:=(BitVec.ofNat 64 s &&& ~~~BitVec.ofNat 64 t).toNat
theorem OC(s t:Nat):pT .andNot .u64 (s:Int) (t:Int)=some (lM s t:Int):=by
 show some (IntKind.u64.wrap _)=_;have e:∀n:Nat,BitVec.ofInt IntKind.u64.bits (n:Int)=BitVec.ofNat 64 n:=λn=>by simp[IntKind.bits]
 rw[e,e,AN _ (by exact BitVec.isLt (w:=64) _)];rfl
theorem OD(s:Nat)(c:Int):vo .shr .u64 (s:Int) c=some ((s / 2^min c.toNat 64:Nat):Int):=by
 show some ((s:Int).fdiv (2^(min c.toNat 64)))=_;congr 1;have:((2:Int)^min c.toNat 64)=((2^min c.toNat 64:Nat):Int):=by simp
 rw[this];exact (Int.ofNat_fdiv _ _).symm
theorem OE(c:Int)(h:0<=c/\c<64):vo .shl .u64 1 c=some ((2^c.toNat:Nat):Int):=by
 show some (IntKind.u64.wrap _)=_;have e:min c.toNat IntKind.u64.bits=c.toNat:=Nat.min_eq_left (by simp[IntKind.bits];omega);have ae:(1:Int)*2^(min c.toNat IntKind.u64.bits)=((2^c.toNat:Nat):Int):=by rw[e];simp
 rw[ae,AN _ (Nat.pow_lt_pow_right (a:=2) (n:=64) ad ad)]
theorem HY(s:Nat)(c:Int)(aH:s<18446744073709551616):((((s / 2^min c.toNat 64) &&& 1:Nat):Int)==1)=s.testBit c.toNat:=by
 rw[Nat.and_one_is_mod];have key:s.testBit c.toNat=decide (s / 2^min c.toNat 64%2=1):=by
  by_cases h:c.toNat<=64
  ·rw[Nat.min_eq_left h,Nat.testBit_eq_decide_div_mod_eq]
  ·rw[Nat.min_eq_right ad,Nat.testBit_lt_two_pow (Nat.lt_of_lt_of_le aH (Nat.pow_le_pow_right (n:=2) (i:=64) ad ad))];rw[Nat.div_eq_of_lt ad];simp
 rw[key];rcases Nat.mod_two_eq_zero_or_one (s / 2^min c.toNat 64) with h | h <;> rw[h] <;> rfl
namespace Fc
inductive Fact where
 | mk (op arg:Int) (path:List Int) (cls n:Int) (kids:List Fact)
def Fact.op:Fact->Int | .mk x _ _ _ _ _=>x
def Fact.arg:Fact->Int | .mk _ x _ _ _ _=>x
def Fact.path:Fact->List Int | .mk _ _ x _ _ _=>x
def Fact.cls:Fact->Int | .mk _ _ _ x _ _=>x
def Fact.n:Fact->Int | .mk _ _ _ _ x _=>x
def Fact.kids:Fact->List Fact | .mk _ _ _ _ _ x=>x
instance:Inhabited Fact:=⟨.mk 0 0 [] 0 0 []⟩
mutual
def OF:Fact->List aa
 | .mk op arg path cls n kids=>[.i op,.i arg,aa.ints path,.i cls,.i n,.aF 6 (pf kids)]
def pf:List Fact->List (List aa)
 | []=>[]
 | f::r=>OF f::pf r
end
def ix(f:Fact):List aa:=[.i f.op,.i f.arg,aa.ints f.path,.i f.cls,.i f.n,.aF 6 (pf f.kids)]
theorem Yv(f:Fact):OF f=ix f:=by cases f;rfl
theorem DH:∀l:List Fact,pf l=l.map ix
 | []=>rfl
 | f::r=>by rw[pf,Yv,DH r];rfl
instance:qy pf ix:=⟨DH⟩
abbrev aa.facts(l:List Fact):aa:=.aF 6 (pf l)
theorem AP{els:List (List aa)}(l:List Fact)(h:els=l.map ix):aL (.aF 6 els) (aa.facts l):=by subst h;rw[<-DH];exact .refl _
abbrev aa.fact(f:Fact):aa:=.agg (ix f)
mutual
def Fact.tO:Fact->Fact->Bool
 | .mk a b c d e f,.mk fY dk yn tY e' f'=>a==fY && b==dk && d==tY && e==e' && c==yn && Fact.vW f f'
def Fact.vW:List Fact->List Fact->Bool
 | [],[]=>true
 | x::r,y::s=>Fact.tO x y && Fact.vW r s
 | _,_=>false
end
mutual
theorem Fact.AQ:∀x y:Fact,Fact.tO x y=true↔x=y
 | .mk a b c d e f,.mk fY dk yn tY e' f'=>by
  rw[Fact.tO];simp only[Bool.and_eq_true,beq_iff_eq,Fact.OG f f',Fact.mk.injEq];constructor
  ·rintro⟨⟨⟨⟨⟨ab,ae⟩,aD⟩,aV⟩,bl⟩,cP⟩;exact⟨ab,ae,bl,aD,aV,cP⟩
  ·rintro⟨ab,ae,bl,aD,aV,cP⟩;exact⟨⟨⟨⟨⟨ab,ae⟩,aD⟩,aV⟩,bl⟩,cP⟩
theorem Fact.OG:∀x y:List Fact,Fact.vW x y=true↔x=y
 | [],[]=>by simp[Fact.vW]
 | [],_::_=>by simp[Fact.vW]
 | _::_,[]=>by simp[Fact.vW]
 | x::r,y::s=>by
  rw[Fact.vW];simp only[Bool.and_eq_true,Fact.AQ x y,Fact.OG r s,List.cons.injEq]
end
instance:BEq Fact:=⟨Fact.tO⟩
instance:LawfulBEq Fact where
 eq_of_beq h:=(Fact.AQ _ _).1 h
 rfl:=(Fact.AQ _ _).2 rfl
instance:DecidableEq Fact:=λa b=>if h:Fact.tO a b=true then isTrue ((Fact.AQ a b).1 h) else isFalse λe=>h ((Fact.AQ a b).2 e)
theorem Fact.ext'{x y:Fact}(ab:x.op=y.op)(ae:x.arg=y.arg)(aD:x.path=y.path)(aV:x.cls=y.cls)(bl:x.n=y.n)(cP:x.kids=y.kids):x=y:=by
 cases x;cases y;simp only[Fact.op,Fact.arg,Fact.path,Fact.cls,Fact.n,Fact.kids] at*;subst_vars;rfl
mutual
theorem Fact.p8{P:Fact->Prop}(h:∀f,(∀k∈f.kids,P k)->P f):∀f,P f
 | .mk a b c d e f=>h _ (Fact.OH h f)
theorem Fact.OH{P:Fact->Prop}(h:∀f,(∀k∈f.kids,P k)->P f):∀l:List Fact,∀k∈l,P k
 | [],_,ao=>by cases ao
 | x::r,k,ao=>by
  rcases List.mem_cons.1 ao with e | ao
  ·rw[e];exact Fact.p8 h x
  ·exact Fact.OH h r k ao
end
structure cD where
 f:Fact
 neg:Bool
def qX(l:cD):List aa:=[.i l.f.op,.i l.f.arg,aa.ints l.f.path,.i l.f.cls,.i l.f.n,.aF 6 (pf l.f.kids),.b l.neg]
instance:Inhabited cD:=⟨default,false⟩
abbrev aa.lit(l:cD):aa:=.agg (qX l)
abbrev aa.lits(l:List cD):aa:=.aF 7 (l.map qX)
structure bb where
 parents:List (List Int)
 owner:List Int
def dH(w:bb):List aa:=[aa.bD w.parents,aa.ints w.owner]
abbrev aa.set(s:Nat):aa:=.val (.int .u64 (s:Int))
def vX(w:bb)(c:Int):Bool:=decide (3<=c) && decide (c<3+w.parents.length)
def jZ(w:bb)(c:Int):Bool:=decide (0<=c) && decide (c<3+w.parents.length)
def nO(w:bb)(s:Int):Bool:=decide (0<=s) && decide (s<w.owner.length)
def p9(U:List Nat)(i:Nat)(l:List Int):Nat:=l.foldl (λs p=>s ||| U.getD p.toNat 0) (1 ||| 2^(3+i))
def iy:List (List Int)->Nat->List Nat->List Nat
 | [],_,U=>U
 | l::r,i,U=>iy r (i+1) (U.set (3+i) (p9 U i l))
def nP(w:bb):List Nat:=iy w.parents 0 ([1,3,5]++List.replicate 60 0)
def mb(i:Nat):List Int->List Int->Bool
 | _,[]=>true
 | seen,p::r=>!(decide (p<3) || decide (p>=3+i) || seen.contains p) && mb i (seen++[p]) r
def jR:Nat->List (List Int)->Bool
 | _,[]=>true
 | i,l::r=>mb i [] l && jR (i+1) r
def dm(w:bb):Bool:=decide (w.parents.length<=60) && decide (w.owner.length<=40) && jR 0 w.parents && w.owner.all (vX w)
def kg(w:bb):aa:=.ptr (dH w++(nP w).map λs=>aa.set s)
abbrev aa.world(w:bb):aa:=.agg (dH w)
def kZ(op:Int):Int:=if op=5 then 1 else if op=6\/op=7 then 2 else 0
def dO(f:Fact):Bool:=decide (2<=f.op) && decide (f.op<=4)
def nQ(w:bb)(l:List Int):Bool:=decide (l.length<=2) && l.all (nO w)
def ki(f:Fact)(left deep:Int):Bool:=decide (left<0) || (deep==0) || decide (f.op<1) || decide (f.op>7) || ((f.kids.length:Int) !=kZ f.op)
def iX(f:Fact):Bool:=!((f.arg !=0) || decide ((f.path.length:Int)>0) || (f.cls !=0) || (f.n !=0))
def iK(w:bb)(f:Fact):Bool:=!(decide (f.arg<0) || decide (f.arg>=3) || !nQ w f.path)
def kj(w:bb)(f:Fact):Bool:=if f.op=2 then (f.n==0) && jZ w f.cls else (f.cls==0) && decide (f.n>= -1000000000) && decide (f.n<=1000000000)
mutual
def gA(w:bb):Fact->Int->Int->Bool×Int
 | .mk op arg path cls n kids,left,deep=>
  if ki (.mk op arg path cls n kids) (left - 1) deep then (false,left - 1)
  else if dO (.mk op arg path cls n kids) then (iK w (.mk op arg path cls n kids) && kj w (.mk op arg path cls n kids),left - 1)
  else if iX (.mk op arg path cls n kids) then eS w kids (left - 1) (deep - 1)
  else (false,left - 1)
def eS(w:bb):List Fact->Int->Int->Bool×Int
 | [],left,_=>(true,left)
 | k::r,left,deep=>if(gA w k left deep).1 then eS w r (gA w k left deep).2 deep else gA w k left deep
end
theorem DI(w:bb)(f:Fact)(left deep:Int):gA w f left deep=if ki f (left - 1) deep then (false,left - 1) else if dO f then (iK w f && kj w f,left - 1) else if iX f then eS w f.kids (left - 1) (deep - 1) else (false,left - 1):=by
 cases f;rw[gA];rfl
def mD(w:bb)(f:Fact):Bool:=(gA w f 24 12).1
theorem OI(w:bb)(deep:Int)(x:Fact):∀(l:List Fact) (left:Int),(eS w l left deep).1=true->eS w (l++[x]) left deep=gA w x (eS w l left deep).2 deep
 | [],left,h=>by
  show eS w [x] left deep=_;rw[eS,eS,eS];by_cases ag:(gA w x left deep).1=true
  ·rw[if_pos ag];exact Prod.ext ag.symm rfl
  ·rw[if_neg ag]
 | k::r,left,h=>by
  rw[eS] at h;show eS w (k::(r++[x])) left deep=_;rw[eS];by_cases ao:(gA w k left deep).1=true
  ·rw[if_pos ao] at h;rw[if_pos ao,OI w deep x r _ h,eS,if_pos ao]
  ·rw[if_neg ao] at h;exact absurd h ao
theorem OJ(w:bb)(deep:Int)(y:List Fact):∀(l:List Fact) (left:Int),(eS w l left deep).1=false->eS w (l++y) left deep=eS w l left deep
 | [],left,h=>by rw[eS] at h;cases h
 | k::r,left,h=>by
  rw[eS] at h;show eS w (k::(r++y)) left deep=_;rw[eS,eS];by_cases ao:(gA w k left deep).1=true
  ·rw[if_pos ao] at h;rw[if_pos ao,if_pos ao,OJ w deep y r _ h]
  ·rw[if_neg ao,if_neg ao]
mutual
theorem HZ(w:bb):∀(f:Fact) (left deep:Int),(gA w f left deep).2<=left/\((gA w f left deep).1=true->0<=(gA w f left deep).2)
 | .mk op arg path cls n kids,left,deep=>by
  rw[gA];by_cases ab:ki (.mk op arg path cls n kids) (left - 1) deep=true
  ·rw[if_pos ab];exact⟨dj,bj⟩
  ·rw[if_neg ab];have ax: ¬(left - 1<0):=by
    intro h;apply ab;simp[ki,h]
   by_cases ae:dO (.mk op arg path cls n kids)=true
   ·rw[if_pos ae];exact⟨dj,λ_=>by simp;omega⟩
   ·rw[if_neg ae];by_cases aD:iX (.mk op arg path cls n kids)=true
    ·rw[if_pos aD];have:=H0 w kids (left - 1) (deep - 1) ad;exact⟨ad,this.2⟩
    ·rw[if_neg aD];exact⟨dj,bj⟩
theorem H0(w:bb):∀(l:List Fact) (left deep:Int),0<=left->(eS w l left deep).2<=left/\((eS w l left deep).1=true->0<=(eS w l left deep).2)
 | [],left,deep,h=>by rw[eS];exact⟨bj,λ_=>h⟩
 | k::r,left,deep,h=>by
  rw[eS];have ao:=HZ w k left deep;by_cases ab:(gA w k left deep).1=true
  ·rw[if_pos ab];have aK:=H0 w r (gA w k left deep).2 deep (ao.2 ab);exact⟨ad,aK.2⟩
  ·rw[if_neg ab];exact ao
end
end Fc
end Go.Eng

namespace Go.Eng
theorem aL.dx{a b:Int}(h:a=b):aL (.i a) (.i b):=by subst h;exact .refl _
end Go.Eng
namespace Go.Eng.ei
open Go.Eng.Fc
variable{i k:Nat}{α:Type}{l L out M:List Int}{v h:Int}{p:Int->Bool}{A r g:List (List Int)}
structure hh where
 parents:List Int
 aJ:List Int
 inits:List (Int×Int)
structure iz where
 kind:Int
 gen:Int
 fact:Fact
 node:Int
structure ew where
 op:Int
 n:Int
 kids:List Int
structure Prog where
 aY:List hh
 aJ:Int
 du:List Int
 methods:List iz
 nodes:List ew
 main:Int
instance:Inhabited hh:=⟨⟨[],[],[]⟩⟩
instance:Inhabited iz:=⟨⟨0,0,default,0⟩⟩
instance:Inhabited ew:=⟨⟨0,0,[]⟩⟩
abbrev vY(x:Int×Int):List aa:=[.i x.1,.i x.2]
abbrev qa(c:hh):List aa:=[aa.ints c.parents,aa.ints c.aJ,.aF 2 (c.inits.map vY)]
abbrev fw(m:iz):List aa:=[.i m.kind,.i m.gen]++ix m.fact++[.i m.node]
abbrev lN(x:ew):List aa:=[.i x.op,.i x.n,aa.ints x.kids]
abbrev dF(p:Prog):List aa:=[.aF 3 (p.aY.map qa),.i p.aJ,aa.ints p.du,.aF 9 (p.methods.map fw),.aF 3 (p.nodes.map lN),.i p.main]
abbrev aa.prog(p:Prog):aa:=.agg (dF p)
abbrev aa.cls(c:hh):aa:=.agg (qa c)
abbrev aa.AR(x:ew):aa:=.agg (lN x)
def cZ(p:Prog):List (List Int):=p.aY.map (·.parents)
def kD(i:Nat)(seen:List Int):List Int->Bool
 | []=>true
 | x::r=>!(decide (x<3) || decide (x>=3+i) || seen.contains x) && kD i (seen++[x]) r
def lg(i:Nat):List (List Int)->Bool
 | []=>true
 | l::r=>decide (l.length<=3) && kD i [] l && lg (i+1) r
def gM(g:List (List Int)):Bool:=decide (g.length<=16) && lg 0 g
def vZ(all:List (List Int))(h:Int):Bool:=!(all.any λm=>m.tail.contains h)
def kk(all:List (List Int)):List (List Int)->Option Int
 | []=>none
 | []::r=>kk all r
 | (h::_)::r=>if vZ all h then some h else kk all r
def jS(h:Int)(all:List (List Int)):List (List Int):=all.map λl=>l.filter (· !=h)
def qY:Nat->List (List Int)->List Int->List Int×Bool
 | 0,_,out=>(out,false)
 | n+1,all,out=>match kk all all with
  | some h=>qY n (jS h all) (out++[h])
  | none=>(out,all.all List.isEmpty)
def total(all:List (List Int)):Nat:=(all.map List.length).sum
def mE(all:List (List Int)):List Int×Bool:=qY (total all+1) all []
def mF(l:List Int):List Int:=l.filter (· !=0)
def lO(DJ:List (List Int))(bH:List Int):Option (List (List Int)):=
 if bH.any (λp=>(DJ.getD p.toNat []).isEmpty) then none else some (bH.map (λp=>mF (DJ.getD p.toNat []))++[bH])
def km(DJ:List (List Int))(c:Nat)(bH:List Int):List Int:=
 if c=0 then [0] else match lO DJ bH with
  | none=>[]
  | some all=>let m:=mE all;if m.2 then (c:Int)::(m.1++[0]) else []
def fH(g:List (List Int)):List (List Int):=[[],[],[]]++g
def pg:List (List Int)->Nat->List (List Int)->List (List Int)
 | [],_,out=>out
 | bH::r,c,out=>pg r (c+1) (out++[km out c bH])
def ux(g:List (List Int)):List (List Int):=pg (fH g) 0 []
def fI(g:List (List Int))(c:Int):List Int:=(ux g).getD c.toNat []
def ic:List hh->Nat->List Int
 | [],_=>[]
 | c::r,i=>List.replicate c.aJ.length ((i:Int)+3)++ic r (i+1)
def cH(p:Prog):Fc.bb:=⟨cZ p,ic p.aY 0⟩
def nR(cs:List hh)(i k:Nat):List Int:=ic (cs.take i) 0++List.replicate k ((i:Int)+3)
theorem OK(x:hh):∀(cs:List hh) (i:Nat),ic (cs++[x]) i=ic cs i++List.replicate x.aJ.length (((i+cs.length:Nat):Int)+3)
 | [],i=>by simp[ic]
 | c::r,i=>by
  rw[List.cons_append,ic,ic,OK x r (i+1),List.append_assoc,List.length_cons];congr 3;omega
theorem OL:∀(cs:List hh) (i:Nat),(∀c∈cs,c.aJ.length<=1000)->(ic cs i).length<=1000*cs.length
 | [],i,h=>by simp[ic]
 | c::r,i,h=>by
  have ab:=OL r (i+1) λx ag=>h x (.tail _ ag);have ae:=h c (.head _);rw[ic,List.length_append,List.length_replicate,List.length_cons];omega
theorem Vo{cs:List hh}(k:Nat)(h:∀c∈cs,c.aJ.length<=1000):(nR cs i k).length<=1000*cs.length+k:=by
 have:=OL (cs.take i) 0 λc ak=>h c (List.mem_of_mem_take ak);have ae:(cs.take i).length<=cs.length:=by rw[List.length_take];omega
 rw[nR,List.length_append,List.length_replicate];have:1000*(cs.take i).length<=1000*cs.length:=Nat.mul_le_mul_left _ ae;omega
theorem OM(cs:List hh)(i k:Nat):aa.ints (nR cs i (k+1))= .aF 1 (((nR cs i k).map λn=>[aa.i n])++[[aa.i ((i:Int)+3)]]):=by
 rw[nR,List.replicate_succ', <-List.append_assoc];show aa.aF 1 (List.map _ (_++_))=_;rw[List.map_append];rfl
theorem ON(cs:List hh):nR cs cs.length 0=ic cs 0:=by simp[nR]
theorem eE[Inhabited α]{l:List α}{k:Nat}(h:k<l.length):l.take k++[l.getD k default]=l.take (k+1):=by
 rw[List.take_succ_eq_append_getElem h,List.getD_eq_getElem?_getD,List.getElem?_eq_getElem h];rfl
theorem DK[Inhabited α]{l:List α}{k:Nat}(h:k<l.length):l=l.take k++l.getD k default::l.drop (k+1):=by
 rw[List.getD_eq_getElem?_getD,List.getElem?_eq_getElem h];simp
def v7(l:List Int)(v:Int):Int:=match l.findIdx? (λx=>x==v) with | some i=>(i:Int) | none=>-1
theorem Yw(ao:k<l.length)(aB:∀x∈l.take k,x≠v)(h:v=l.getD k default):(k:Int)=v7 l v:=by
 have e:l.findIdx? (λx=>x==v)=some k:=by
  rw[List.findIdx?_eq_some_iff_getElem];refine⟨ao,?_,λj aU=>?_⟩
  ·rw[h,List.getD_eq_getElem?_getD,List.getElem?_eq_getElem ao];simp
  ·have:=aB (l[j]'ad) (by rw[List.mem_take_iff_getElem];exact⟨j,ad,rfl⟩);simpa using this
 rw[v7,e]
theorem Yx(aB:∀x∈l,x≠v):(-1:Int)=v7 l v:=by
 have e:l.findIdx? (λx=>x==v)=none:=by
  rw[List.findIdx?_eq_none_iff];intro x ag;simpa using aB x ag
 rw[v7,e]
theorem Yy(l:List Int)(v:Int):decide (v7 l v>=0)=l.contains v:=by
 unfold v7;cases h:l.findIdx? (λx=>x==v) with
 | none=>
  rw[List.findIdx?_eq_none_iff] at h;symm;simp;intro ag;have:=h v ag;simp at this
 | some i=>
  rw[List.findIdx?_eq_some_iff_getElem] at h;obtain⟨av,ab,_⟩:=h;symm;simp;have:l[i]=v:=by simpa using ab
  rw[<-this];exact List.getElem_mem av
theorem OO(ao:k<l.length)(aB:∀x∈l.take k,x≠v)(h:v≠l.getD k default):∀x∈l.take (k+1),x≠v:=by
 rw[<-eE ao];intro x ag;rcases List.mem_append.1 ag with ag | ag
 ·exact aB x ag
 ·simp at ag;rw[ag];intro e;apply h;simp[e]
theorem DL(i:Nat):∀(l seen:List Int) (k:Nat),k<l.length->kD i seen (l.take (k+1))=(kD i seen (l.take k) && !(decide (l.getD k default<3) || decide (l.getD k default>=3+i) || (seen++l.take k).contains (l.getD k default)))
 | [],seen,k,h=>by simp at h
 | x::r,seen,0,h=>by simp[kD]
 | x::r,seen,k+1,h=>by
  have:=DL i r (seen++[x]) k h3;simp only[List.take_succ_cons,kD,List.getD_cons_succ];rw[this,List.append_assoc,List.singleton_append,Bool.and_assoc]
theorem OP(i:Nat):∀(l seen:List Int) (k:Nat),kD i seen l=true->kD i seen (l.take k)=true
 | [],seen,k,h=>by simpa using h
 | x::r,seen,0,h=>rfl
 | x::r,seen,k+1,h=>by
  simp only[List.take_succ_cons,kD,Bool.and_eq_true] at h ⊢;exact⟨h.1,OP i r _ k h.2⟩
theorem DM:∀(g:List (List Int)) (i k:Nat),k<g.length->lg i (g.take (k+1))=(lg i (g.take k) && (decide ((g.getD k default).length<=3) && kD (i+k) [] (g.getD k default)))
 | [],i,k,h=>by simp at h
 | l::r,i,0,h=>by simp[lg]
 | l::r,i,k+1,h=>by
  have:=DM r (i+1) k h3;simp only[List.take_succ_cons,lg,List.getD_cons_succ];rw[this,show i+1+k=i+(k+1) by omega];simp only[Bool.and_assoc]
theorem OQ:∀(g:List (List Int)) (i k:Nat),lg i g=true->lg i (g.take k)=true
 | [],i,k,h=>by simpa using h
 | l::r,i,0,h=>rfl
 | l::r,i,k+1,h=>by
  simp only[List.take_succ_cons,lg,Bool.and_eq_true] at h ⊢;exact⟨h.1,OQ r _ k h.2⟩
theorem AS{f:List α->Bool}{l:List α}(k:Nat)(fe:∀k,f l=true->f (l.take k)=true)(h:f (l.take k)=false):f l=false:=by
 cases aP:f l with
 | false=>rfl
 | true=>rw[fe k aP] at h;cases h
theorem yo(l:List Int):(l.map λn=>[aa.i n]).all eG=true:=by
 rw[List.all_eq_true];intro x ag;obtain⟨a,_,rfl⟩:=List.mem_map.1 ag;rfl
theorem Yz(l:List (List Int)):(l.map λx=>[aa.ints x]).all eG=true:=by
 rw[List.all_eq_true];intro x ag;obtain⟨a,_,rfl⟩:=List.mem_map.1 ag;rfl
def hQ(f:Fact):Int:=if f.op=2\/f.op=3\/f.op=4 then f.arg+1 else 0
mutual
def oA:Fact->Bool
 | .mk op arg path cls n kids=>decide (-1000000<=hQ (.mk op arg path cls n kids)) && decide (hQ (.mk op arg path cls n kids)<=1000000) && v8 kids
def v8:List Fact->Bool
 | []=>true
 | k::r=>oA k && v8 r
end
theorem H2{cs:List hh}(h:i<cs.length):aa.bD ((cs.take (i+1)).map (·.parents))= .aF 1 ((((cs.take i).map (·.parents)).map λx=>[aa.ints x])++[[aa.ints (cs.getD i default).parents]]):=by
 rw[<-eE h,List.map_append];show aa.aF 1 (List.map _ (_++_))=_;rw[List.map_append];rfl
theorem OR{cs:List hh}(h:i<cs.length):nR cs (i+1) 0=nR cs i (cs.getD i default).aJ.length:=by
 rw[nR, <-eE h,OK,nR,List.length_take,Nat.min_eq_left ad,Nat.zero_add];simp
theorem AT(h:i<l.length)(aB:p (l.getD i default)=true):aa.ints ((l.take (i+1)).filter p)= .aF 1 ((((l.take i).filter p).map λn=>[aa.i n])++[[aa.i (l.getD i default)]]):=by
 rw[<-eE h,List.filter_append];show aa.aF 1 (List.map _ (_++List.filter p [_]))=_;rw[List.map_append,List.filter_cons,if_pos aB];rfl
theorem AU(h:i<l.length)(aB:p (l.getD i default)=false):aa.ints ((l.take (i+1)).filter p)=aa.ints ((l.take i).filter p):=by
 rw[<-eE h,List.filter_append,List.filter_cons,if_neg (by rw[aB];simp),List.filter_nil,List.append_nil]
theorem cp[Inhabited α]{l:List α}{k:Nat}(h:k<l.length):l.getD k default∈l:=by
 rw[List.getD_eq_getElem?_getD,List.getElem?_eq_getElem h];simp
theorem yp[Inhabited α]{l:List α}{i:Nat}(h:i<l.length):l.drop i=l.getD i default::l.drop (i+1):=by
 rw[List.drop_eq_getElem_cons h,List.getD_eq_getElem?_getD,List.getElem?_eq_getElem h];rfl
theorem AV[Inhabited α]{l:List α}{i:Nat}{p:α->Bool}(h:i<l.length):(l.take (i+1)).all p=((l.take i).all p && p (l.getD i default)):=by
 rw[<-eE h,List.all_append];simp
theorem OS[Inhabited α]{l:List α}{i:Nat}{p:α->Bool}(h:i<l.length):(l.take (i+1)).any p=((l.take i).any p || p (l.getD i default)):=by
 rw[<-eE h,List.any_append];simp
theorem OT(h:L= []):kk A (L::r)=kk A r:=by subst h;rfl
theorem OU(ai:0<L.length)(h:vZ A (L.getD 0 default)=false):kk A (L::r)=kk A r:=by
 cases L with
 | nil=>simp at ai
 | cons x t=>rw[kk,if_neg (by rw[show x=(x::t).getD 0 default from rfl,h];simp)]
theorem OV(ai:0<L.length)(h:vZ A (L.getD 0 default)=true):kk A (L::r)=some (L.getD 0 default):=by
 cases L with
 | nil=>simp at ai
 | cons x t=>rw[kk,if_pos (by rw[show x=(x::t).getD 0 default from rfl,h])];rfl
theorem uy(l:List Int)(r:List (List Int)):total (l::r)=l.length+total r:=by simp[total]
theorem DN(h:Int):∀A:List (List Int),total (jS h A)<=total A
 | []=>by simp[jS,total]
 | l::r=>by
  have ab:=DN h r;have ae:=List.length_filter_le (· !=h) l;show total (l.filter (· !=h)::jS h r)<=_;rw[uy,uy];omega
theorem H3(h:Int):∀(A:List (List Int)) (i:Nat),i<A.length->h∈A.getD i default->total (jS h A)<total A
 | [],i,av,_=>by simp at av
 | l::r,0,_,hm=>by
  have ab:=DN h r;have ae:(l.filter (· !=h)).length<l.length:=by
   rcases Nat.lt_or_ge (l.filter (· !=h)).length l.length with aD | aD
   ·exact aD
   ·have e:l.filter (· !=h)=l:=List.Sublist.eq_of_length_le (List.filter_sublist) aD;rw[List.filter_eq_self] at e;have:=e h (by simpa using hm);simp at this
  show total (l.filter (· !=h)::jS h r)<_;rw[uy,uy];omega
 | l::r,i+1,av,hm=>by
  have ab:=H3 h r i rr (by simpa using hm);have ae:=List.length_filter_le (· !=h) l;show total (l.filter (· !=h)::jS h r)<_;rw[uy,uy];omega
theorem DO:∀(A:List (List Int)) (i:Nat),i<A.length->(A.getD i default).length<=total A
 | [],i,av=>by simp at av
 | l::r,0,_=>by rw[uy];simp
 | l::r,i+1,av=>by
  have ab:=DO r i rr;rw[uy,List.getD_cons_succ];omega
theorem FV(h:Int)(A:List (List Int)):(jS h A).length=A.length:=by simp[jS]
theorem OW(h:Int)(ao:k<A.length):aa.bD (jS h (A.take (k+1)))= .aF 1 (((jS h (A.take k)).map λx=>[aa.ints x])++[[aa.ints ((A.getD k default).filter (· !=h))]]):=by
 rw[<-eE ao,jS,List.map_append];show aa.aF 1 (List.map _ (_++_))=_;rw[List.map_append];rfl
theorem DP(l:List Int)(x:Int):aa.ints (l++[x])= .aF 1 ((l.map λn=>[aa.i n])++[[aa.i x]]):=by
 show aa.aF 1 (List.map _ (_++_))=_;rw[List.map_append];rfl
theorem H4{n:Nat}(hn:kk A A=some h):qY (n+1) A out=qY n (jS h A) (out++[h]):=by rw[qY,hn]
theorem H5{n:Nat}(hn:kk A A=none):qY (n+1) A out=(out,A.all List.isEmpty):=by rw[qY,hn]
theorem DQ:vZ A h= !(A.any λm=>m.tail.contains h):=rfl
theorem OX(h:0<L.length):L.isEmpty=false:=by cases L with | nil=>simp at h | cons=>rfl
theorem OY[Inhabited α]{l:List α}{j:Nat}{p:α->Bool}(h:j<l.length)(aB:p (l.getD j default)=true):l.any p=true:=List.any_eq_true.2 ⟨_,cp h,aB⟩
theorem OZ(aD:(bif decide ((0:Int)<(M.length:Int)) then (M.drop 1).contains h else false)=true):M.tail.contains h=true:=by
 rw[<-List.drop_one];cases aN:decide ((0:Int)<(M.length:Int)) with
 | true=>rw[aN] at aD;exact aD
 | false=>rw[aN] at aD;cases aD
theorem O0(aD:(bif decide ((0:Int)<(M.length:Int)) then (M.drop 1).contains h else false)=false):M.tail.contains h=false:=by
 rw[<-List.drop_one];cases aN:decide ((0:Int)<(M.length:Int)) with
 | true=>rw[aN] at aD;exact aD
 | false=>cases M with | nil=>rfl | cons=>simp at aN
theorem O1(h: ¬g.length<=16):gM g=false:=by simp[gM,h]
theorem AW(av:i<g.length)(h:(decide ((g.getD i default).length<=3) && kD i [] (g.getD i default))=false):gM g=false:=by
 have e:lg 0 (g.take (i+1))=false:=by rw[DM g 0 i av,Nat.zero_add,h,Bool.and_false]
 unfold gM;rw[AS (i+1) (λk=>OQ g 0 k) e,Bool.and_false]
theorem O2(ao:k<l.length)(h:(decide (l.getD k default<3) || decide (l.getD k default>=3+i) || (l.take k).contains (l.getD k default))=true):kD i [] l=false:=by
 have e:kD i [] (l.take (k+1))=false:=by rw[DL i l [] k ao,List.nil_append,h];simp
 exact AS (k+1) (λk=>OP i l [] k) e
def jo(op:Int):Option (Option Nat):=
 if op=5 then some none
 else if op=1\/op=2\/op=3\/op=6\/op=18 then some (some 0)
 else if op=4\/op=8\/op=17 then some (some 1)
 else if op=7\/op=9\/op=11\/op=12\/op=13\/op=14\/op=15\/op=16 then some (some 2)
 else if op=10 then some (some 3) else none
def ph(n:Int):Bool:=decide (-1000000000<=n) && decide (n<=1000000000)
def sl(p:Prog)(op size:Int):Int:=if op=3 then size else if op=4\/op=7 then p.aJ else if op=5 then p.du.length else 1
def hI(p:Prog)(x:ew)(size:Int):Bool:=
 if x.op=1 then ph x.n else if x.op=6\/x.op=8 then decide (3<=x.n) && decide (x.n<3+p.aY.length) else decide (0<=x.n) && decide (x.n<sl p x.op size)
mutual
def oB:Fact->Int
 | .mk op arg path cls n kids=>oC kids (hQ (.mk op arg path cls n kids))
def oC:List Fact->Int->Int
 | [],n=>n
 | k::r,n=>oC r (max n (oB k))
end
theorem DR(f:Fact):oB f=oC f.kids (hQ f):=by cases f;rfl
theorem H6(x:Fact):∀(l:List Fact) (n:Int),oC (l++[x]) n=max (oC l n) (oB x)
 | [],n=>rfl
 | k::r,n=>by rw[List.cons_append,oC,oC,H6 x r]
theorem DS{f:Fact}(h:oA f=true): -1000000<=hQ f/\hQ f<=1000000/\∀k∈f.kids,oA k=true:=by
 have mem:∀(l:List Fact),v8 l=true->∀k∈l,oA k=true:=by
  intro l
  induction l with
  | nil=>intro _ k ao;cases ao
  | cons x r bm=>
   intro h k ao;rw[v8,Bool.and_eq_true] at h;rcases List.mem_cons.1 ao with e | ao
   ·rw[e];exact h.1
   ·exact bm h.2 k ao
 cases f;simp only[oA,Bool.and_eq_true,decide_eq_true_eq] at h;exact⟨h.1.1,h.1.2,mem _ h.2⟩
end Go.Eng.ei

namespace Go.Eng.ei
open Go.Eng.Fc
variable{l:List (Int×aa)}{c:Go.Eng.Ctx}{O all g:List (List Int)}{bH S out o C c7 o':List Int}{k i:Nat}{α:Type}{H H':List aj}{next fQ:Bool}{env:List (Nat×aa)}{Q:Exit->Act->World->Prop}
theorem H7{A:List (List Int)}:∀{B:List (List Int)} {h:Int},kk A B=some h->∃l∈B,h∈l
 | [],h,e=>by simp[kk] at e
 | []::r,h,e=>by
  rw[kk] at e;obtain⟨l,ax,az⟩:=H7 e;exact⟨l,.tail _ ax,az⟩
 | (x::t)::r,h,e=>by
  rw[kk] at e;split at e
  ·cases e;exact⟨_,.head _,.head _⟩
  ·obtain⟨l,ax,az⟩:=H7 e;exact⟨l,.tail _ ax,az⟩
theorem H8{h x:Int}{A:List (List Int)}{l:List Int}(ax:l∈jS h A)(ag:x∈l):x≠h/\∃jz∈A,x∈jz:=by
 simp only[jS,List.mem_map] at ax;obtain⟨jz,ab,rfl⟩:=ax;rw[List.mem_filter] at ag;exact⟨by simpa using ag.2,jz,ab,ag.1⟩
theorem O3:∀(n:Nat) (A:List (List Int)) (out:List Int),out.Nodup->(∀x∈out,∀l∈A,x∉l)->(qY n A out).1.Nodup/\∀x∈(qY n A out).1,x∈out\/∃l∈A,x∈l
 | 0,A,out,ab,ae=>⟨ab,λx ag=>.inl ag⟩
 | n+1,A,out,ab,ae=>by
  cases hn:kk A A with
  | none=>rw[H5 hn];exact⟨ab,λx ag=>.inl ag⟩
  | some h=>
   rw[H4 hn];obtain⟨eJ,rz,sx⟩:=H7 hn;obtain⟨aS,ee⟩:=O3 n (jS h A) (out++[h]) (List.nodup_append.2 ⟨ab,bj,λa bN b aw e=>by simp at aw;subst aw;subst e;exact ae a bN eJ rz sx⟩) (λx ag l ax my=>by
    obtain⟨a6,jz,wa,ua⟩:=H8 ax my;rcases List.mem_append.1 ag with ag | ag
    ·exact ae x ag jz wa ua
    ·simp at ag;exact a6 ag)
   refine⟨aS,λx ag=>?_⟩;rcases ee x ag with ag | ⟨l,ax,my⟩
   ·rcases List.mem_append.1 ag with ag | ag
    ·exact .inl ag
    ·simp at ag;subst ag;exact .inr ⟨eJ,rz,sx⟩
   ·obtain⟨_,jz,wa,ua⟩:=H8 ax my;exact .inr ⟨jz,wa,ua⟩
structure DT(c:Nat)(x:List Int):Prop where
 nodup:x.Nodup
 AX:∀y∈x,0<=y/\y<=c
theorem DT.len{c:Nat}{x:List Int}(h:DT c x):x.length<=c+1:=by
 have:=List.Nodup.length_le_of_subset (l₂:=(List.range (c+1)).map Int.ofNat) h.nodup (λy hy=>by
  obtain⟨ab,ae⟩:=h.AX y hy;exact List.mem_map.2 ⟨y.toNat,dj,dj⟩)
 simpa using this
def AY(c:Nat)(bH:List Int):Prop:=bH.length<=3/\∀p∈bH,3<=p/\p<c
def pj(O:List (List Int)):Prop:=∀k,k<O.length->DT k (O.getD k [])
theorem pj.len{O:List (List Int)}(h:pj O)(k:Nat):(O.getD k []).length<=O.length+1:=by
 by_cases ao:k<O.length
 ·have:=(h k ao).len;omega
 ·rw[List.getD_eq_getElem?_getD,List.getElem?_eq_none ad];simp
theorem H9(h:lO O bH=some all):all=bH.map (λp=>mF (O.getD p.toNat []))++[bH]/\∀p∈bH,O.getD p.toNat []≠ []:=by
 unfold lO at h;split at h
 ·cases h
 ·rename_i hn;refine⟨(Option.some.inj h).symm,λp aB e=>hn (List.any_eq_true.2 ⟨p,aB,by rw[e];rfl⟩)⟩
theorem wb{l:List Nat}{m:Nat}(h:∀x∈l,x<=m):l.sum<=l.length*m:=by
 induction l with
 | nil=>simp
 | cons x r bm=>
  have ab:=h x (.head _);have ae:=bm λy hy=>h y (.tail _ hy);rw[List.sum_cons,List.length_cons,Nat.add_mul,Nat.one_mul];omega
theorem YA(l:List Int):(mF l).length<=l.length:=List.length_filter_le _ _
theorem O4(e6:pj O)(jh:bH.length<=3)(h:lO O bH=some all):total all<=3*(O.length+1)+3/\all.length<=4:=by
 obtain⟨rfl,_⟩:=H9 h;constructor
 ·simp only[total,List.map_append,List.map_map,List.map_cons,List.map_nil,List.sum_append,List.sum_cons,List.sum_nil];have ab:=wb (l:=bH.map (List.length∘λp=>mF (O.getD p.toNat []))) (m:=O.length+1) (λx ag=>by
   obtain⟨p,aB,rfl⟩:=List.mem_map.1 ag;exact Nat.le_trans (YA _) (e6.len _))
  rw[List.length_map] at ab;have ae:bH.length*(O.length+1)<=3*(O.length+1):=Nat.mul_le_mul_right _ jh;omega
 ·rw[List.length_append,List.length_map,List.length_singleton];omega
theorem Ia(e6:pj O)(jh:AY O.length bH):DT O.length (km O O.length bH):=by
 unfold km;split
 ·rename_i ai;exact⟨bj,bj⟩
 rename_i ai;cases ax:lO O bH with
 | none=>exact⟨bj,bj⟩
 | some all=>
  simp only;split
  ·obtain⟨rfl,bq⟩:=H9 ax;have key:∀l∈bH.map (λp=>mF (O.getD p.toNat []))++[bH],∀x∈l,0<x/\x<O.length:=by
    intro l ax x ag;rcases List.mem_append.1 ax with h | h
    ·obtain⟨p,aB,rfl⟩:=List.mem_map.1 h;simp only[mF,List.mem_filter,bne_iff_ne,ne_eq] at ag;have s4:=jh.2 p aB;have:=(e6 p.toNat ad).AX x ag.1;omega
    ·simp at h;subst h;have:=jh.2 x ag;omega
   obtain⟨yq,AZ⟩:=O3 (total (bH.map (λp=>mF (O.getD p.toNat []))++[bH])+1) (bH.map (λp=>mF (O.getD p.toNat []))++[bH]) [] bj bj;have A0:∀x∈(mE (bH.map (λp=>mF (O.getD p.toNat []))++[bH])).1,0<x/\x<O.length:=λx ag=>by
    rcases AZ x ag with h | ⟨l,ax,ag⟩
    ·simp at h
    ·exact key l ax x ag
   refine⟨List.nodup_cons.2 ⟨λh=>?_,List.nodup_append.2 ⟨yq,bj,λa bN b aw e=>?_⟩⟩,λy hy=>?_⟩
   ·rcases List.mem_append.1 h with h | h
    ·have:=A0 _ h;omega
    ·simp only[List.mem_singleton] at h;omega
   ·simp at aw;subst aw;subst e;have:=A0 _ bN;omega
   ·rcases List.mem_cons.1 hy with rfl | hy
    ·omega
    ·rcases List.mem_append.1 hy with h | h
     ·have:=A0 _ h;omega
     ·simp at h;omega
  ·exact⟨bj,bj⟩
theorem pj.snoc(e6:pj O)(jh:AY O.length bH):pj (O++[km O O.length bH]):=by
 intro k ao;rw[List.length_append,List.length_singleton] at ao;by_cases h:k<O.length
 ·have e:(O++[km O O.length bH]).getD k []=O.getD k []:=by rw[List.getD_eq_getElem?_getD,List.getElem?_append_left h, <-List.getD_eq_getElem?_getD]
  rw[e];exact e6 k h
 ·obtain rfl:k=O.length:=by omega
  rw[List.getD_eq_getElem?_getD,List.getElem?_append_right ad,Nat.sub_self];exact Ia e6 jh
theorem O5(i:Nat):∀(l seen:List Int),kD i seen l=true->∀x∈l,3<=x/\x<3+i
 | [],_,_,x,ag=>by cases ag
 | y::r,seen,h,x,ag=>by
  simp only[kD,Bool.and_eq_true,Bool.not_eq_true',Bool.or_eq_false_iff,decide_eq_false_iff_not] at h;rcases List.mem_cons.1 ag with rfl | ag
  ·omega
  ·exact O5 i r _ h.2 x ag
theorem DU:∀(g:List (List Int)) (i k:Nat),lg i g=true->k<g.length->AY (3+(i+k)) (g.getD k default)
 | [],i,k,_,ao=>by simp at ao
 | l::r,i,k,h,ao=>by
  simp only[lg,Bool.and_eq_true,decide_eq_true_eq] at h;cases k with
  | zero=>exact⟨h.1.1,λp aB=>by have:=O5 i l [] h.1.2 p aB;omega⟩
  | succ k=>
   have:=DU r (i+1) k h.2 (by simpa using ao);rw[show 3+(i+(k+1))=3+(i+1+k) by omega,List.getD_cons_succ];exact this
theorem qo(g:List (List Int)):(fH g).length=3+g.length:=by simp[fH];omega
theorem yr(h:gM g=true)(k:Nat):AY k ((fH g).getD k default):=by
 simp only[gM,Bool.and_eq_true,decide_eq_true_eq] at h
 match k with
 | 0=>exact⟨by simp[fH],by simp[fH]⟩
 | 1=>exact⟨by simp[fH],by simp[fH]⟩
 | 2=>exact⟨by simp[fH],by simp[fH]⟩
 | k+3=>
  have e:(fH g).getD (k+3) default=g.getD k default:=rfl;rw[e];by_cases ao:k<g.length
  ·have:=DU g 0 k h.2 ao;rwa [Nat.zero_add,Nat.add_comm] at this
  ·rw[List.getD_eq_getElem?_getD,List.getElem?_eq_none ad];exact⟨Nat.zero_le _,by intro p aB;cases aB⟩
theorem wc(h:gM g=true):g.length<=16:=by
 simp only[gM,Bool.and_eq_true,decide_eq_true_eq] at h;exact h.1
theorem O6(x:List Int):∀(l:List (List Int)) (c:Nat) (out:List (List Int)),pg (l++[x]) c out=pg l c out++[km (pg l c out) (c+l.length) x]
 | [],c,out=>by simp[pg]
 | y::r,c,out=>by
  rw[List.cons_append,pg,pg,O6 x r (c+1),List.length_cons];rw[show c+1+r.length=c+(r.length+1) by omega]
theorem O7:∀(l:List (List Int)) (c:Nat) (out:List (List Int)),(pg l c out).length=out.length+l.length
 | [],c,out=>by simp[pg]
 | y::r,c,out=>by rw[pg,O7 r,List.length_append,List.length_cons,List.length_cons,List.length_nil];omega
def mc(g:List (List Int))(k:Nat):List (List Int):=pg ((fH g).take k) 0 []
theorem uz(h:k<=3+g.length):(mc g k).length=k:=by
 rw[mc,O7,List.length_take,qo,List.length_nil];omega
theorem O8(h:k<3+g.length):mc g (k+1)=mc g k++[km (mc g k) (mc g k).length ((fH g).getD k default)]:=by
 rw[mc, <-eE (by rw[qo];exact h),O6, <-mc,uz ad,List.length_take,qo,show 0+min k (3+g.length)=k by omega]
theorem A1(g:List (List Int)):mc g (3+g.length)=ux g:=by rw[mc, <-qo,List.take_length];rfl
theorem A2{g:List (List Int)}(h:gM g=true):∀k,k<=3+g.length->pj (mc g k)
 | 0,_=>λk ao=>by simp[mc,pg] at ao
 | k+1,ao=>by
  rw[O8 ad];exact (A2 h k ad).snoc (by rw[uz ad];exact yr h k)
structure nS(l:List (Int×aa))(O:List (List Int)):Prop where
 ok:lK l
 get:∀k:Nat,hN l (k:Int)=if(O.getD k []).isEmpty then none else some (aa.ints (O.getD k []))
theorem nS.nil:nS [] []:=⟨.nil,λk=>by simp[hN]⟩
theorem O9{x:List Int}(k:Nat):(O++[x]).getD k []=if k=O.length then x else O.getD k []:=by
 by_cases h:k<O.length
 ·rw[if_neg ad,List.getD_eq_getElem?_getD,List.getElem?_append_left h, <-List.getD_eq_getElem?_getD]
 ·by_cases ae:k=O.length
  ·rw[if_pos ae,List.getD_eq_getElem?_getD,List.getElem?_append_right ad,ae,Nat.sub_self];rfl
  ·rw[if_neg ae,List.getD_eq_getElem?_getD,List.getElem?_eq_none CD,List.getD_eq_getElem?_getD,List.getElem?_eq_none ad]
theorem nS.skip(h:nS l O):nS l (O++[[]]):=by
 refine⟨h.ok,λk=>?_⟩;rw[h.get,O9];by_cases ae:k=O.length
 ·rw[if_pos ae,ae,List.getD_eq_getElem?_getD,List.getElem?_eq_none ad];rfl
 ·rw[if_neg ae]
theorem nS.put{l:List (Int×aa)}{O:List (List Int)}(h:nS l O){x:List Int}(ag:x≠ [])(aH:O.length<=1000000):nS (fg l (O.length:Int) (aa.ints x)) (O++[x]):=by
 refine⟨h.ok.put eV _,λk=>?_⟩;rw[yf,O9];by_cases ae:k=O.length
 ·rw[if_pos (by rw[ae]),if_pos ae];cases x with
  | nil=>exact absurd rfl ag
  | cons a r=>rfl
 ·rw[if_neg ad,if_neg ae,h.get]
theorem nS.look(h:nS l O)(k:Int)(ao:0<=k):aL ((hN l k).getD (.val (.slice none 0 0))) (aa.ints (O.getD k.toNat [])):=by
 have:=h.get k.toNat;rw[show ((k.toNat:Nat):Int)=k by omega] at this;rw[this];split
 ·rename_i ai;rw[List.isEmpty_iff.1 ai];exact aL.nil 1
 ·exact aL.refl _
theorem Pa{p:Int}(aB:p∈bH)(h:O.getD p.toNat []= []):lO O bH=none:=by
 unfold lO;rw[if_pos (List.any_eq_true.2 ⟨p,aB,by rw[h];rfl⟩)]
theorem Pb(h:∀p∈bH,O.getD p.toNat []≠ []):lO O bH=some (bH.map (λp=>mF (O.getD p.toNat []))++[bH]):=by
 unfold lO;rw[if_neg];intro hn;obtain⟨p,aB,he⟩:=List.any_eq_true.1 hn;exact h p aB (List.isEmpty_iff.1 he)
theorem Pc(h:k<3+g.length):mc g (k+1)=mc g k++[km (mc g k) k ((fH g).getD k default)]:=by
 rw[O8 h,uz ad]
abbrev aa.we(l:List Nat):aa:=.aF 1 (l.map λs=>[aa.set s])
abbrev DV:List (List aa):=[[.val (.slice none 0 0)],[.val (.slice none 0 0)],[.val (.slice none 0 0)]]
abbrev uA(g:List (List Int)):List (List aa):=g.map λx=>[aa.ints x]
theorem Pd(g:List (List Int)):(uA g).flatten.length=g.length:=by
 rw[qE (k:=1) (λx ag=>by obtain⟨y,_,rfl⟩:=List.mem_map.1 ag;rfl),List.length_map,Nat.mul_one]
theorem YB(g:List (List Int))(z:aa)(an:z= .val (.slice none 0 0)):(List.replicate (3+g.length) z).take (0+3*1)++(uA g).flatten++(List.replicate (3+g.length) z).drop (0+3*1+(uA g).flatten.length)=(DV++uA g).flatten++[]:=by
 subst an;rw[Pd,List.take_replicate,List.drop_replicate,show min (0+3*1) (3+g.length)=3 by omega,show 3+g.length - (0+3*1+g.length)=0 by omega];simp[DV]
theorem YC(g:List (List Int)):aL (.aF 1 (DV++uA g)) (aa.bD (fH g)):=by
 have e:aa.bD (fH g)= .aF 1 ([[aa.ints []],[aa.ints []],[aa.ints []]]++uA g):=rfl;rw[e];exact aL.aF (.cons (.cons (aL.nil 1) .nil) (.cons (.cons (aL.nil 1) .nil) (.cons (.cons (aL.nil 1) .nil) (oW.refl _))))
theorem YD(l:List Nat)(s:Nat):aa.aF 1 ((l.map λs=>[aa.set s])++[[aa.set s]])=aa.we (l++[s]):=by
 show _=aa.aF 1 (List.map _ (_++_));rw[List.map_append];rfl
theorem Pe{l:List Nat}(h:∀x∈l,x<18446744073709551616)(k:Nat):l.getD k default<18446744073709551616:=by
 rw[List.getD_eq_getElem?_getD];by_cases ao:k<l.length
 ·rw[List.getElem?_eq_getElem ao];exact h _ (List.getElem_mem ao)
 ·rw[List.getElem?_eq_none ad];show (0:Nat)<_;omega
theorem Pf(c:Int)(m:List Int):aa.ints (c::(m++[0]))= .aF 1 ([[.i c]]++m.map (λn=>[aa.i n])++[[.i 0]]):=by
 show aa.aF 1 (List.map _ (c::(m++[0])))=_;rw[List.map_cons,List.map_append];rfl
theorem YE(h:O.length=0):km O O.length bH= [0]:=by rw[km,if_pos h]
theorem Pg(h:O.length≠0)(ax:lO O bH=none):km O O.length bH= []:=by rw[km,if_neg h,ax]
theorem DW(h:O.length≠0)(ax:lO O bH=some all)(hm:(mE all).2=true):km O O.length bH=(O.length:Int)::((mE all).1++[0]):=by
 rw[km,if_neg h,ax];simp only[hm,if_true]
theorem Ph(h:O.length≠0)(ax:lO O bH=some all)(hm:(mE all).2=false):km O O.length bH= []:=by
 rw[km,if_neg h,ax];simp[hm]
theorem Pj{a b:α}{H:List α}:∀e∈ [a,b],e∈a::b::H:=λe he=>by simp at he ⊢;rcases he with h | h <;> simp[h]
theorem Pk{β:Type}(f:β->List Int)(l:List β)[Inhabited β]{k:Nat}(ao:k<l.length):aa.bD ((l.take (k+1)).map f)= .aF 1 (((l.take k).map f).map (λx=>[aa.ints x])++[[aa.ints (f (l.getD k default))]]):=by
 rw[<-eE ao,List.map_append];show aa.aF 1 (List.map _ (_++_))=_;rw[List.map_append];rfl
abbrev fy(l:List Int):List (List aa):=l.map λn=>[aa.i n]
abbrev iA(v:Value)(l:List Int):aj:=.row 3 1 v (fy l).length (fy l).flatten
theorem yt(l:List Int):(fy l).length=l.length:=by simp
theorem Pl(v:Value)(l m:List Int): .row 3 1 v ((fy l).length+(fy m).length) ((fy l).flatten++(fy m).flatten)=iA v (l++m):=by
 simp[iA]
def iB(l:List Int):List Int:=l.mergeSort λx y=>decide (x<=y)
structure pk(l:List (Int×aa))(S:List Int):Prop where
 ok:lK l
 get:∀k:Int,hN l k=if k∈S then some (.b true) else none
theorem pk.nil:pk [] []:=⟨.nil,λk=>by simp[hN]⟩
theorem pk.put{l:List (Int×aa)}{S:List Int}(h:pk l S){k:Int}(ao:gL k):pk (fg l k (.b true)) (S++[k]):=by
 refine⟨h.ok.put ao _,λcJ=>?_⟩;rw[yf,h.get];by_cases ab:cJ=k
 ·subst ab;simp
 ·rw[if_neg ab];simp[ab]
theorem pk.look(h:pk l S)(k:Int):aL ((hN l k).getD (.val (.bool false))) (.b (S.contains k)):=by
 rw[h.get];by_cases ab:k∈S
 ·rw[if_pos ab,List.contains_iff_mem.2 ab];exact aL.refl _
 ·rw[if_neg ab,show S.contains k=false from by simpa using ab];exact aL.refl _
def k0(p:Prog):Nat->List Int->List Int->List Int
 | 0,_,out=>out
 | n+1,S,out=>if S.contains ((n:Int)+3) then k0 p n (S++(p.aY.getD n default).parents) (out++(p.aY.getD n default).aJ) else k0 p n S out
def ez(p:Prog)(Pm:Int):List Int:=iB (k0 p (Pm - 2).toNat [Pm] [])
theorem YF{p:Prog}{n:Nat}{c:Int}(ak:c=n+3)(h:S.contains c=true):k0 p (c - 2).toNat S out=k0 p (c - 1 - 2).toNat (S++(p.aY.getD (c - 3).toNat default).parents) (out++(p.aY.getD (c - 3).toNat default).aJ):=by
 subst ak;rw[show ((n:Int)+3 - 2).toNat=n+1 by omega,show ((n:Int)+3 - 1 - 2).toNat=n by omega,show ((n:Int)+3 - 3).toNat=n by omega,k0,if_pos h]
theorem YG{p:Prog}{n:Nat}{c:Int}(ak:c=n+3)(h:S.contains c=false):k0 p (c - 2).toNat S out=k0 p (c - 1 - 2).toNat S out:=by
 subst ak;rw[show ((n:Int)+3 - 2).toNat=n+1 by omega,show ((n:Int)+3 - 1 - 2).toNat=n by omega,k0,if_neg zq]
section
variable{P:Program}{H:List aj}{ρ:Nat->Option aa}{o:Oper}
theorem af.YH{t:TypeId}{x dN:Operand}{b:Nat}{ke:Nat×Nat}{k:Int}{g1 g2:Bool}[bT:rN P t ke][hZ:vT P ke.2 (.bool false)](h:o.op= .lookup t x dN false)
  (ag:bf ρ x=some (g1,.val (.map (some b)))) (dB:g1=true) (ao:bf ρ dN=some (g2,.i k)) (dY:g2=true) (hm:eu b l∈H) (h9:pk l S) (eY:gL k):af P H ρ o (.b (S.contains k)):=by
 have ab:=af.ur (P:=P) (H:=H) (ke:=ke) (zv:=.bool false) h ag dB ao dY hm h9.ok eY;have e:(hN l k).getD (.val (.bool false))= .b (S.contains k):=by
  rw[h9.get];by_cases ab:k∈S
  ·rw[if_pos ab,List.contains_iff_mem.2 ab];rfl
  ·rw[if_neg ab,show S.contains k=false from by simpa using ab];rfl
 rwa [e] at ab
end
theorem qZ(b:Bool):b=false\/b=true:=by cases b <;> simp
def jT:List Int->Nat->Bool
 | [],_=>true
 | s::r,n=>(s==(n:Int)) && jT r (n+1)
def kE:List hh->Nat->Bool
 | [],_=>true
 | c::r,n=>decide (c.aJ.length<=4) && jT c.aJ n && kE r (n+c.aJ.length)
def eO(cs:List hh):Nat:=(cs.map (·.aJ.length)).sum
def mG(jk:List Int):List (Int×Int)->List Int->Bool
 | [],_=>true
 | x::r,seen=>(jk.contains x.1 && !seen.contains x.1 && ph x.2) && mG jk r (seen++[x.1])
def pn(p:Prog)(i:Nat):Bool:=!(fI (cZ p) ((i:Int)+3)).isEmpty && mG (ez p ((i:Int)+3)) (p.aY.getD i default).inits []
def gS(p:Prog):Bool:=decide (p.aY.length<=10) && kE p.aY 0 && (((eO p.aY:Int)==p.aJ) && gM (cZ p)) && (List.range p.aY.length).all (pn p)
theorem DX:∀(l:List Int) (n k:Nat),k<l.length->jT (l.take (k+1)) n=(jT (l.take k) n && (l.getD k default==((n+k:Nat):Int)))
 | [],n,k,h=>by simp at h
 | x::r,n,0,h=>by simp[jT]
 | x::r,n,k+1,h=>by
  have:=DX r (n+1) k h3;simp only[List.take_succ_cons,jT,List.getD_cons_succ];rw[this,Bool.and_assoc,show n+1+k=n+(k+1) by omega]
theorem Pn:∀(l:List Int) (n k:Nat),jT l n=true->jT (l.take k) n=true
 | [],n,k,h=>by simp[jT]
 | x::r,n,0,h=>rfl
 | x::r,n,k+1,h=>by
  simp only[List.take_succ_cons,jT,Bool.and_eq_true] at h ⊢;exact⟨h.1,Pn r _ k h.2⟩
theorem Po:∀(l:List Int) (n:Nat),jT l n=true->∀x∈l,(n:Int)<=x/\x<n+l.length
 | [],n,_,x,ag=>by cases ag
 | y::r,n,h,x,ag=>by
  simp only[jT,Bool.and_eq_true,beq_iff_eq] at h;rw[List.length_cons];rcases List.mem_cons.1 ag with rfl | ag
  ·omega
  ·have:=Po r (n+1) h.2 x ag;omega
theorem A3:∀(l:List hh) (n k:Nat),k<l.length->kE (l.take (k+1)) n=(kE (l.take k) n && (decide ((l.getD k default).aJ.length<=4) && jT (l.getD k default).aJ (n+eO (l.take k))))
 | [],n,k,h=>by simp at h
 | x::r,n,0,h=>by simp[kE,eO]
 | x::r,n,k+1,h=>by
  have:=A3 r (n+x.aJ.length) k h3;simp only[List.take_succ_cons,kE,List.getD_cons_succ];rw[this,Bool.and_assoc,Bool.and_assoc,Bool.and_assoc,show n+eO (x::r.take k)=n+x.aJ.length+eO (r.take k) by simp[eO];omega]
theorem Ib:∀(l:List hh) (n k:Nat),kE l n=true->kE (l.take k) n=true
 | [],n,k,h=>by simp[kE]
 | x::r,n,0,h=>rfl
 | x::r,n,k+1,h=>by
  simp only[List.take_succ_cons,kE,Bool.and_eq_true] at h ⊢;exact⟨h.1,Ib r _ k h.2⟩
theorem Ic{l:List hh}(h:k<l.length):eO (l.take (k+1))=eO (l.take k)+(l.getD k default).aJ.length:=by
 rw[<-eE h];simp[eO]
theorem yu:∀(l:List hh) (n:Nat),kE l n=true->∀c∈l,c.aJ.length<=4/\∀x∈c.aJ,0<=x/\x<n+4*l.length
 | [],n,_,c,ak=>by cases ak
 | y::r,n,h,c,ak=>by
  simp only[kE,Bool.and_eq_true,decide_eq_true_eq] at h;rw[List.length_cons];rcases List.mem_cons.1 ak with rfl | ak
  ·exact⟨h.1.1,λx ag=>by have:=Po _ _ h.1.2 x ag;omega⟩
  ·have:=yu r _ h.2 c ak;exact⟨this.1,λx ag=>by have:=this.2 x ag;omega⟩
theorem A4:∀(l:List hh) (n:Nat),kE l n=true->eO l<=4*l.length
 | [],n,_=>by simp[eO]
 | y::r,n,h=>by
  simp only[kE,Bool.and_eq_true,decide_eq_true_eq] at h;have:=A4 r _ h.2;have e:eO (y::r)=y.aJ.length+eO r:=by simp[eO]
  rw[e,List.length_cons];omega
theorem DY(jk:List Int):∀(l:List (Int×Int)) (seen:List Int) (k:Nat),k<l.length->mG jk (l.take (k+1)) seen=(mG jk (l.take k) seen && (jk.contains (l.getD k default).1 && !(seen++(l.take k).map (·.1)).contains (l.getD k default).1 && ph (l.getD k default).2))
 | [],seen,k,h=>by simp at h
 | x::r,seen,0,h=>by simp[mG]
 | x::r,seen,k+1,h=>by
  have:=DY jk r (seen++[x.1]) k h3;simp only[List.take_succ_cons,mG,List.getD_cons_succ];rw[this,Bool.and_assoc (jk.contains x.1 && !seen.contains x.1 && ph x.2),List.map_cons,List.append_assoc,List.singleton_append]
theorem Pp(jk:List Int):∀(l:List (Int×Int)) (seen:List Int) (k:Nat),mG jk l seen=true->mG jk (l.take k) seen=true
 | [],seen,k,h=>by simp[mG]
 | x::r,seen,0,h=>rfl
 | x::r,seen,k+1,h=>by
  simp only[List.take_succ_cons,mG,Bool.and_eq_true] at h ⊢;exact⟨h.1,Pp jk r _ k h.2⟩
theorem Ie{p:Prog}:∀(n:Nat) (S out:List Int),∀x∈k0 p n S out,x∈out\/∃i,x∈(p.aY.getD i default).aJ
 | 0,S,out,x,h=>.inl h
 | n+1,S,out,x,h=>by
  rw[k0] at h;split at h
  ·rcases Ie n _ _ x h with h | h
   ·rcases List.mem_append.1 h with h | h
    ·exact .inl h
    ·exact .inr ⟨n,h⟩
   ·exact .inr h
  ·exact Ie n _ _ x h
theorem Ig{p:Prog}{k x:Int}(h:x∈ez p k):∃c∈p.aY,x∈c.aJ:=by
 unfold ez iB at h;rw[List.mem_mergeSort] at h;rcases Ie _ _ _ x h with h | ⟨i,h⟩
 ·cases h
 ·by_cases av:i<p.aY.length
  ·exact⟨_,cp av,h⟩
  ·rw[List.getD_eq_getElem?_getD,List.getElem?_eq_none ad] at h;cases h
theorem YI{f:Nat->Bool}{n i:Nat}(av:i<n)(h:f i=false):(List.range n).all f=false:=by
 cases bd:(List.range n).all f with
 | false=>rfl
 | true=>rw[List.all_eq_true.1 bd i (List.mem_range.2 av)] at h;cases h
theorem uB{f:Nat->Bool}(h:(List.range i).all f=true)(av:f i=true):(List.range (i+1)).all f=true:=by
 rw[List.range_succ,List.all_append,h];simp[av]
theorem Pq{p:Prog}(h:decide (p.aY.length<=10)=false):gS p=false:=by
 unfold gS;rw[h];simp
theorem YJ{p:Prog}(h:kE p.aY 0=false):gS p=false:=by
 unfold gS;rw[h];simp
theorem Ih{p:Prog}(av:i<p.aY.length)(h:(decide ((p.aY.getD i default).aJ.length<=4) && jT (p.aY.getD i default).aJ (eO (p.aY.take i)))=false):gS p=false:=by
 refine YJ (AS (f:=λl=>kE l 0) (i+1) (λk=>Ib _ _ k) ?_);show kE _ _=false;rw[A3 _ _ _ av,Nat.zero_add,h,Bool.and_false]
theorem Pr{p:Prog}{i j:Nat}(av:i<p.aY.length)(aU:j<(p.aY.getD i default).aJ.length)(h:((p.aY.getD i default).aJ.getD j default==((eO (p.aY.take i)+j:Nat):Int))=false):gS p=false:=by
 refine Ih av ?_;have e:jT (p.aY.getD i default).aJ (eO (p.aY.take i))=false:=by
  refine AS (f:=λl=>jT l (eO (p.aY.take i))) (j+1) (λk=>Pn _ _ k) ?_;show jT _ _=false;rw[DX _ _ _ aU,h,Bool.and_false]
 rw[e,Bool.and_false]
theorem Ii{p:Prog}(h:(((eO p.aY:Int)==p.aJ) && gM (cZ p))=false):gS p=false:=by
 unfold gS;rw[h];simp
theorem A5{p:Prog}(av:i<p.aY.length)(h:pn p i=false):gS p=false:=by
 unfold gS;rw[YI av h,Bool.and_false]
theorem Ij{p:Prog}{i j:Nat}(aU:j<(p.aY.getD i default).inits.length)(h:((ez p ((i:Int)+3)).contains ((p.aY.getD i default).inits.getD j default).1 && !(((p.aY.getD i default).inits.take j).map (·.1)).contains ((p.aY.getD i default).inits.getD j default).1 && ph ((p.aY.getD i default).inits.getD j default).2)=false):pn p i=false:=by
 unfold pn;have e:mG (ez p ((i:Int)+3)) (p.aY.getD i default).inits []=false:=by
  refine AS (f:=λl=>mG (ez p ((i:Int)+3)) l []) (j+1) (λk=>Pp _ _ _ k) ?_;show mG _ _ _=false;rw[DY _ _ _ _ aU,List.nil_append,h,Bool.and_false]
 rw[e,Bool.and_false]
structure Prog.Small(p:Prog):Prop where
 aY:p.aY.length<=1048576
 parents:∀c∈p.aY,c.parents.length<=4000000
theorem Ps{p:Prog}(h:gM (cZ p)=true):p.aY.length<=16/\∀c∈p.aY,∀x∈c.parents,gL x:=by
 have ab:=wc h;have ae:p.aY.length<=16:=by simpa [cZ] using ab
 refine⟨ae,λc ak x ag=>?_⟩;obtain⟨i,av,rfl⟩:=List.mem_iff_getElem.1 ak;have aD:lg 0 (cZ p)=true:=by simp only[gM,Bool.and_eq_true] at h;exact h.2
 have:=DU (cZ p) 0 i aD (by simpa [cZ] using av);have e:(cZ p).getD i default=p.aY[i].parents:=by
  rw[List.getD_eq_getElem?_getD,cZ,List.getElem?_map,List.getElem?_eq_getElem av];rfl
 rw[e] at this;have:=this.2 x ag;unfold gL;omega
structure cd where
 n:Int
 bx:Int
 bL:Int
abbrev wg(x:cd):aa:=.agg [.i x.bx,.i x.bL]
def q0(p:Prog)(next:Bool)(x:ew)(bx:Int):Bool:=
 hI p x bx && (next || x.op !=18) && (match jo x.op with
  | none=>false
  | some none=>(x.kids.length:Int)==p.du.getD x.n.toNat default
  | some (some k)=>x.kids.length==k)
def nT(p:Prog)(x:cd)(out:List Int):Bool:=decide (0<=x.n) && decide (x.n<p.nodes.length) && decide (out.getD x.n.toNat default<0) && decide (x.bL<=12)
def gq(p:Prog)(x:cd):ew:=p.nodes.getD x.n.toNat default
def fS(p:Prog)(next:Bool)(x:cd)(out:List Int):Bool:=nT p x out && q0 p next (gq p x) x.bx
def jU(out:List Int)(x:cd):List Int:=out.set x.n.toNat x.bx
def hJ(x:cd)(op:Int)(i:Nat)(k:Int):cd:=⟨k,if op=9/\i=1 then x.bx+1 else x.bx,x.bL+1⟩
def iC(x:cd)(op:Int):Nat->List Int->List cd
 | _,[]=>[]
 | i,k::r=>hJ x op i k::iC x op (i+1) r
def fl(v:cd->List Int->List cd×Option (List Int)):List cd->List Int->List cd×Option (List Int)
 | [],out=>([],some out)
 | y::r,out=>match v y out with
  | (l,none)=>(l,none)
  | (l,some o)=>(l++(fl v r o).1,(fl v r o).2)
def visit(p:Prog)(next:Bool):Nat->cd->List Int->List cd×Option (List Int)
 | 0,x,out=>([x],none)
 | f+1,x,out=>if fS p next x out then
   (x::(fl (visit p next f) (iC x (gq p x).op 0 (gq p x).kids) (jU out x)).1,(fl (visit p next f) (iC x (gq p x).op 0 (gq p x).kids) (jU out x)).2)
  else ([x],none)
theorem Ik(v:cd->List Int->List cd×Option (List Int)):∀(a b:List cd) (o:List Int) {l:List cd} {o':List Int},fl v a o=(l,some o')->fl v (a++b) o=(l++(fl v b o').1,(fl v b o').2)
 | [],b,o,l,o',h=>by simp only[fl,Prod.mk.injEq,Option.some.injEq] at h;obtain⟨rfl,rfl⟩:=h;simp
 | y::r,b,o,l,o',h=>by
  rw[List.cons_append];simp only[fl] at h ⊢;rcases aC:v y o with⟨po,_ | cV⟩
  ·rw[aC] at h;simp at h
  ·rw[aC] at h;simp only[Prod.mk.injEq] at h;obtain⟨rfl,ae⟩:=h;have:=Ik v r b cV (l:=(fl v r cV).1) (o':=o') (Prod.ext rfl ae);simp only[this,List.append_assoc]
theorem Il(x:cd)(op:Int):∀(i:Nat) (l:List Int),(iC x op i l).length=l.length
 | _,[]=>rfl
 | i,k::r=>by rw[iC,List.length_cons,Il x op (i+1) r,List.length_cons]
theorem Im(x:cd)(op:Int):∀(i j:Nat) (l:List Int),(iC x op i l).drop j=iC x op (i+j) (l.drop j)
 | _,_,[]=>by simp[iC]
 | i,0,k::r=>rfl
 | i,j+1,k::r=>by rw[iC,List.drop_succ_cons,Im x op (i+1) j r,List.drop_succ_cons,show i+1+j=i+(j+1) by omega]
theorem uC{p:Prog}{f:Nat}{x:cd}(h:fS p next x out=false):visit p next f x out=([x],none):=by
 cases f with
 | zero=>rfl
 | succ f=>rw[visit,if_neg zq]
theorem wh{p:Prog}{f:Nat}{x:cd}(h:fS p next x out=true):visit p next (f+1) x out=(x::(fl (visit p next f) (iC x (gq p x).op 0 (gq p x).kids) (jU out x)).1,(fl (visit p next f) (iC x (gq p x).op 0 (gq p x).kids) (jU out x)).2):=by
 rw[visit,if_pos h]
theorem Pt{p:Prog}(f:Nat)(x:cd)(out:List Int):(visit p next f x out).1≠ []:=by
 cases h:fS p next x out with
 | false=>rw[uC h];simp
 | true=>
  cases f with
  | zero=>simp[visit]
  | succ f=>rw[wh h];simp
theorem YK{v:cd->List Int->List cd×Option (List Int)}(aC:∀x o,(v x o).1≠ []):∀(l:List cd) (o:List Int),(fl v l o).2=none->(fl v l o).1≠ []
 | [],o,h=>by simp[fl] at h
 | y::r,o,h=>by
  simp only[fl] at h ⊢;have:=aC y o;rcases bd:v y o with⟨po,_ | cV⟩
  ·rw[bd] at this;exact this
  ·rw[bd] at this;intro e;exact this (List.append_eq_nil_iff.1 e).1
theorem Pu(b:α)(A:List α)(W:α)(X:List α):(b::(A++(W::X))).Perm (A++(W::b::X)):=by
 have:=(List.perm_middle (a:=b) (l₁:=A++[W]) (l₂:=X)).symm;simpa using this
theorem Pv{p:Prog}(f:Nat)(x:cd)(out:List Int):∃t,(visit p next f x out).1=x::t:=by
 cases h:fS p next x out with
 | false=>rw[uC h];exact⟨[],rfl⟩
 | true=>
  cases f with
  | zero=>exact⟨[],rfl⟩
  | succ f=>rw[wh h];exact⟨_,rfl⟩
theorem YL{p:Prog}{f:Nat}{x:cd}{pre rest L:List cd}(df:pre++(visit p next f x out).1++rest=L):pre++[x]<+:L:=by
 obtain⟨t,ht⟩:=Pv (p:=p) (next:=next) f x out;rw[<-df,ht];exact⟨t++rest,bj⟩
theorem YM{p:Prog}{f:Nat}{x:cd}{pre rest L:List cd}(df:pre++(visit p next f x out).1++rest=L)(lE:(visit p next f x out).2≠none->fQ=true->rest≠ [])(aP:fQ=true)(h:pre++[x]=L):(visit p next f x out).2=none:=by
 obtain⟨t,ht⟩:=Pv (p:=p) (next:=next) f x out;cases aC:(visit p next f x out).2 with
 | none=>rfl
 | some o=>
  exfalso;have ab:=lE (by rw[aC];simp) aP;rw[<-df,ht,List.append_assoc] at h;have ae:=List.append_cancel_left h;simp only[List.cons_append,List.cons.injEq,true_and] at ae;exact ab (List.append_eq_nil_iff.1 ae.symm).2
theorem YN{p:Prog}{f:Nat}{x:cd}{pre rest L:List cd}(Pw:x.bL+f=14)(df:pre++(visit p next f x out).1++rest=L)(qO:(visit p next f x out).2=none->rest= []/\fQ=true)(A6:pre++[x]=L->fQ=false):
  fS p next x out=true/\∃f',f=f'+1:=by
 have cA:fS p next x out=true:=by
  cases aC:fS p next x out with
  | true=>rfl
  | false=>
   exfalso;have e:=uC (f:=f) aC;obtain⟨ab,ae⟩:=qO (by rw[e]);rw[e,ab,List.append_nil] at df;rw[A6 df] at ae;cases ae
 refine⟨cA,?_⟩;cases f with
 | succ f=>exact⟨f,rfl⟩
 | zero=>
  exfalso;simp only[fS,nT,Bool.and_eq_true,decide_eq_true_eq] at cA;omega
theorem YO{p:Prog}{x:cd}(h:fS p next x out=true):0<=x.n/\x.n<p.nodes.length:=by
 simp only[fS,nT,Bool.and_eq_true,decide_eq_true_eq] at h;exact⟨h.1.1.1.1,h.1.1.1.2⟩
theorem Px{v:cd->List Int->List cd×Option (List Int)}(aC:∀x o,(v x o).1≠ []){bc:List cd}{i:Nat}{y:cd}{s o:List Int}{l:List cd}(aN:bc.drop i=y::bc.drop (i+1))(h:fl v (bc.take i) s=(l,some o)):
  ∃R,(fl v bc s).1=l++((v y o).1++R)/\((v y o).2=none->R= []/\(fl v bc s).2=none)/\(∀o',(v y o).2=some o'->fl v (bc.take (i+1)) s=(l++(v y o).1,some o')/\((fl v bc s).2=none->R≠ [])):=by
 have fe:fl v bc s=(l++(fl v (bc.drop i) o).1,(fl v (bc.drop i) o).2):=by
  have:=Ik v (bc.take i) (bc.drop i) s h;rwa [List.take_append_drop] at this
 rw[aN] at fe;have cO:i<bc.length:=by
  rcases Nat.lt_or_ge i bc.length with ab | ab
  ·exact ab
  ·rw[List.drop_of_length_le ab] at aN;cases aN
 have YP:bc.take (i+1)=bc.take i++[y]:=by
  have:bc.drop i=bc[i]::bc.drop (i+1):=List.drop_eq_getElem_cons cO;rw[this] at aN;rw[List.take_succ_eq_append_getElem cO,(List.cons.inj aN).1]
 have qx:=Ik v (bc.take i) [y] s h;simp only[fl] at fe;rcases bd:v y o with⟨po,_ | cV⟩
 ·rw[bd] at fe;refine⟨[],by rw[fe];simp,λ_=>⟨rfl,by rw[fe]⟩,λo' h=>(by cases h)⟩
 ·rw[bd] at fe;refine⟨(fl v (bc.drop (i+1)) cV).1,by rw[fe],λh=>(by cases h),λo' h=>?_⟩;cases h;refine⟨?_,λh=>?_⟩
  ·rw[YP,qx];simp[fl,bd]
  ·rw[fe] at h;exact YK aC _ _ h
theorem Py(x:cd)(op:Int){l:List Int}{i:Nat}(h:i<l.length):(iC x op 0 l).drop i=hJ x op i (l.getD i default)::(iC x op 0 l).drop (i+1):=by
 rw[Im,Im,Nat.zero_add,Nat.zero_add,yp h,iC]
theorem YQ{p:Prog}{f:Nat}{x y:cd}{pre rest L l R:List cd}{W:List cd×Option (List Int)}(pq:visit p next (f+1) x out=(x::W.1,W.2))(df:pre++(visit p next (f+1) x out).1++rest=L)
  (qO:(visit p next (f+1) x out).2=none->rest= []/\fQ=true) (lE:(visit p next (f+1) x out).2≠none->fQ=true->rest≠ []) (hR:W.1=l++((visit p next f y o).1++R)) (s5:(visit p next f y o).2=none->R= []/\W.2=none) (rP:∀o':List Int,(visit p next f y o).2=some o'->(W.2=none->R≠ [])):
  (pre++x::l)++(visit p next f y o).1++(R++rest)=L/\((visit p next f y o).2=none->R++rest= []/\fQ=true)/\((visit p next f y o).2≠none->fQ=true->R++rest≠ []):=by
 rw[pq] at df qO lE;refine⟨by rw[<-df,hR];simp,λh=>?_,λh aP he=>?_⟩
 ·obtain⟨ab,ae⟩:=s5 h;obtain⟨aD,aV⟩:=qO ae;exact⟨by rw[ab,aD];rfl,aV⟩
 ·obtain⟨o',aA⟩:=Option.ne_none_iff_exists'.1 h;obtain⟨a6,aW⟩:=List.append_eq_nil_iff.1 he;cases hw:W.2 with
  | none=>exact rP o' aA hw a6
  | some q=>exact lE (by simp[hw]) aP aW
theorem aq.wi{r:Option Nat}{P:Program}{code:Code}(b0:H'.Sublist H)(h:aq c r P code ⟨env,H'⟩ Q):aq c r P code ⟨env,H⟩ Q:=λa w s=>h a w (s.weaken (λ_ _ h=>h) b0)
theorem aR.wi{e:Exit}(b0:H'.Sublist H)(h:aR c ⟨env,H'⟩ e Q):aR c ⟨env,H⟩ e Q:=λa w s=>h a w (s.weaken (λ_ _ h=>h) b0)
theorem DZ(A:List α)(W b:α)(X:List α):(A++(W::X)).Sublist (A++(W::b::X)):=.append_left (.cons_cons _ (.cons _ (.refl _))) _
def iD(pre:List cd)(out:List Int):List Int:=pre.foldl jU out
structure lh(p:Prog)(next:Bool)(out:List Int)(L:List cd)(r:Option (List Int)):Prop where
 yes:∀pre y,pre++[y]<+:L->¬(pre++[y]=L/\r=none)->fS p next y (iD pre out)=true
 no:∀pre y,pre++[y]=L->r=none->fS p next y (iD pre out)=false
 end_:∀o,r=some o->o=iD L out
 ne:r=none->L≠ []
theorem lh.nil{p:Prog}:lh p next out [] (some out):=
 ⟨λpre y h=>by have:=h.length_le;simp at this,λpre y h=>by simp at h,λo h=>by cases h;rfl,λh=>by cases h⟩
theorem Io(a b:List cd)(o:List Int):iD (a++b) o=iD b (iD a o):=by simp[iD]
theorem YR{A s6 A7:List α}(h:A<+:s6++A7):A<+:s6\/∃B,A=s6++B/\B<+:A7:=by
 obtain⟨t,ht⟩:=h;rcases List.append_eq_append_iff.1 ht with⟨a,ab,ae⟩ | ⟨a,ab,ae⟩
 ·exact .inl ⟨a,ab.symm⟩
 ·exact .inr ⟨a,ab,t,ae.symm⟩
theorem Pz{pre s6 B:List α}{y:α}(h:pre++[y]=s6++B)(bE:B≠ []):∃uD,B=uD++[y]/\pre=s6++uD:=by
 rcases List.eq_nil_or_concat B with rfl | ⟨uD,z,rfl⟩
 ·exact absurd rfl bE
 ·rw[List.concat_eq_append, <-List.append_assoc] at h;obtain⟨aW,cN⟩:=List.append_inj' h rfl;cases cN;exact⟨uD,List.concat_eq_append,aW⟩
theorem lh.append{p:Prog}{out cV:List Int}{s6 A7:List cd}{r:Option (List Int)}(ab:lh p next out s6 (some cV))(ae:lh p next cV A7 r):lh p next out (s6++A7) r:=by
 have a6:=ab.end_ cV rfl;refine⟨λpre y h hn=>?_,λpre y h aK=>?_,λo h=>?_,λh=>?_⟩
 ·rcases YR h with h | ⟨B,bE,aB⟩
  ·exact ab.yes pre y h (λak=>by cases ak.2)
  ·rcases Classical.em (B= []) with rfl | YS
   ·rw[List.append_nil] at bE;exact ab.yes pre y (by rw[bE];exact List.prefix_refl _) (λak=>by cases ak.2)
   ·obtain⟨uD,rfl,rfl⟩:=Pz bE YS;rw[Io, <-a6];exact ae.yes uD y aB (λak=>hn ⟨by rw[List.append_assoc,ak.1],ak.2⟩)
 ·obtain⟨uD,rfl,rfl⟩:=Pz h (ae.ne aK);rw[Io, <-a6];exact ae.no uD y rfl aK
 ·rw[Io, <-a6];exact ae.end_ o h
 ·intro e;exact ae.ne h (List.append_eq_nil_iff.1 e).2
theorem Ip{pre:List α}{x y:α}(aB:pre++[y]<+: [x]):pre= []/\y=x:=by
 have ab:=aB.length_le;simp only[List.length_append,List.length_singleton] at ab;obtain rfl:pre= []:=List.eq_nil_of_length_eq_zero ad;obtain⟨t,ht⟩:=aB;simp at ht;exact⟨rfl,ht.1⟩
theorem lh.one{p:Prog}{x:cd}(h:fS p next x out=true):lh p next out [x] (some (jU out x)):=
 ⟨λpre y aB _=>by obtain⟨rfl,rfl⟩:=Ip aB;exact h,λpre y aB aK=>by(cases aK),λo h=>by(cases h;rfl),λh=>by(cases h)⟩
theorem lh.not{p:Prog}{x:cd}(h:fS p next x out=false):lh p next out [x] none:=
 ⟨λpre y aB hn=>by obtain⟨rfl,rfl⟩:=Ip aB;exact absurd ⟨rfl,rfl⟩ hn,λpre y aB aK=>by obtain⟨rfl,rfl⟩:=Ip (by rw[aB];exact List.prefix_refl _);exact h,λo h=>by(cases h),λh=>by simp⟩
theorem lh.kids{p:Prog}{next:Bool}{v:cd->List Int->List cd×Option (List Int)}{ok:cd->Prop}(aC:∀x o,ok x->lh p next o (v x o).1 (v x o).2):∀(l:List cd),(∀x∈l,ok x)->∀(o:List Int),lh p next o (fl v l o).1 (fl v l o).2
 | [],_,o=>lh.nil
 | y::r,ax,o=>by
  have ab:=aC y o (ax y (.head _));simp only[fl];rcases bd:v y o with⟨po,_ | cV⟩
  ·rw[bd] at ab;exact ab
  ·rw[bd] at ab;exact ab.append (lh.kids aC r (λx ag=>ax x (.tail _ ag)) cV)
theorem D0(x:cd)(op:Int):∀(i:Nat) (l:List Int),∀y∈iC x op i l,y.bL=x.bL+1
 | _,[],y,h=>by simp[iC] at h
 | i,k::r,y,h=>by
  rw[iC,List.mem_cons] at h;rcases h with rfl | h
  ·rfl
  ·exact D0 x op (i+1) r y h
theorem yv{p:Prog}{next:Bool}:∀(f:Nat) (x:cd) (out:List Int),x.bL+f=14->lh p next out (visit p next f x out).1 (visit p next f x out).2
 | 0,x,out,h=>by
  refine lh.not ?_;unfold fS nT;rw[show decide (x.bL<=12)=false from decide_eq_false ad];simp
 | f+1,x,out,h=>by
  cases ao:fS p next x out with
  | false=>rw[uC ao];exact lh.not ao
  | true=>
   rw[wh ao];exact (lh.one ao).append (lh.kids (ok:=λy=>y.bL+f=14) (λy o hy=>yv f y o hy) _ (λy hy=>by rw[D0 _ _ _ _ y hy];omega) _)
theorem YT(o:List Int)(x:cd):(jU o x).length=o.length:=by simp[jU]
theorem yw:∀(l:List cd) (o:List Int),(iD l o).length=o.length
 | [],o=>rfl
 | x::r,o=>by rw[show iD (x::r) o=iD r (jU o x) from rfl,yw r,YT]
theorem PA(l:List cd)(x:cd)(o:List Int):iD (l++[x]) o=jU (iD l o) x:=by simp[iD]
def wj(x:cd):Prop:=-1000<=x.bx/\x.bx<=1000+x.bL/\1<=x.bL/\x.bL<=14
theorem PB{p:Prog}{next:Bool}:∀(f:Nat) (x:cd) (out:List Int),x.bL+f=14->wj x->∀y∈(visit p next f x out).1,wj y
 | 0,x,out,h,aH,y,hy=>by rw[show (visit p next 0 x out).1= [x] from rfl] at hy;simp at hy;subst hy;exact aH
 | f+1,x,out,h,aH,y,hy=>by
  cases ao:fS p next x out with
  | false=>rw[uC ao] at hy;simp at hy;subst hy;exact aH
  | true=>
   rw[wh ao] at hy;simp only[List.mem_cons] at hy;rcases hy with rfl | hy
   ·exact aH
   ·have key:∀(l:List cd),(∀z∈l,z.bL+f=14/\wj z)->∀(o:List Int),∀y∈(fl (visit p next f) l o).1,wj y:=by
     intro l
     induction l with
     | nil=>intro _ o y hy;simp[fl] at hy
     | cons z r bm=>
      intro ax o y hy;simp only[fl] at hy;have ab:=PB (p:=p) (next:=next) f z o (ax z (.head _)).1 (ax z (.head _)).2;rcases bd:visit p next f z o with⟨po,_ | cV⟩
      ·rw[bd] at hy ab;exact ab y hy
      ·rw[bd] at hy ab;simp only[List.mem_append] at hy;rcases hy with hy | hy
       ·exact ab y hy
       ·exact bm (λz an=>ax z (.tail _ an)) cV y hy
    refine key _ (λz an=>⟨by rw[D0 _ _ _ _ z an];omega,?_⟩) _ y hy;have PC:=D0 _ _ _ _ z an;have:∀(op:Int) (i:Nat) (l:List Int),∀z∈iC x op i l,z.bx=x.bx\/z.bx=x.bx+1:=by
     intro op i l
     induction l generalizing i with
     | nil=>intro z an;simp[iC] at an
     | cons k r bm=>
      intro z an;rw[iC,List.mem_cons] at an;rcases an with rfl | an
      ·simp only[hJ];split <;> simp
      ·exact bm (i+1) z an
    have kM:=this _ _ _ z an;unfold wj at aH ⊢;omega
theorem YU{p:Prog}{x:cd}(h:nT p x C=false):fS p next x C=false:=by simp[fS,h]
theorem YV{p:Prog}{x:cd}(h:(hI p (gq p x) x.bx && (next || (gq p x).op !=18))=false):fS p next x C=false:=by
 simp only[fS,q0,h,Bool.false_and,Bool.and_false]
theorem YW{p:Prog}{x:cd}(h:jo (gq p x).op=none):fS p next x C=false:=by
 simp[fS,q0,h]
theorem YX{p:Prog}{x:cd}(ab:nT p x C=true)(ae:(hI p (gq p x) x.bx && (next || (gq p x).op !=18))=true)(h:jo (gq p x).op=some (some k)):fS p next x C=(((gq p x).kids.length:Int)==(k:Int)):=by
 simp only[fS,q0,ab,ae,h,Bool.true_and];rw[Bool.eq_iff_iff,beq_iff_eq,beq_iff_eq];omega
theorem YY{p:Prog}{x:cd}(ab:nT p x C=true)(ae:(hI p (gq p x) x.bx && (next || (gq p x).op !=18))=true)(h:jo (gq p x).op=some none):fS p next x C=(((gq p x).kids.length:Int)==p.du.getD (gq p x).n.toNat default):=by
 simp only[fS,q0,ab,ae,h,Bool.true_and]
theorem PD{p:Prog}{x:cd}(h:nT p x C=true):0<=x.n/\x.n<p.nodes.length:=by
 simp only[nT,Bool.and_eq_true,decide_eq_true_eq] at h;exact h.1.1
theorem YZ(h:i<C.length):(C.map aa.i)[0+i*1]? =some (.i (C.getD i default)):=by
 rw[Nat.zero_add,Nat.mul_one,List.getElem?_map,List.getElem?_eq_getElem h,Option.map_some,List.getD_eq_getElem?_getD,List.getElem?_eq_getElem h];rfl
theorem Y0{s:Int}(h:i<C.length):(C.map aa.i).take (0+i*1)++[.i s]++(C.map aa.i).drop (0+i*1+1)=(C.set i s).map aa.i:=by
 rw[Nat.zero_add,Nat.mul_one,List.map_set,List.set_eq_take_append_cons_drop,if_pos h3,List.append_assoc];rfl
mutual
theorem PE(w:Fc.bb):∀(f:Fact) (left deep:Int),(gA w f left deep).1=true->oA f=true
 | .mk op arg path cls n kids,left,deep,h=>by
  rw[gA] at h;by_cases ab:ki (.mk op arg path cls n kids) (left - 1) deep=true
  ·rw[if_pos ab] at h;cases h
  rw[if_neg ab] at h;have ao:(kids.length:Int)=kZ op:=by
   have ae:ki (.mk op arg path cls n kids) (left - 1) deep=false:=by simpa using ab
   simp only[ki,Bool.or_eq_false_iff,bne_eq_false_iff_eq] at ae;exact ae.2
  by_cases ax:dO (.mk op arg path cls n kids)=true
  ·rw[if_pos ax] at h;have ax:2<=op/\op<=4:=by rw[dO,Bool.and_eq_true] at ax;exact⟨of_decide_eq_true ax.1,of_decide_eq_true ax.2⟩
   have jw:kids= []:=by
    have:kZ op=0:=by unfold kZ;rw[if_neg ad,if_neg ad]
    exact List.eq_nil_of_length_eq_zero ad
   have bN:0<=arg/\arg<3:=by
    have cQ:iK w (.mk op arg path cls n kids)=true:=by simp only[Bool.and_eq_true] at h;exact h.1
    rw[iK,Bool.not_eq_true',Bool.or_eq_false_iff,Bool.or_eq_false_iff] at cQ;have cI: ¬arg<0:=of_decide_eq_false cQ.1.1;have a2: ¬arg>=3:=of_decide_eq_false cQ.1.2;omega
   subst jw;have aw:hQ (.mk op arg path cls n [])=arg+1:=by unfold hQ;rw[if_pos (by show op=2\/op=3\/op=4;omega)];rfl
   simp only[oA,v8,aw,Bool.and_true,Bool.and_eq_true,decide_eq_true_eq];omega
  ·rw[if_neg ax] at h;have wa:dO (.mk op arg path cls n kids)=false:=by simpa using ax
   have wa: ¬(2<=op/\op<=4):=by intro ak;rw[show dO (.mk op arg path cls n kids)=true by rw[dO,Bool.and_eq_true];exact⟨decide_eq_true ak.1,decide_eq_true ak.2⟩] at wa;cases wa
   have aw:hQ (.mk op arg path cls n kids)=0:=by unfold hQ;rw[if_neg (by show ¬(op=2\/op=3\/op=4);omega)]
   by_cases aB:iX (.mk op arg path cls n kids)=true
   ·rw[if_pos aB] at h;have:=PF w kids _ _ h;simp only[oA,aw,this,Bool.and_true];decide
   ·rw[if_neg aB] at h;cases h
theorem PF(w:Fc.bb):∀(l:List Fact) (left deep:Int),(eS w l left deep).1=true->v8 l=true
 | [],left,deep,h=>rfl
 | k::r,left,deep,h=>by
  rw[eS] at h;by_cases ao:(gA w k left deep).1=true
  ·rw[if_pos ao] at h;rw[v8,PE w k _ _ ao,PF w r _ _ h];rfl
  ·rw[if_neg ao] at h;exact absurd h ao
end
theorem PG{w:Fc.bb}{f:Fact}(h:mD w f=true):oA f=true:=PE w f 24 12 h
def q1(p:Prog):Bool:=decide ((p.du.length:Int)<=8) && decide ((p.methods.length:Int)<=16) && decide ((p.nodes.length:Int)>=1) && decide ((p.nodes.length:Int)<=120)
def nU(n:Int):Bool:=decide (n>=1) && decide (n<=3)
def rQ(p:Prog)(m:iz):Bool:=decide (m.kind>=1) && decide (m.kind<=4) && decide (m.gen>=0) && decide (m.gen<p.du.length)
def rR(p:Prog)(m:iz):Bool:=(dm (cH p) && mD (cH p) m.fact) && decide (oB m.fact<=p.du.getD m.gen.toNat default)
def me(m:iz):Bool:=m.kind==1 || m.kind==4
def ns(p:Prog)(m:iz):cd:=⟨m.node,p.du.getD m.gen.toNat default,1⟩
def hS(p:Prog):List iz->List Int->Option (List Int)
 | [],out=>some out
 | m::r,out=>if rQ p m && rR p m then (match (visit p (me m) 13 (ns p m) out).2 with
  | none=>none
  | some o=>hS p r o) else none
def kn(p:Prog):List Int:=List.replicate p.nodes.length (-1)
theorem Y1(p:Prog):(kn p).map aa.i=List.replicate p.nodes.length (.i (-1)):=by simp[kn]
def bK(p:Prog):Option (List Int):=
 if gS p && q1 p && p.du.all nU then (match hS p p.methods (kn p) with
  | none=>none
  | some o=>match (visit p false 13 ⟨p.main,0,1⟩ o).2 with
   | none=>none
   | some c7=>if c7.contains (-1) then none else some c7) else none
theorem PH{p:Prog}(h:gS p=false):bK p=none:=by unfold bK;rw[h];rfl
theorem PI{p:Prog}(h:q1 p=false):bK p=none:=by unfold bK;rw[h,Bool.and_false];rfl
theorem PJ{p:Prog}(h:p.du.all nU=false):bK p=none:=by unfold bK;rw[h,Bool.and_false];rfl
theorem A8{p:Prog}(h:hS p p.methods (kn p)=none):bK p=none:=by unfold bK;rw[h];split <;> rfl
theorem PK{p:Prog}(h:hS p p.methods (kn p)=some o)(ae:(visit p false 13 ⟨p.main,0,1⟩ o).2=none):bK p=none:=by unfold bK;rw[h];simp only[ae];split <;> rfl
theorem PL{p:Prog}(h:hS p p.methods (kn p)=some o)(ae:(visit p false 13 ⟨p.main,0,1⟩ o).2=some c7)(aD:c7.contains (-1)=true):bK p=none:=by unfold bK;rw[h];simp only[ae,aD,if_true];split <;> rfl
theorem PM{p:Prog}(ab:gS p=true)(az:q1 p=true)(al:p.du.all nU=true)(h:hS p p.methods (kn p)=some o)(ae:(visit p false 13 ⟨p.main,0,1⟩ o).2=some c7)(aD:c7.contains (-1)=false):bK p=some c7:=by
 unfold bK;rw[ab,az,al,h];simp only[ae,aD];rfl
theorem Iq{p:Prog}{m:iz}(av:i<p.methods.length)(hm:m=p.methods.getD i default):hS p (p.methods.drop i) o=if rQ p m && rR p m then (match (visit p (me m) 13 (ns p m) o).2 with
  | none=>none
  | some o=>hS p (p.methods.drop (i+1)) o) else none:=by
 rw[yp av,hS, <-hm]
theorem Ir{p:Prog}{m:iz}(av:i<p.methods.length)(hm:m=p.methods.getD i default)(h:(rQ p m && rR p m)=false):hS p (p.methods.drop i) o=none:=by
 rw[Iq av hm,h];rfl
theorem PN{p:Prog}{m:iz}(av:i<p.methods.length)(hm:m=p.methods.getD i default)(h:(visit p (me m) 13 (ns p m) o).2=none):hS p (p.methods.drop i) o=none:=by
 rw[Iq av hm,h];split <;> rfl
theorem PO{p:Prog}{m:iz}(av:i<p.methods.length)(hm:m=p.methods.getD i default)(ai:(rQ p m && rR p m)=true)(h:(visit p (me m) 13 (ns p m) o).2=some o'):hS p (p.methods.drop i) o=hS p (p.methods.drop (i+1)) o':=by
 rw[Iq av hm,ai,h];rfl
theorem PQ{p:Prog}{x:cd}(ag:x.bL=1)(h:(visit p next 13 x o).2.isNone=false):(visit p next 13 x o).2=some (iD (visit p next 13 x o).1 o):=by
 cases aC:(visit p next 13 x o).2 with
 | none=>rw[aC] at h;cases h
 | some o'=>rw[(yv (p:=p) (next:=next) 13 x o ad).end_ o' aC]
theorem uE{p:Prog}(h:p.du.all nU=true){n:Int}(hn:n∈p.du):1<=n/\n<=3:=by
 have:=List.all_eq_true.1 h n hn;simp only[nU,Bool.and_eq_true,decide_eq_true_eq] at this;exact this
theorem Y2{p:Prog}(av:i<p.du.length)(h:nU (p.du.getD i default)=false):p.du.all nU=false:=by
 cases bd:p.du.all nU with
 | false=>rfl
 | true=>rw[List.all_eq_true.1 bd _ (cp av)] at h;cases h
theorem D1{p:Prog}(h:gS p=true):p.aY.length<=10/\∀c∈p.aY,c.parents.length<=4000000/\c.aJ.length<=1000:=by
 simp only[gS,Bool.and_eq_true,decide_eq_true_eq] at h;have cy:=yu _ _ h.1.1.2;refine⟨h.1.1.1,λc ak=>⟨?_,by have:=(cy c ak).1;omega⟩⟩;obtain⟨i,av,rfl⟩:=List.mem_iff_getElem.1 ak;have aD:lg 0 (cZ p)=true:=by have:=h.1.2.2;simp only[gM,Bool.and_eq_true] at this;exact this.2
 have:=(DU (cZ p) 0 i aD (by simpa [cZ] using av)).1;have e:(cZ p).getD i default=p.aY[i].parents:=by
  rw[List.getD_eq_getElem?_getD,cZ,List.getElem?_map,List.getElem?_eq_getElem av];rfl
 rw[e] at this;omega
theorem Y3{b:Bool}(h:((if b=true then (0:Int) else 2)==0)=true):b=true:=by cases b <;> simp at h ⊢
theorem Is(b:Bool):((if b=true then (0:Int) else 2)==0)=b:=by cases b <;> simp
theorem PR{p:Prog}{x:cd}(ag:x.bL=1)(h:(visit p next 13 x o).2=some o'):o'.length=o.length:=by
 rw[(yv (p:=p) (next:=next) 13 x o ad).end_ o' h,yw]
theorem PS{p:Prog}:∀(l:List iz) (o o':List Int),hS p l o=some o'->o'.length=o.length
 | [],o,o',h=>by rw[hS] at h;cases h;rfl
 | m::r,o,o',h=>by
  rw[hS] at h;split at h
  ·cases aC:(visit p (me m) 13 (ns p m) o).2 with
   | none=>rw[aC] at h;cases h
   | some cV=>
    rw[aC] at h;rw[PS r cV o' h,PR rfl aC]
  ·cases h
theorem kF{p:Prog}(h:bK p=some o):gS p=true/\q1 p=true/\p.du.all nU=true/\∃cV,hS p p.methods (kn p)=some cV/\(visit p false 13 ⟨p.main,0,1⟩ cV).2=some o/\o.contains (-1)=false:=by
 unfold bK at h;split at h
 ·rename_i ak;rw[Bool.and_eq_true,Bool.and_eq_true] at ak;refine⟨ak.1.1,ak.1.2,ak.2,?_⟩;cases hm:hS p p.methods (kn p) with
  | none=>rw[hm] at h;cases h
  | some cV=>
   rw[hm] at h;cases aC:(visit p false 13 ⟨p.main,0,1⟩ cV).2 with
   | none=>simp only[aC] at h;cases h
   | some c7=>
    simp only[aC] at h;split at h
    ·cases h
    ·rename_i hn;cases h;exact⟨cV,rfl,aC,by simpa using hn⟩
 ·cases h
theorem wk{p:Prog}(h:bK p=some o):o.length=p.nodes.length/\p.nodes.length<=120:=by
 obtain⟨_,az,_,cV,hm,aC,_⟩:=kF h;refine⟨by rw[PR rfl aC,PS _ _ _ hm];simp[kn],?_⟩;simp only[q1,Bool.and_eq_true,decide_eq_true_eq] at az;omega
theorem PT(o:List Int):o.map aa.i=(o.map λn=>[aa.i n]).flatten++[]:=by
 rw[List.append_nil]
 induction o with
 | nil=>rfl
 | cons a r bm=>rw[List.map_cons,bm];rfl
theorem gb.outs{nb n:Nat}{pre post:List aa}(hm:aj.aI nb 3 (o.map aa.i)∈H)(hn:o.length=n)(ak:n<=1000000):gb H (pre++.val (.slice (some ⟨nb,0,none⟩) n n)::post) (pre++aa.ints o::post):=by
 have e:(o.map λn=>[aa.i n]).flatten++[]=o.map aa.i:=by
  rw[List.append_nil];clear hm hn
  induction o with
  | nil=>rfl
  | cons a r bm=>rw[List.map_cons,List.flatten_cons,bm];rfl
 have h:=gb.aI (t:=3) (b:=nb) (k:=1) (cap:=n) (els:=o.map λn=>[aa.i n]) (more:=[]) (pre:=pre) (post:=post) (H:=H) (by rw[e];exact hm) (λx ag=>by obtain⟨y,_,rfl⟩:=List.mem_map.1 ag;rfl) qn lu;rw[List.length_map,hn] at h;exact h
structure PU where
 cls:Int
 aJ:List (Int×Int)
instance:Inhabited PU:=⟨⟨0,[]⟩⟩
abbrev aa.s7(l:List (Int×Int)):aa:=.aF 2 (l.map vY)
def gK(p:Prog)(c:Int):Bool:=decide (c>=3) && decide (c<3+p.aY.length) && (bK p).isSome
theorem It{p:Prog}{c:Int}(h:gK p c=true):(3<=c/\c<3+p.aY.length)/\gS p=true:=by
 simp only[gK,Bool.and_eq_true,decide_eq_true_eq] at h;obtain⟨o,aA⟩:=Option.isSome_iff_exists.1 h.2;exact⟨h.1,(kF aA).1⟩
theorem PV{p:Prog}(h:gS p=true):∀c∈p.aY,∀x∈c.parents,gL x:=by
 simp only[gS,Bool.and_eq_true,decide_eq_true_eq] at h;exact (Ps h.1.2.2).2
end Go.Eng.ei

