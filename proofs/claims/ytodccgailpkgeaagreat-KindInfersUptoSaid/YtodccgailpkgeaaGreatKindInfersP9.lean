/- A part of the proof. No condition. -/
import Derived.Test.YtodccgailpkgeaaGreatKindInfersP8
set_option linter.defProp false
set_option maxHeartbeats 1000000
set_option linter.unusedVariables false
namespace Go.Eng
abbrev ab.ints(l:ak):ab:=.ai 1 (l.map λn=>[ab.i n])
abbrev ab.bm(l:List ak):ab:=.ai 1 (l.map λx=>[ab.ints x])
def bq{a b}(h:a=b):iy [.b a]=.b b:=by subst h;rfl
def fK{a b}(h:a=b):iy [.i a]=.i b:=by subst h;rfl
def xd{x y}(h:x=y):iy [x]=y:=h
def CH(n:Nat)(h:n<18446744073709551616):(BitVec.ofInt IntKind.u64.bits (n:Int)).toNat=n:=by
 simp[IntKind.bits];omega
def zz(n:Nat)(h:n<18446744073709551616):IntKind.u64.wrap (n:Int)=n:=by
 simp only[IntKind.wrap,IntKind.bits,IntKind.signed];simp;omega
def uZ(s t:Nat)(a:s<18446744073709551616)(ht:t<18446744073709551616):pz .or .u64 (s:Int) (t:Int)=some ((s ||| t:Nat):Int):=by
 show some (IntKind.u64.wrap _)=_;rw[BitVec.toNat_or,CH s a,CH t ht,zz _ (Nat.or_lt_two_pow (n:=64) a ht)]
def zA(s t:Nat)(a:s<18446744073709551616)(ht:t<18446744073709551616):pz .and .u64 (s:Int) (t:Int)=some ((s &&& t:Nat):Int):=by
 show some (IntKind.u64.wrap _)=_;rw[BitVec.toNat_and,CH s a,CH t ht,zz _ (Nat.lt_of_le_of_lt Nat.and_le_left a)]
def l4(s t:Nat):Nat:=(BitVec.ofNat 64 s &&& ~~~BitVec.ofNat 64 t).toNat
def MW(s t:Nat):pz .andNot .u64 (s:Int) (t:Int)=some (l4 s t:Int):=by
 show some (IntKind.u64.wrap _)=_;have e:∀n:Nat,BitVec.ofInt IntKind.u64.bits (n:Int)=BitVec.ofNat 64 n:=λn=>by simp[IntKind.bits]
 rw[e,e,zz _ (by exact BitVec.isLt (w:=64) _)];rfl
def MX(s:Nat)(c):ux .shr .u64 (s:Int) c=some ((s / 2^min c.toNat 64:Nat):Int):=by
 show some ((s:Int).fdiv (2^(min c.toNat 64)))=_;congr 1;have:((2:Int)^min c.toNat 64)=((2^min c.toNat 64:Nat):Int):=by simp
 rw[this];exact (Int.ofNat_fdiv _ _).symm
def MY(c)(h:0<=c/\c<64):ux .shl .u64 1 c=some ((2^c.toNat:Nat):Int):=by
 show some (IntKind.u64.wrap _)=_;have e:min c.toNat IntKind.u64.bits=c.toNat:=Nat.min_eq_left (by simp[IntKind.bits];omega);have f:(1:Int)*2^(min c.toNat IntKind.u64.bits)=((2^c.toNat:Nat):Int):=by rw[e];simp
 rw[f,zz _ (Nat.pow_lt_pow_right (a:=2) (n:=64) aa aa)]
def GI(s)(c:Int)(f:s<18446744073709551616):((((s / 2^min c.toNat 64) &&& 1:Nat):Int)==1)=s.testBit c.toNat:=by
 rw[Nat.and_one_is_mod];have a:s.testBit c.toNat=decide (s / 2^min c.toNat 64%2=1):=by
  by_cases h:c.toNat<=64
  ·rw[Nat.min_eq_left h,Nat.testBit_eq_decide_div_mod_eq]
  ·rw[Nat.min_eq_right aa,Nat.testBit_lt_two_pow (Nat.lt_of_lt_of_le f (Nat.pow_le_pow_right (n:=2) (i:=64) aa aa))];rw[Nat.div_eq_of_lt aa];simp
 rw[a];rcases Nat.mod_two_eq_zero_or_one (s / 2^min c.toNat 64) with h | h <;> rw[h] <;> rfl
namespace Fc
inductive Fact where
 | mk (op arg:Int) (path:List Int) (cls n:Int) (kids:List Fact)
def Fact.op:Fact->Int | .mk x _ _ _ _ _=>x
def Fact.arg:Fact->Int | .mk _ x _ _ _ _=>x
def Fact.path:Fact->ak | .mk _ _ x _ _ _=>x
def Fact.cls:Fact->Int | .mk _ _ _ x _ _=>x
def Fact.n:Fact->Int | .mk _ _ _ _ x _=>x
def Fact.kids:Fact->List Fact | .mk _ _ _ _ _ x=>x
instance:Inhabited Fact:=⟨.mk 0 0 [] 0 0 []⟩
mutual
def MZ:Fact->bl
 | .mk op arg path cls n kids=>[.i op,.i arg,ab.ints path,.i cls,.i n,.ai 6 (kt kids)]
def kt:List Fact->List bl
 | []=>[]
 | f::r=>MZ f::kt r
end
def fy(f:Fact):bl:=[.i f.op,.i f.arg,ab.ints f.path,.i f.cls,.i f.n,.ai 6 (kt f.kids)]
def Xp(f):MZ f=fy f:=by cases f;rfl
theorem oK:∀l:List Fact,kt l=l.map fy
 | []=>rfl
 | f::r=>by rw[kt,Xp,oK r];rfl
instance:pB kt fy:=⟨oK⟩
abbrev ab.facts(l:List Fact):ab:=.ai 6 (kt l)
def tr{els}(l)(h:els=l.map fy):an (.ai 6 els) (ab.facts l):=by subst h;rw[<-oK];exact .refl _
abbrev ab.fact(f:Fact):ab:=.agg (fy f)
mutual
def Fact.uy:Fact->Fact->Bool
 | .mk a b c d e f,.mk kA dI Xq FT e' f'=>a==kA && b==dI && d==FT && e==e' && c==Xq && Fact.u0 f f'
def Fact.u0:List Fact->List Fact->Bool
 | [],[]=>true
 | x::r,y::s=>Fact.uy x y && Fact.u0 r s
 | _,_=>false
end
mutual
theorem Fact.GJ:∀x y:Fact,Fact.uy x y=true↔x=y
 | .mk a b c d e f,.mk t s v r w q=>by
  rw[Fact.uy];simp[Bool.and_eq_true,beq_iff_eq,Fact.M0 f q,Fact.mk.injEq];constructor
  ·rintro⟨⟨⟨⟨⟨h,m⟩,l⟩,g⟩,j⟩,o⟩;exact⟨h,m,j,l,g,o⟩
  ·rintro⟨h,m,j,l,g,o⟩;exact⟨⟨⟨⟨⟨h,m⟩,l⟩,g⟩,j⟩,o⟩
theorem Fact.M0:∀x y:List Fact,Fact.u0 x y=true↔x=y
 | [],[]=>by simp[Fact.u0]
 | [],_::_=>by simp[Fact.u0]
 | _::_,[]=>by simp[Fact.u0]
 | x::r,y::s=>by
  rw[Fact.u0];simp[Bool.and_eq_true,Fact.GJ x y,Fact.M0 r s,List.cons.injEq]
end
instance:BEq Fact:=⟨Fact.uy⟩
instance:LawfulBEq Fact where
 eq_of_beq h:=(Fact.GJ _ _).1 h
 rfl:=(Fact.GJ _ _).2 rfl
def Fact.ext'{x y:Fact}(g:x.op=y.op)(f:x.arg=y.arg)(c:x.path=y.path)(a:x.cls=y.cls)(j:x.n=y.n)(h:x.kids=y.kids):x=y:=by
 cases x;cases y;simp only[Fact.op,Fact.arg,Fact.path,Fact.cls,Fact.n,Fact.kids] at*;subst_vars;rfl
mutual
theorem Fact.l5{P:Fact->Prop}(h:∀f,(∀k∈f.kids,P k)->P f):∀f,P f
 | .mk a b c d e f=>h _ (Fact.M1 h f)
theorem Fact.M1{P:Fact->Prop}(h:∀f,(∀k∈f.kids,P k)->P f):∀l:List Fact,∀k∈l,P k
 | [],_,a=>by cases a
 | x::r,k,a=>by
  rcases List.mem_cons.1 a with e | a
  ·rw[e];exact Fact.l5 h x
  ·exact Fact.M1 h r k a
end
structure cZ where
 f:Fact
 neg:Bool
def pS(l:cZ):bl:=[.i l.f.op,.i l.f.arg,ab.ints l.f.path,.i l.f.cls,.i l.f.n,.ai 6 (kt l.f.kids),.b l.neg]
instance:Inhabited cZ:=⟨default,false⟩
abbrev ab.lit(l:cZ):ab:=.agg (pS l)
abbrev ab.lits(l:List cZ):ab:=.ai 7 (l.map pS)
structure bt where
 parents:List ak
 owner:ak
def cD(w:bt):bl:=[ab.bm w.parents,ab.ints w.owner]
abbrev ab.set(s:Nat):ab:=.val (.int .u64 (s:Int))
def r9(w:bt)(c:Int):Bool:=decide (3<=c) && decide (c<3+w.parents.length)
def jf(w:bt)(c:Int):Bool:=decide (0<=c) && decide (c<3+w.parents.length)
def o0(w:bt)(s:Int):Bool:=decide (0<=s) && decide (s<w.owner.length)
def o1(U:dq)(i:Nat)(l:ak):Nat:=l.foldl (λs p=>s ||| U.getD p.toNat 0) (1 ||| 2^(3+i))
def hA:List ak->Nat->dq->dq
 | [],_,U=>U
 | l::r,i,U=>hA r (i+1) (U.set (3+i) (o1 U i l))
def mF(w:bt):dq:=hA w.parents 0 ([1,3,5]++List.replicate 60 0)
def k2(i:Nat):ak->ak->Bool
 | _,[]=>true
 | seen,p::r=>!(decide (p<3) || decide (p>=3+i) || seen.contains p) && k2 i (seen++[p]) r
def iB:Nat->List ak->Bool
 | _,[]=>true
 | i,l::r=>k2 i [] l && iB (i+1) r
def cx(w:bt):Bool:=decide (w.parents.length<=60) && decide (w.owner.length<=40) && iB 0 w.parents && w.owner.all (r9 w)
def iP(w:bt):ab:=.ptr (cD w++(mF w).map λs=>ab.set s)
abbrev ab.world(w:bt):ab:=.agg (cD w)
def j6(op:Int):Int:=if op=5 then 1 else if op=6\/op=7 then 2 else 0
def dm(f:Fact):Bool:=decide (2<=f.op) && decide (f.op<=4)
def o2(w:bt)(l:ak):Bool:=decide (l.length<=2) && l.all (o0 w)
def iQ(f:Fact)(left deep:Int):Bool:=decide (left<0) || (deep==0) || decide (f.op<1) || decide (f.op>7) || ((f.kids.length:Int) !=j6 f.op)
def jk(f:Fact):Bool:=!((f.arg !=0) || decide ((f.path.length:Int)>0) || (f.cls !=0) || (f.n !=0))
def jl(w:bt)(f:Fact):Bool:=!(decide (f.arg<0) || decide (f.arg>=3) || !o2 w f.path)
def kE(w:bt)(f:Fact):Bool:=if f.op=2 then (f.n==0) && jf w f.cls else (f.cls==0) && decide (f.n>= -1000000000) && decide (f.n<=1000000000)
mutual
def fz(w:bt):Fact->Int->Int->Bool×Int
 | .mk op arg path cls n kids,left,deep=>
  if iQ (.mk op arg path cls n kids) (left - 1) deep then (false,left - 1)
  else if dm (.mk op arg path cls n kids) then (jl w (.mk op arg path cls n kids) && kE w (.mk op arg path cls n kids),left - 1)
  else if jk (.mk op arg path cls n kids) then ek w kids (left - 1) (deep - 1)
  else (false,left - 1)
def ek(w:bt):List Fact->Int->Int->Bool×Int
 | [],left,_=>(true,left)
 | k::r,left,deep=>if(fz w k left deep).1 then ek w r (fz w k left deep).2 deep else fz w k left deep
end
def CI(w)(f)(left a):fz w f left a=if iQ f (left - 1) a then (false,left - 1) else if dm f then (jl w f && kE w f,left - 1) else if jk f then ek w f.kids (left - 1) (a - 1) else (false,left - 1):=by
 cases f;rw[fz];rfl
def lA(w:bt)(f:Fact):Bool:=(fz w f 24 12).1
theorem M3(w)(a)(x):∀(l:List Fact) (left:Int),(ek w l left a).1=true->ek w (l++[x]) left a=fz w x (ek w l left a).2 a
 | [],left,h=>by
  show ek w [x] left a=_;rw[ek,ek,ek];by_cases f:(fz w x left a).1=true
  ·rw[if_pos f];exact Prod.ext f.symm rfl
  ·rw[if_neg f]
 | k::r,left,h=>by
  rw[ek] at h;show ek w (k::(r++[x])) left a=_;rw[ek];by_cases c:(fz w k left a).1=true
  ·rw[if_pos c] at h;rw[if_pos c,M3 w a x r _ h,ek,if_pos c]
  ·rw[if_neg c] at h;exact absurd h c
theorem M4(w)(a)(y):∀(l:List Fact) (left:Int),(ek w l left a).1=false->ek w (l++y) left a=ek w l left a
 | [],left,h=>by rw[ek] at h;cases h
 | k::r,left,h=>by
  rw[ek] at h;show ek w (k::(r++y)) left a=_;rw[ek,ek];by_cases c:(fz w k left a).1=true
  ·rw[if_pos c] at h;rw[if_pos c,if_pos c,M4 w a y r _ h]
  ·rw[if_neg c,if_neg c]
mutual
theorem GK(w):∀(f:Fact) (left a:Int),(fz w f left a).2<=left/\((fz w f left a).1=true->0<=(fz w f left a).2)
 | .mk op arg path cls n kids,left,a=>by
  rw[fz];by_cases c:iQ (.mk op arg path cls n kids) (left - 1) a=true
  ·rw[if_pos c];exact⟨cB,aS⟩
  ·rw[if_neg c];have l: ¬(left - 1<0):=by
    intro h;apply c;simp[iQ,h]
   by_cases j:dm (.mk op arg path cls n kids)=true
   ·rw[if_pos j];exact⟨cB,λ_=>by simp;omega⟩
   ·rw[if_neg j];by_cases g:jk (.mk op arg path cls n kids)=true
    ·rw[if_pos g];have:=GL w kids (left - 1) (a - 1) aa;exact⟨aa,this.2⟩
    ·rw[if_neg g];exact⟨cB,aS⟩
theorem GL(w):∀(l:List Fact) (left a:Int),0<=left->(ek w l left a).2<=left/\((ek w l left a).1=true->0<=(ek w l left a).2)
 | [],left,a,h=>by rw[ek];exact⟨aS,λ_=>h⟩
 | k::r,left,a,h=>by
  rw[ek];have f:=GK w k left a;by_cases c:(fz w k left a).1=true
  ·rw[if_pos c];have g:=GL w r (fz w k left a).2 a (f.2 c);exact⟨aa,g.2⟩
  ·rw[if_neg c];exact f
end
end Fc
end Go.Eng

namespace Go.Eng
def an.b4{a b}(h:a=b):an (.i a) (.i b):=by subst h;exact .refl _
end Go.Eng
namespace Go.Eng.dN
open Go.Eng.Fc
variable{i k:Nat}{α:Type}{l L out M:ak}{v h:Int}{p:Int->Bool}{A r g:List ak}
structure h9 where
 parents:ak
 av:ak
 inits:List (Int×Int)
structure jm where
 kind:Int
 gen:Int
 fact:Fact
 node:Int
structure hi where
 op:Int
 n:Int
 kids:ak
structure Prog where
 aE:List h9
 av:Int
 cT:ak
 methods:List jm
 nodes:List hi
 main:Int
instance:Inhabited h9:=⟨⟨[],[],[]⟩⟩
instance:Inhabited jm:=⟨⟨0,0,default,0⟩⟩
instance:Inhabited hi:=⟨⟨0,0,[]⟩⟩
abbrev qW(x:Int×Int):bl:=[.i x.1,.i x.2]
abbrev o3(c:h9):bl:=[ab.ints c.parents,ab.ints c.av,.ai 2 (c.inits.map qW)]
abbrev eR(m:jm):bl:=[.i m.kind,.i m.gen]++fy m.fact++[.i m.node]
abbrev ia(x:hi):bl:=[.i x.op,.i x.n,ab.ints x.kids]
abbrev cM(p:Prog):bl:=[.ai 3 (p.aE.map o3),.i p.av,ab.ints p.cT,.ai 9 (p.methods.map eR),.ai 3 (p.nodes.map ia),.i p.main]
abbrev ab.prog(p:Prog):ab:=.agg (cM p)
abbrev ab.cls(c:h9):ab:=.agg (o3 c)
abbrev ab.zB(x:hi):ab:=.agg (ia x)
def b9(p:Prog):List ak:=p.aE.map (·.parents)
def jn(i:Nat)(seen:ak):ak->Bool
 | []=>true
 | x::r=>!(decide (x<3) || decide (x>=3+i) || seen.contains x) && jn i (seen++[x]) r
def j7(i:Nat):List ak->Bool
 | []=>true
 | l::r=>decide (l.length<=3) && jn i [] l && j7 (i+1) r
def fX(g:List ak):Bool:=decide (g.length<=16) && j7 0 g
def u1(all:List ak)(h:Int):Bool:=!(all.any λm=>m.tail.contains h)
def iR(all:List ak):List ak->Option Int
 | []=>none
 | []::r=>iR all r
 | (h::_)::r=>if u1 all h then some h else iR all r
def iC(h:Int)(all:List ak):List ak:=all.map λl=>l.filter (· !=h)
def pT:Nat->List ak->ak->ak×Bool
 | 0,_,out=>(out,false)
 | n+1,all,out=>match iR all all with
  | some h=>pT n (iC h all) (out++[h])
  | none=>(out,all.all List.isEmpty)
def total(all:List ak):Nat:=(all.map List.length).sum
def lB(all:List ak):ak×Bool:=pT (total all+1) all []
def lC(l:ak):ak:=l.filter (· !=0)
def kF(CJ:List ak)(bZ:ak):Option (List ak):=
 if bZ.any (λp=>(CJ.getD p.toNat []).isEmpty) then none else some (bZ.map (λp=>lC (CJ.getD p.toNat []))++[bZ])
def iS(CJ:List ak)(c:Nat)(bZ:ak):ak:=
 if c=0 then [0] else match kF CJ bZ with
  | none=>[]
  | some all=>let m:=lB all;if m.2 then (c:Int)::(m.1++[0]) else []
def e6(g:List ak):List ak:=[[],[],[]]++g
def n9:List ak->Nat->List ak->List ak
 | [],_,out=>out
 | bZ::r,c,out=>n9 r (c+1) (out++[iS out c bZ])
def ts(g:List ak):List ak:=n9 (e6 g) 0 []
def dE(g:List ak)(c:Int):ak:=(ts g).getD c.toNat []
def hj:List h9->Nat->ak
 | [],_=>[]
 | c::r,i=>List.replicate c.av.length ((i:Int)+3)++hj r (i+1)
def bS(p:Prog):Fc.bt:=⟨b9 p,hj p.aE 0⟩
def mG(cs:List h9)(i k:Nat):ak:=hj (cs.take i) 0++List.replicate k ((i:Int)+3)
theorem M5(x):∀(a:List h9) (i:Nat),hj (a++[x]) i=hj a i++List.replicate x.av.length (((i+a.length:Nat):Int)+3)
 | [],i=>by simp[hj]
 | c::r,i=>by
  rw[List.cons_append,hj,hj,M5 x r (i+1),List.append_assoc,List.length_cons];congr 3;omega
theorem M6:∀(a:List h9) (i:Nat),(∀c∈a,c.av.length<=1000)->(hj a i).length<=1000*a.length
 | [],i,h=>by simp[hj]
 | c::r,i,h=>by
  have j:=M6 r (i+1) λx f=>h x (.tail _ f);have g:=h c dv;rw[hj,List.length_append,List.length_replicate,List.length_cons];omega
def T8{cs}(k)(h:∀c∈cs,c.av.length<=1000):(mG cs i k).length<=1000*cs.length+k:=by
 have:=M6 (cs.take i) 0 λc a=>h c (List.mem_of_mem_take a);have f:(cs.take i).length<=cs.length:=by rw[List.length_take];omega
 rw[mG,List.length_append,List.length_replicate];have:1000*(cs.take i).length<=1000*cs.length:=Nat.mul_le_mul_left _ f;omega
def M7(cs)(i k):ab.ints (mG cs i (k+1))= .ai 1 (((mG cs i k).map λn=>[.i n])++[[.i ((i:Int)+3)]]):=by
 rw[mG,List.replicate_succ', <-List.append_assoc];show ab.ai 1 (List.map _ (_++_))=_;rw[List.map_append];rfl
def M8(cs):mG cs cs.length 0=hj cs 0:=by simp[mG]
def c2[Inhabited α]{l:List α}{k}(h:k<l.length):l.take k++[l.getD k default]=l.take (k+1):=by
 rw[List.take_succ_eq_append_getElem h,List.getD_eq_getElem?_getD,List.getElem?_eq_getElem h];rfl
def u2(l:ak)(v:Int):Int:=match l.findIdx? (λx=>x==v) with | some i=>(i:Int) | none=>-1
def Xr(a:k<l.length)(c:∀x∈l.take k,x≠v)(h:v=l.getD k default):(k:Int)=u2 l v:=by
 have e:l.findIdx? (λx=>x==v)=some k:=by
  rw[List.findIdx?_eq_some_iff_getElem];refine⟨a,?_,λj f=>?_⟩
  ·rw[h,List.getD_eq_getElem?_getD,List.getElem?_eq_getElem a];simp
  ·have:=c (l[j]'aa) (by rw[List.mem_take_iff_getElem];exact⟨j,aa,rfl⟩);simpa using this
 rw[u2,e]
def Xs(a:∀x∈l,x≠v):(-1:Int)=u2 l v:=by
 have e:l.findIdx? (λx=>x==v)=none:=by
  rw[List.findIdx?_eq_none_iff];intro x c;simpa using a x c
 rw[u2,e]
def Xt(l)(v):decide (u2 l v>=0)=l.contains v:=by
 unfold u2;cases h:l.findIdx? (λx=>x==v) with
 | none=>
  rw[List.findIdx?_eq_none_iff] at h;symm;simp;intro c;have:=h v c;simp at this
 | some i=>
  rw[List.findIdx?_eq_some_iff_getElem] at h;obtain⟨a,f,_⟩:=h;symm;simp;have:l[i]=v:=by simpa using f
  rw[<-this];exact List.getElem_mem a
def M9(c:k<l.length)(f:∀x∈l.take k,x≠v)(h:v≠l.getD k default):∀x∈l.take (k+1),x≠v:=by
 rw[<-c2 c];intro x a;rcases List.mem_append.1 a with a | a
 ·exact f x a
 ·simp at a;rw[a];intro e;apply h;simp[e]
theorem CK(i):∀(l a:ak) (k:Nat),k<l.length->jn i a (l.take (k+1))=(jn i a (l.take k) && !(decide (l.getD k default<3) || decide (l.getD k default>=3+i) || (a++l.take k).contains (l.getD k default)))
 | [],a,k,h=>by simp at h
 | x::r,a,0,h=>by simp[jn]
 | x::r,a,k+1,h=>by
  have:=CK i r (a++[x]) k gQ;simp only[List.take_succ_cons,jn,List.getD_cons_succ];rw[this,List.append_assoc,List.singleton_append,Bool.and_assoc]
theorem Na(i):∀(l a:ak) (k:Nat),jn i a l=true->jn i a (l.take k)=true
 | [],a,k,h=>by simpa using h
 | x::r,a,0,h=>rfl
 | x::r,a,k+1,h=>by
  simp[List.take_succ_cons,jn,Bool.and_eq_true] at h ⊢;exact⟨h.1,Na i r _ k h.2⟩
theorem CL:∀(g:List ak) (i k:Nat),k<g.length->j7 i (g.take (k+1))=(j7 i (g.take k) && (decide ((g.getD k default).length<=3) && jn (i+k) [] (g.getD k default)))
 | [],i,k,h=>by simp at h
 | l::r,i,0,h=>by simp[j7]
 | l::r,i,k+1,h=>by
  have:=CL r (i+1) k gQ;simp only[List.take_succ_cons,j7,List.getD_cons_succ];rw[this,show i+1+k=i+(k+1) by omega];simp[Bool.and_assoc]
theorem Nb:∀(g:List ak) (i k:Nat),j7 i g=true->j7 i (g.take k)=true
 | [],i,k,h=>by simpa using h
 | l::r,i,0,h=>rfl
 | l::r,i,k+1,h=>by
  simp[List.take_succ_cons,j7,Bool.and_eq_true] at h ⊢;exact⟨h.1,Nb r _ k h.2⟩
def zC{f:List α->Bool}{l}(k)(a:∀k,f l=true->f (l.take k)=true)(h:f (l.take k)=false):f l=false:=by
 cases b8:f l with
 | false=>rfl
 | true=>rw[a k b8] at h;cases h
def sa(l:ak):(l.map λn=>[.i n]).all dB=true:=by
 rw[List.all_eq_true];intro x c;obtain⟨a,_,rfl⟩:=List.mem_map.1 c;rfl
def Xu(l:List ak):(l.map λx=>[.ints x]).all dB=true:=by
 rw[List.all_eq_true];intro x c;obtain⟨a,_,rfl⟩:=List.mem_map.1 c;rfl
def gY(f:Fact):Int:=if f.op=2\/f.op=3\/f.op=4 then f.arg+1 else 0
mutual
def nn:Fact->Bool
 | .mk op arg path cls n kids=>decide (-1000000<=gY (.mk op arg path cls n kids)) && decide (gY (.mk op arg path cls n kids)<=1000000) && u3 kids
def u3:List Fact->Bool
 | []=>true
 | k::r=>nn k && u3 r
end
def Nc{cs:List h9}(h:i<cs.length):ab.bm ((cs.take (i+1)).map (·.parents))= .ai 1 ((((cs.take i).map (·.parents)).map λx=>[ab.ints x])++[[ab.ints (cs.getD i default).parents]]):=by
 rw[<-c2 h,List.map_append];show ab.ai 1 (List.map _ (_++_))=_;rw[List.map_append];rfl
def Nd{cs}(h:i<cs.length):mG cs (i+1) 0=mG cs i (cs.getD i default).av.length:=by
 rw[mG, <-c2 h,M5,mG,List.length_take,Nat.min_eq_left aa,Nat.zero_add];simp
def xe(h:i<l.length)(a:p (l.getD i default)=true):ab.ints ((l.take (i+1)).filter p)= .ai 1 ((((l.take i).filter p).map λn=>[.i n])++[[.i (l.getD i default)]]):=by
 rw[<-c2 h,List.filter_append];show ab.ai 1 (List.map _ (_++List.filter p [_]))=_;rw[List.map_append,List.filter_cons,if_pos a];rfl
def xf(h:i<l.length)(a:p (l.getD i default)=false):ab.ints ((l.take (i+1)).filter p)=ab.ints ((l.take i).filter p):=by
 rw[<-c2 h,List.filter_append,List.filter_cons,if_neg (by rw[a];simp),List.filter_nil,List.append_nil]
def bI[Inhabited α]{l:List α}{k}(h:k<l.length):l.getD k default∈l:=by
 rw[List.getD_eq_getElem?_getD,List.getElem?_eq_getElem h];simp
def u4[Inhabited α]{l:List α}{i}(h:i<l.length):l.drop i=l.getD i default::l.drop (i+1):=by
 rw[List.drop_eq_getElem_cons h,List.getD_eq_getElem?_getD,List.getElem?_eq_getElem h];rfl
def zD[Inhabited α]{l:List α}{i}{p}(h:i<l.length):(l.take (i+1)).all p=((l.take i).all p && p (l.getD i default)):=by
 rw[<-c2 h,List.all_append];simp
def Nf[Inhabited α]{l:List α}{i}{p}(h:i<l.length):(l.take (i+1)).any p=((l.take i).any p || p (l.getD i default)):=by
 rw[<-c2 h,List.any_append];simp
def Ng(h:L= []):iR A (L::r)=iR A r:=by subst h;rfl
def Nh(c:0<L.length)(h:u1 A (L.getD 0 default)=false):iR A (L::r)=iR A r:=by
 cases L with
 | nil=>simp at c
 | cons x t=>rw[iR,if_neg (by rw[show x=(x::t).getD 0 default from rfl,h];simp)]
def Ni(c:0<L.length)(h:u1 A (L.getD 0 default)):iR A (L::r)=some (L.getD 0 default):=by
 cases L with
 | nil=>simp at c
 | cons x t=>rw[iR,if_pos (by rw[show x=(x::t).getD 0 default from rfl,h])];rfl
def tt(l)(r):total (l::r)=l.length+total r:=by simp[total]
theorem CM(h):∀A:List ak,total (iC h A)<=total A
 | []=>by simp[iC,total]
 | l::r=>by
  have c:=CM h r;have a:=List.length_filter_le (· !=h) l;show total (l.filter (· !=h)::iC h r)<=_;rw[tt,tt];omega
theorem GM(h):∀(A:List ak) (i:Nat),i<A.length->h∈A.getD i default->total (iC h A)<total A
 | [],i,aQ,_=>by simp at aQ
 | l::r,0,_,c=>by
  have g:=CM h r;have f:(l.filter (· !=h)).length<l.length:=by
   rcases Nat.lt_or_ge (l.filter (· !=h)).length l.length with a | a
   ·exact a
   ·have e:l.filter (· !=h)=l:=List.Sublist.eq_of_length_le (List.filter_sublist) a;rw[List.filter_eq_self] at e;have:=e h (by simpa using c);simp at this
  show total (l.filter (· !=h)::iC h r)<_;rw[tt,tt];omega
 | l::r,i+1,aQ,c=>by
  have g:=GM h r i m3 (by simpa using c);have f:=List.length_filter_le (· !=h) l;show total (l.filter (· !=h)::iC h r)<_;rw[tt,tt];omega
theorem CN:∀(A:List ak) (i:Nat),i<A.length->(A.getD i default).length<=total A
 | [],i,aQ=>by simp at aQ
 | l::r,0,_=>by rw[tt];simp
 | l::r,i+1,aQ=>by
  have a:=CN r i m3;rw[tt,List.getD_cons_succ];omega
def EK(h)(A):(iC h A).length=A.length:=by simp[iC]
def Nj(h)(a:k<A.length):ab.bm (iC h (A.take (k+1)))= .ai 1 (((iC h (A.take k)).map λx=>[.ints x])++[[.ints ((A.getD k default).filter (· !=h))]]):=by
 rw[<-c2 a,iC,List.map_append];show ab.ai 1 (List.map _ (_++_))=_;rw[List.map_append];rfl
def GN(l)(x):ab.ints (l++[x])= .ai 1 ((l.map λn=>[.i n])++[[.i x]]):=by
 show ab.ai 1 (List.map _ (_++_))=_;rw[List.map_append];rfl
def GO{n}(hn:iR A A=some h):pT (n+1) A out=pT n (iC h A) (out++[h]):=by rw[pT,hn]
def GP{n}(hn:iR A A=none):pT (n+1) A out=(out,A.all List.isEmpty):=by rw[pT,hn]
def CO:u1 A h= !(A.any λm=>m.tail.contains h):=rfl
def Nk(h:0<L.length):L.isEmpty=false:=by cases L with | nil=>simp at h | cons=>rfl
def Nl[Inhabited α]{l:List α}{j}{p}(h:j<l.length)(c:p (l.getD j default)=true):l.any p=true:=List.any_eq_true.2 ⟨_,bI h,c⟩
def Nn(a:(bif decide ((0:Int)<(M.length:Int)) then (M.drop 1).contains h else false)=true):M.tail.contains h=true:=by
 rw[<-List.drop_one];cases a6:decide ((0:Int)<(M.length:Int)) with
 | true=>rw[a6] at a;exact a
 | false=>rw[a6] at a;cases a
def No(a:(bif decide ((0:Int)<(M.length:Int)) then (M.drop 1).contains h else false)=false):M.tail.contains h=false:=by
 rw[<-List.drop_one];cases c:decide ((0:Int)<(M.length:Int)) with
 | true=>rw[c] at a;exact a
 | false=>cases M with | nil=>rfl | cons=>simp at c
def Np(h: ¬g.length<=16):fX g=false:=by simp[fX,h]
def zE(a:i<g.length)(h:(decide ((g.getD i default).length<=3) && jn i [] (g.getD i default))=false):fX g=false:=by
 have e:j7 0 (g.take (i+1))=false:=by rw[CL g 0 i a,Nat.zero_add,h,Bool.and_false]
 unfold fX;rw[zC (i+1) (λk=>Nb g 0 k) e,Bool.and_false]
def Nq(a:k<l.length)(h:(decide (l.getD k default<3) || decide (l.getD k default>=3+i) || (l.take k).contains (l.getD k default))):jn i [] l=false:=by
 have e:jn i [] (l.take (k+1))=false:=by rw[CK i l [] k a,List.nil_append,h];simp
 exact zC (k+1) (λk=>Na i l [] k) e
def ik(op:Int):Option (Option Nat):=
 if op=5 then some none
 else if op=1\/op=2\/op=3\/op=6\/op=18 then some (some 0)
 else if op=4\/op=8\/op=17 then some (some 1)
 else if op=7\/op=9\/op=11\/op=12\/op=13\/op=14\/op=15\/op=16 then some (some 2)
 else if op=10 then some (some 3) else none
def oa(n:Int):Bool:=decide (-1000000000<=n) && decide (n<=1000000000)
def rG(p:Prog)(op size:Int):Int:=if op=3 then size else if op=4\/op=7 then p.av else if op=5 then p.cT.length else 1
def gC(p:Prog)(x:hi)(size:Int):Bool:=
 if x.op=1 then oa x.n else if x.op=6\/x.op=8 then decide (3<=x.n) && decide (x.n<3+p.aE.length) else decide (0<=x.n) && decide (x.n<rG p x.op size)
mutual
def np:Fact->Int
 | .mk op arg path cls n kids=>nq kids (gY (.mk op arg path cls n kids))
def nq:List Fact->Int->Int
 | [],n=>n
 | k::r,n=>nq r (max n (np k))
end
def CP(f):np f=nq f.kids (gY f):=by cases f;rfl
theorem GQ(x):∀(l:List Fact) (n:Int),nq (l++[x]) n=max (nq l n) (np x)
 | [],n=>rfl
 | k::r,n=>by rw[List.cons_append,nq,nq,GQ x r]
def CQ{f}(h:nn f): -1000000<=gY f/\gY f<=1000000/\∀k∈f.kids,nn k=true:=by
 have mem:∀(l:List Fact),u3 l=true->∀k∈l,nn k=true:=by
  intro l
  induction l with
  | nil=>intro _ k a;cases a
  | cons x r c=>
   intro h k a;rw[u3,Bool.and_eq_true] at h;rcases List.mem_cons.1 a with e | a
   ·rw[e];exact h.1
   ·exact c h.2 k a
 cases f;simp[nn,Bool.and_eq_true,decide_eq_true_eq] at h;exact⟨h.1.1,h.1.2,mem _ h.2⟩
end Go.Eng.dN

namespace Go.Eng.dN
open Go.Eng.Fc
variable{l:List (Int×ab)}{c:Go.Eng.Ctx}{O all g:List ak}{bZ S out o C fx o':ak}{k i:Nat}{α:Type}{H H':aA}{next h0:Bool}{env:List (Nat×ab)}{Q:Exit->Act->World->Prop}
theorem GR{A}:∀{B:List ak} {h:Int},iR A B=some h->∃l∈B,h∈l
 | [],h,e=>by simp[iR] at e
 | []::r,h,e=>by
  rw[iR] at e;obtain⟨l,a,c⟩:=GR e;exact⟨l,.tail _ a,c⟩
 | (x::t)::r,h,e=>by
  rw[iR] at e;split at e
  ·cases e;exact⟨_,.head _,.head _⟩
  ·obtain⟨l,a,c⟩:=GR e;exact⟨l,.tail _ a,c⟩
def GS{h x}{A}{l}(f:l∈iC h A)(c:x∈l):x≠h/\∃a∈A,x∈a:=by
 simp[iC,List.mem_map] at f;obtain⟨a,g,rfl⟩:=f;rw[List.mem_filter] at c;exact⟨by simpa using c.2,a,g,c.1⟩
theorem Nr:∀(n:Nat) (A:List ak) (f:ak),f.Nodup->(∀x∈f,∀l∈A,x∉l)->(pT n A f).1.Nodup/\∀x∈(pT n A f).1,x∈f\/∃l∈A,x∈l
 | 0,A,f,r,w=>⟨r,λx c=>.inl c⟩
 | n+1,A,f,r,w=>by
  cases t:iR A A with
  | none=>rw[GP t];exact⟨r,λx c=>.inl c⟩
  | some h=>
   rw[GO t];obtain⟨z,o,q⟩:=GR t;obtain⟨aC,C⟩:=Nr n (iC h A) (f++[h]) (List.nodup_append.2 ⟨r,aS,λa D b B e=>by simp at B;subst B;subst e;exact w a D z o q⟩) (λx c l s j=>by
    obtain⟨E,v,g,m⟩:=GS s j;rcases List.mem_append.1 c with c | c
    ·exact w x c v g m
    ·simp at c;exact E c)
   refine⟨aC,λx c=>?_⟩;rcases C x c with c | ⟨l,s,j⟩
   ·rcases List.mem_append.1 c with c | c
    ·exact .inl c
    ·simp at c;subst c;exact .inr ⟨z,o,q⟩
   ·obtain⟨_,v,g,m⟩:=GS s j;exact .inr ⟨v,g,m⟩
structure CR(c:Nat)(x:ak):Prop where
 nodup:x.Nodup
 zF:∀y∈x,0<=y/\y<=c
def CR.len{c}{x}(h:CR c x):x.length<=c+1:=by
 have:=List.Nodup.length_le_of_subset (l₂:=(List.range (c+1)).map Int.ofNat) h.nodup (λy a=>by
  obtain⟨g,f⟩:=h.zF y a;exact List.mem_map.2 ⟨y.toNat,cB,cB⟩)
 simpa using this
def zG(c:Nat)(bZ:ak):Prop:=bZ.length<=3/\∀p∈bZ,3<=p/\p<c
def ob(O:List ak):Prop:=∀k,k<O.length->CR k (O.getD k [])
def ob.len{O}(h:ob O)(k):(O.getD k []).length<=O.length+1:=by
 by_cases a:k<O.length
 ·have:=(h k a).len;omega
 ·rw[List.getD_eq_getElem?_getD,List.getElem?_eq_none aa];simp
def GU(h:kF O bZ=some all):all=bZ.map (λp=>lC (O.getD p.toNat []))++[bZ]/\∀p∈bZ,O.getD p.toNat []≠ []:=by
 unfold kF at h;split at h
 ·cases h
 ·rename_i a;refine⟨(Option.some.inj h).symm,λp c e=>a (List.any_eq_true.2 ⟨p,c,by rw[e];rfl⟩)⟩
def u5{l:dq}{m}(h:∀x∈l,x<=m):l.sum<=l.length*m:=by
 induction l with
 | nil=>simp
 | cons x r a=>
  have g:=h x dv;have f:=a λy c=>h y (.tail _ c);rw[List.sum_cons,List.length_cons,Nat.add_mul,Nat.one_mul];omega
def Xv(l):(lC l).length<=l.length:=List.length_filter_le _ _
def Ns(c:ob O)(a:bZ.length<=3)(h:kF O bZ=some all):total all<=3*(O.length+1)+3/\all.length<=4:=by
 obtain⟨rfl,_⟩:=GU h;constructor
 ·simp only[total,List.map_append,List.map_map,List.map_cons,List.map_nil,List.sum_append,List.sum_cons,List.sum_nil];have g:=u5 (l:=bZ.map (List.length∘λp=>lC (O.getD p.toNat []))) (m:=O.length+1) (λx f=>by
   obtain⟨p,j,rfl⟩:=List.mem_map.1 f;exact Nat.le_trans (Xv _) (c.len _))
  rw[List.length_map] at g;have o:bZ.length*(O.length+1)<=3*(O.length+1):=Nat.mul_le_mul_right _ a;omega
 ·rw[List.length_append,List.length_map,List.length_singleton];omega
def GV(s:ob O)(c:zG O.length bZ):CR O.length (iS O O.length bZ):=by
 unfold iS;split
 ·rename_i z;exact⟨aS,aS⟩
 rename_i z;cases f:kF O bZ with
 | none=>exact⟨aS,aS⟩
 | some t=>
  simp only;split
  ·obtain⟨rfl,q⟩:=GU f;have j:∀l∈bZ.map (λp=>lC (O.getD p.toNat []))++[bZ],∀x∈l,0<x/\x<O.length:=by
    intro l f x a;rcases List.mem_append.1 f with h | h
    ·obtain⟨p,B,rfl⟩:=List.mem_map.1 h;simp[lC,List.mem_filter,bne_iff_ne,ne_eq] at a;have A:=c.2 p B;have:=(s p.toNat aa).zF x a.1;omega
    ·simp at h;subst h;have:=c.2 x a;omega
   obtain⟨r,w⟩:=Nr (total (bZ.map (λp=>lC (O.getD p.toNat []))++[bZ])+1) (bZ.map (λp=>lC (O.getD p.toNat []))++[bZ]) [] aS aS;have m:∀x∈(lB (bZ.map (λp=>lC (O.getD p.toNat []))++[bZ])).1,0<x/\x<O.length:=λx a=>by
    rcases w x a with h | ⟨l,f,a⟩
    ·simp at h
    ·exact j l f x a
   refine⟨List.nodup_cons.2 ⟨λh=>?_,List.nodup_append.2 ⟨r,aS,λa v b o e=>?_⟩⟩,λy g=>?_⟩
   ·rcases List.mem_append.1 h with h | h
    ·have:=m _ h;omega
    ·simp only[List.mem_singleton] at h;omega
   ·simp at o;subst o;subst e;have:=m _ v;omega
   ·rcases List.mem_cons.1 g with rfl | g
    ·omega
    ·rcases List.mem_append.1 g with h | h
     ·have:=m _ h;omega
     ·simp at h;omega
  ·exact⟨aS,aS⟩
def ob.snoc(c:ob O)(a:zG O.length bZ):ob (O++[iS O O.length bZ]):=by
 intro k f;rw[List.length_append,List.length_singleton] at f;by_cases h:k<O.length
 ·have e:(O++[iS O O.length bZ]).getD k []=O.getD k []:=by rw[List.getD_eq_getElem?_getD,List.getElem?_append_left h, <-List.getD_eq_getElem?_getD]
  rw[e];exact c k h
 ·obtain rfl:k=O.length:=by omega
  rw[List.getD_eq_getElem?_getD,List.getElem?_append_right aa,Nat.sub_self];exact GV c a
theorem Nt(i):∀(l a:ak),jn i a l=true->∀x∈l,3<=x/\x<3+i
 | [],_,_,x,c=>by cases c
 | y::r,a,h,x,c=>by
  simp only[jn,Bool.and_eq_true,Bool.not_eq_true',Bool.or_eq_false_iff,decide_eq_false_iff_not] at h;rcases List.mem_cons.1 c with rfl | c
  ·omega
  ·exact Nt i r _ h.2 x c
theorem CS:∀(g:List ak) (i k:Nat),j7 i g=true->k<g.length->zG (3+(i+k)) (g.getD k default)
 | [],i,k,_,a=>by simp at a
 | l::r,i,k,h,a=>by
  simp[j7,Bool.and_eq_true,decide_eq_true_eq] at h;cases k with
  | zero=>exact⟨h.1.1,λp c=>by have:=Nt i l [] h.1.2 p c;omega⟩
  | succ k=>
   have:=CS r (i+1) k h.2 (by simpa using a);rw[show 3+(i+(k+1))=3+(i+1+k) by omega,List.getD_cons_succ];exact this
def pt(g):(e6 g).length=3+g.length:=by simp[e6];omega
def xg(h:fX g)(k):zG k ((e6 g).getD k default):=by
 simp[fX,Bool.and_eq_true,decide_eq_true_eq] at h
 match k with
 | 0=>exact⟨by simp[e6],by simp[e6]⟩
 | 1=>exact⟨by simp[e6],by simp[e6]⟩
 | 2=>exact⟨by simp[e6],by simp[e6]⟩
 | k+3=>
  have e:(e6 g).getD (k+3) default=g.getD k default:=rfl;rw[e];by_cases a:k<g.length
  ·have:=CS g 0 k h.2 a;rwa [Nat.zero_add,Nat.add_comm] at this
  ·rw[List.getD_eq_getElem?_getD,List.getElem?_eq_none aa];exact⟨Nat.zero_le _,by intro p c;cases c⟩
def u6(h:fX g):g.length<=16:=by
 simp[fX,Bool.and_eq_true,decide_eq_true_eq] at h;exact h.1
theorem Nu(x):∀(l:List ak) (c:Nat) (a:List ak),n9 (l++[x]) c a=n9 l c a++[iS (n9 l c a) (c+l.length) x]
 | [],c,a=>by simp[n9]
 | y::r,c,a=>by
  rw[List.cons_append,n9,n9,Nu x r (c+1),List.length_cons];rw[show c+1+r.length=c+(r.length+1) by omega]
theorem Nv:∀(l:List ak) (c:Nat) (a:List ak),(n9 l c a).length=a.length+l.length
 | [],c,a=>by simp[n9]
 | y::r,c,a=>by rw[n9,Nv r,List.length_append,List.length_cons,List.length_cons,List.length_nil];omega
def k3(g:List ak)(k:Nat):List ak:=n9 ((e6 g).take k) 0 []
def tu(h:k<=3+g.length):(k3 g k).length=k:=by
 rw[k3,Nv,List.length_take,pt,List.length_nil];omega
def Nw(h:k<3+g.length):k3 g (k+1)=k3 g k++[iS (k3 g k) (k3 g k).length ((e6 g).getD k default)]:=by
 rw[k3, <-c2 (by rw[pt];exact h),Nu, <-k3,tu aa,List.length_take,pt,show 0+min k (3+g.length)=k by omega]
def zH(g):k3 g (3+g.length)=ts g:=by rw[k3, <-pt,List.take_length];rfl
theorem zI{g}(h:fX g):∀k,k<=3+g.length->ob (k3 g k)
 | 0,_=>λk a=>by simp[k3,n9] at a
 | k+1,a=>by
  rw[Nw aa];exact (zI h k aa).snoc (by rw[tu aa];exact xg h k)
structure mH(l:List (Int×ab))(O:List ak):Prop where
 ok:lx l
 get:∀k:Nat,hz l (k:Int)=if(O.getD k []).isEmpty then none else some (ab.ints (O.getD k []))
def mH.nil:mH [] []:=⟨.nil,λk=>by simp[hz]⟩
def Nx{x}(k):(O++[x]).getD k []=if k=O.length then x else O.getD k []:=by
 by_cases h:k<O.length
 ·rw[if_neg aa,List.getD_eq_getElem?_getD,List.getElem?_append_left h, <-List.getD_eq_getElem?_getD]
 ·by_cases a:k=O.length
  ·rw[if_pos a,List.getD_eq_getElem?_getD,List.getElem?_append_right aa,a,Nat.sub_self];rfl
  ·rw[if_neg a,List.getD_eq_getElem?_getD,List.getElem?_eq_none Bm,List.getD_eq_getElem?_getD,List.getElem?_eq_none aa]
def mH.skip(h:mH l O):mH l (O++[[]]):=by
 refine⟨h.ok,λk=>?_⟩;rw[h.get,Nx];by_cases a:k=O.length
 ·rw[if_pos a,a,List.getD_eq_getElem?_getD,List.getElem?_eq_none aa];rfl
 ·rw[if_neg a]
def mH.put{l}{O}(h:mH l O){x}(f:x≠ [])(g:O.length<=1000000):mH (eP l (O.length:Int) (.ints x)) (O++[x]):=by
 refine⟨h.ok.put ey _,λk=>?_⟩;rw[zm,Nx];by_cases c:k=O.length
 ·rw[if_pos (by rw[c]),if_pos c];cases x with
  | nil=>exact absurd rfl f
  | cons a r=>rfl
 ·rw[if_neg aa,if_neg c,h.get]
def mH.look(h:mH l O)(k)(c:0<=k):an ((hz l k).getD (.val aL)) (.ints (O.getD k.toNat [])):=by
 have:=h.get k.toNat;rw[show ((k.toNat:Nat):Int)=k by omega] at this;rw[this];split
 ·rename_i a;rw[List.isEmpty_iff.1 a];exact .nil 1
 ·exact .refl _
def Ny{p}(a:p∈bZ)(h:O.getD p.toNat []= []):kF O bZ=none:=by
 unfold kF;rw[if_pos (List.any_eq_true.2 ⟨p,a,by rw[h];rfl⟩)]
def Nz(h:∀p∈bZ,O.getD p.toNat []≠ []):kF O bZ=some (bZ.map (λp=>lC (O.getD p.toNat []))++[bZ]):=by
 unfold kF;rw[if_neg];intro c;obtain⟨p,f,a⟩:=List.any_eq_true.1 c;exact h p f (List.isEmpty_iff.1 a)
def NA(h:k<3+g.length):k3 g (k+1)=k3 g k++[iS (k3 g k) k ((e6 g).getD k default)]:=by
 rw[Nw h,tu aa]
abbrev ab.u7(l:dq):ab:=.ai 1 (l.map λs=>[ab.set s])
abbrev CT:List bl:=[[.val aL],[.val aL],[.val aL]]
abbrev tv(g:List ak):List bl:=g.map λx=>[ab.ints x]
def NB(g):(tv g).flatten.length=g.length:=by
 rw[pE (k:=1) (λx a=>by obtain⟨y,_,rfl⟩:=List.mem_map.1 a;rfl),List.length_map,Nat.mul_one]
def Xw(g)(z)(a:z= .val aL):(List.replicate (3+g.length) z).take (0+3*1)++(tv g).flatten++(List.replicate (3+g.length) z).drop (0+3*1+(tv g).flatten.length)=(CT++tv g).flatten++[]:=by
 subst a;rw[NB,List.take_replicate,List.drop_replicate,show min (0+3*1) (3+g.length)=3 by omega,show 3+g.length - (0+3*1+g.length)=0 by omega];simp[CT]
def Xx(g):an (.ai 1 (CT++tv g)) (.bm (e6 g)):=by
 have e:ab.bm (e6 g)= .ai 1 ([[.ints []],[.ints []],[.ints []]]++tv g):=rfl;rw[e];exact .ai (.cons tq (.cons tq (.cons tq (nR.refl _))))
def Xy(l)(s):ab.ai 1 ((l.map λs=>[ab.set s])++[[ab.set s]])=ab.u7 (l++[s]):=by
 show _=ab.ai 1 (List.map _ (_++_));rw[List.map_append];rfl
def NC{l:dq}(h:∀x∈l,x<18446744073709551616)(k):l.getD k default<18446744073709551616:=by
 rw[List.getD_eq_getElem?_getD];by_cases a:k<l.length
 ·rw[List.getElem?_eq_getElem a];exact h _ (List.getElem_mem a)
 ·rw[List.getElem?_eq_none aa];show (0:Nat)<_;omega
def ND(c)(m):ab.ints (c::(m++[0]))= .ai 1 ([[.i c]]++m.map (λn=>[.i n])++[[.i 0]]):=by
 show ab.ai 1 (List.map _ (c::(m++[0])))=_;rw[List.map_cons,List.map_append];rfl
def Xz(h:O.length=0):iS O O.length bZ= [0]:=by rw[iS,if_pos h]
def NF(h:O.length≠0)(a:kF O bZ=none):iS O O.length bZ= []:=by rw[iS,if_neg h,a]
def CU(h:O.length≠0)(a:kF O bZ=some all)(hm:(lB all).2):iS O O.length bZ=(O.length:Int)::((lB all).1++[0]):=by
 rw[iS,if_neg h,a];simp only[hm,if_true]
def NG(h:O.length≠0)(a:kF O bZ=some all)(hm:(lB all).2=false):iS O O.length bZ= []:=by
 rw[iS,if_neg h,a];simp[hm]
def NH{a b:α}{H:List α}:∀e∈ [a,b],e∈a::b::H:=λe c=>by simp at c ⊢;rcases c with h | h <;> simp[h]
def NI{c:Type}(f:c->ak)(l:List c)[Inhabited c]{k:Nat}(g:k<l.length):ab.bm ((l.take (k+1)).map f)= .ai 1 (((l.take k).map f).map (λx=>[ab.ints x])++[[ab.ints (f (l.getD k default))]]):=by
 rw[<-c2 g,List.map_append];show ab.ai 1 (List.map _ (_++_))=_;rw[List.map_append];rfl
abbrev fj(l:ak):List bl:=l.map λn=>[ab.i n]
abbrev hB(v:Value)(l:ak):bn:=.row 3 1 v (fj l).length (fj l).flatten
def xh(l):(fj l).length=l.length:=by simp
def NJ(v)(l m): .row 3 1 v ((fj l).length+(fj m).length) ((fj l).flatten++(fj m).flatten)=hB v (l++m):=by
 simp[hB]
def hS(l:ak):ak:=l.mergeSort λx y=>decide (x<=y)
structure oc(l:List (Int×ab))(S:ak):Prop where
 ok:lx l
 get:∀k:Int,hz l k=if k∈S then some (.b true) else none
def oc.nil:oc [] []:=⟨.nil,λk=>by simp[hz]⟩
def oc.put{l}{S}(h:oc l S){k}(c:fV k):oc (eP l k (.b true)) (S++[k]):=by
 refine⟨h.ok.put c _,λgT=>?_⟩;rw[zm,h.get];by_cases a:gT=k
 ·subst a;simp
 ·rw[if_neg a];simp[a]
def oc.look(h:oc l S)(k):an ((hz l k).getD (.val (.bool false))) (.b (S.contains k)):=by
 rw[h.get];by_cases a:k∈S
 ·rw[if_pos a,List.contains_iff_mem.2 a];exact .refl _
 ·rw[if_neg a,show S.contains k=false from by simpa using a];exact .refl _
def jK(p:Prog):Nat->ak->ak->ak
 | 0,_,out=>out
 | n+1,S,out=>if S.contains ((n:Int)+3) then jK p n (S++(p.aE.getD n default).parents) (out++(p.aE.getD n default).av) else jK p n S out
def cu(p:Prog)(NK:Int):ak:=hS (jK p (NK - 2).toNat [NK] [])
def XA{p}{n:Nat}{c:Int}(a:c=n+3)(h:S.contains c=true):jK p (c - 2).toNat S out=jK p (c - 1 - 2).toNat (S++(p.aE.getD (c - 3).toNat default).parents) (out++(p.aE.getD (c - 3).toNat default).av):=by
 subst a;rw[show ((n:Int)+3 - 2).toNat=n+1 by omega,show ((n:Int)+3 - 1 - 2).toNat=n by omega,show ((n:Int)+3 - 3).toNat=n by omega,jK,if_pos h]
def XB{p}{n:Nat}{c:Int}(a:c=n+3)(h:S.contains c=false):jK p (c - 2).toNat S out=jK p (c - 1 - 2).toNat S out:=by
 subst a;rw[show ((n:Int)+3 - 2).toNat=n+1 by omega,show ((n:Int)+3 - 1 - 2).toNat=n by omega,jK,if_neg wv]
section
variable{P:Program}{H:aA}{ρ:Nat->Option ab}{o:Oper}
def ad.XC{t}{x m}{b}{ke}{k}{g1 j}[w:qT P t ke][v:uU P ke.2 (.bool false)](h:o.op= .lookup t x m false)
  (r:aN ρ x=some (g1,.val (.map (some b)))) (f:g1=true) (s:aN ρ m=some (j,.i k)) (c:j=true) (hm:dW b l∈H) (q:oc l S) (g:fV k):ad P H ρ o (.b (S.contains k)):=by
 have a:=ad.tm (P:=P) (H:=H) (ke:=ke) (zv:=.bool false) h r f s c hm q.ok g;have e:(hz l k).getD (.val (.bool false))= .b (S.contains k):=by
  rw[q.get];by_cases a:k∈S
  ·rw[if_pos a,List.contains_iff_mem.2 a];rfl
  ·rw[if_neg a,show S.contains k=false from by simpa using a];rfl
 rwa [e] at a
end
def pU(b):b=false\/b=true:=by cases b <;> simp
def iD:ak->Nat->Bool
 | [],_=>true
 | s::r,n=>(s==(n:Int)) && iD r (n+1)
def jo:List h9->Nat->Bool
 | [],_=>true
 | c::r,n=>decide (c.av.length<=4) && iD c.av n && jo r (n+c.av.length)
def ej(cs:List h9):Nat:=(cs.map (·.av.length)).sum
def kG(NL:ak):List (Int×Int)->ak->Bool
 | [],_=>true
 | x::r,seen=>(NL.contains x.1 && !seen.contains x.1 && oa x.2) && kG NL r (seen++[x.1])
def nr(p:Prog)(i:Nat):Bool:=!(dE (b9 p) ((i:Int)+3)).isEmpty && kG (cu p ((i:Int)+3)) (p.aE.getD i default).inits []
def fP(p:Prog):Bool:=decide (p.aE.length<=10) && jo p.aE 0 && (((ej p.aE:Int)==p.av) && fX (b9 p)) && (List.range p.aE.length).all (nr p)
theorem CV:∀(l:ak) (n k:Nat),k<l.length->iD (l.take (k+1)) n=(iD (l.take k) n && (l.getD k default==((n+k:Nat):Int)))
 | [],n,k,h=>by simp at h
 | x::r,n,0,h=>by simp[iD]
 | x::r,n,k+1,h=>by
  have:=CV r (n+1) k gQ;simp only[List.take_succ_cons,iD,List.getD_cons_succ];rw[this,Bool.and_assoc,show n+1+k=n+(k+1) by omega]
theorem NM:∀(l:ak) (n k:Nat),iD l n=true->iD (l.take k) n=true
 | [],n,k,h=>by simp[iD]
 | x::r,n,0,h=>rfl
 | x::r,n,k+1,h=>by
  simp[List.take_succ_cons,iD,Bool.and_eq_true] at h ⊢;exact⟨h.1,NM r _ k h.2⟩
theorem NN:∀(l:ak) (n:Nat),iD l n=true->∀x∈l,(n:Int)<=x/\x<n+l.length
 | [],n,_,x,a=>by cases a
 | y::r,n,h,x,a=>by
  simp[iD,Bool.and_eq_true,beq_iff_eq] at h;rw[List.length_cons];rcases List.mem_cons.1 a with rfl | a
  ·omega
  ·have:=NN r (n+1) h.2 x a;omega
theorem zJ:∀(l:List h9) (n k:Nat),k<l.length->jo (l.take (k+1)) n=(jo (l.take k) n && (decide ((l.getD k default).av.length<=4) && iD (l.getD k default).av (n+ej (l.take k))))
 | [],n,k,h=>by simp at h
 | x::r,n,0,h=>by simp[jo,ej]
 | x::r,n,k+1,h=>by
  have:=zJ r (n+x.av.length) k gQ;simp only[List.take_succ_cons,jo,List.getD_cons_succ];rw[this,Bool.and_assoc,Bool.and_assoc,Bool.and_assoc,show n+ej (x::r.take k)=n+x.av.length+ej (r.take k) by simp[ej];omega]
theorem GW:∀(l:List h9) (n k:Nat),jo l n=true->jo (l.take k) n=true
 | [],n,k,h=>by simp[jo]
 | x::r,n,0,h=>rfl
 | x::r,n,k+1,h=>by
  simp[List.take_succ_cons,jo,Bool.and_eq_true] at h ⊢;exact⟨h.1,GW r _ k h.2⟩
def GX{l:List h9}(h:k<l.length):ej (l.take (k+1))=ej (l.take k)+(l.getD k default).av.length:=by
 rw[<-c2 h];simp[ej]
theorem u9:∀(l:List h9) (n:Nat),jo l n=true->∀c∈l,c.av.length<=4/\∀x∈c.av,0<=x/\x<n+4*l.length
 | [],n,_,c,a=>by cases a
 | y::r,n,h,c,a=>by
  simp[jo,Bool.and_eq_true,decide_eq_true_eq] at h;rw[List.length_cons];rcases List.mem_cons.1 a with rfl | a
  ·exact⟨h.1.1,λx f=>by have:=NN _ _ h.1.2 x f;omega⟩
  ·have:=u9 r _ h.2 c a;exact⟨this.1,λx f=>by have:=this.2 x f;omega⟩
theorem zK:∀(l:List h9) (n:Nat),jo l n=true->ej l<=4*l.length
 | [],n,_=>by simp[ej]
 | y::r,n,h=>by
  simp[jo,Bool.and_eq_true,decide_eq_true_eq] at h;have:=zK r _ h.2;have e:ej (y::r)=y.av.length+ej r:=by simp[ej]
  rw[e,List.length_cons];omega
theorem CW(c):∀(l:List (Int×Int)) (seen:ak) (k:Nat),k<l.length->kG c (l.take (k+1)) seen=(kG c (l.take k) seen && (c.contains (l.getD k default).1 && !(seen++(l.take k).map (·.1)).contains (l.getD k default).1 && oa (l.getD k default).2))
 | [],seen,k,h=>by simp at h
 | x::r,seen,0,h=>by simp[kG]
 | x::r,seen,k+1,h=>by
  have:=CW c r (seen++[x.1]) k gQ;simp only[List.take_succ_cons,kG,List.getD_cons_succ];rw[this,Bool.and_assoc (c.contains x.1 && !seen.contains x.1 && oa x.2),List.map_cons,List.append_assoc,List.singleton_append]
theorem NO(c):∀(l:List (Int×Int)) (a:ak) (k:Nat),kG c l a=true->kG c (l.take k) a=true
 | [],a,k,h=>by simp[kG]
 | x::r,a,0,h=>rfl
 | x::r,a,k+1,h=>by
  simp[List.take_succ_cons,kG,Bool.and_eq_true] at h ⊢;exact⟨h.1,NO c r _ k h.2⟩
theorem GY{p}:∀(n:Nat) (S a:ak),∀x∈jK p n S a,x∈a\/∃i,x∈(p.aE.getD i default).av
 | 0,S,a,x,h=>.inl h
 | n+1,S,a,x,h=>by
  rw[jK] at h;split at h
  ·rcases GY n _ _ x h with h | h
   ·rcases List.mem_append.1 h with h | h
    ·exact .inl h
    ·exact .inr ⟨n,h⟩
   ·exact .inr h
  ·exact GY n _ _ x h
def GZ{p}{k x}(h:x∈cu p k):∃c∈p.aE,x∈c.av:=by
 unfold cu hS at h;rw[List.mem_mergeSort] at h;rcases GY _ _ _ x h with h | ⟨i,h⟩
 ·cases h
 ·by_cases a:i<p.aE.length
  ·exact⟨_,bI a,h⟩
  ·rw[List.getD_eq_getElem?_getD,List.getElem?_eq_none aa] at h;cases h
def XD{f}{n i}(a:i<n)(h:f i=false):(List.range n).all f=false:=by
 cases cd:(List.range n).all f with
 | false=>rfl
 | true=>rw[List.all_eq_true.1 cd i (List.mem_range.2 a)] at h;cases h
def lD{f}(h:(List.range i).all f)(a:f i=true):(List.range (i+1)).all f=true:=by
 rw[List.range_succ,List.all_append,h];simp[a]
def NP{p}(h:decide (p.aE.length<=10)=false):fP p=false:=by
 unfold fP;rw[h];simp
def XE{p}(h:jo p.aE 0=false):fP p=false:=by
 unfold fP;rw[h];simp
def G0{p}(a:i<p.aE.length)(h:(decide ((p.aE.getD i default).av.length<=4) && iD (p.aE.getD i default).av (ej (p.aE.take i)))=false):fP p=false:=by
 refine XE (zC (f:=λl=>jo l 0) (i+1) (λk=>GW _ _ k) ?_);show jo _ _=false;rw[zJ _ _ _ a,Nat.zero_add,h,Bool.and_false]
def NQ{p}{i j}(c:i<p.aE.length)(a:j<(p.aE.getD i default).av.length)(h:((p.aE.getD i default).av.getD j default==((ej (p.aE.take i)+j:Nat):Int))=false):fP p=false:=by
 refine G0 c ?_;have e:iD (p.aE.getD i default).av (ej (p.aE.take i))=false:=by
  refine zC (f:=λl=>iD l (ej (p.aE.take i))) (j+1) (λk=>NM _ _ k) ?_;show iD _ _=false;rw[CV _ _ _ a,h,Bool.and_false]
 rw[e,Bool.and_false]
def G1{p}(h:(((ej p.aE:Int)==p.av) && fX (b9 p))=false):fP p=false:=by
 unfold fP;rw[h];simp
def zL{p}(a:i<p.aE.length)(h:nr p i=false):fP p=false:=by
 unfold fP;rw[XD a h,Bool.and_false]
def G2{p}{i j:Nat}(a:j<(p.aE.getD i default).inits.length)(h:((cu p ((i:Int)+3)).contains ((p.aE.getD i default).inits.getD j default).1 && !(((p.aE.getD i default).inits.take j).map (·.1)).contains ((p.aE.getD i default).inits.getD j default).1 && oa ((p.aE.getD i default).inits.getD j default).2)=false):nr p i=false:=by
 unfold nr;have e:kG (cu p ((i:Int)+3)) (p.aE.getD i default).inits []=false:=by
  refine zC (f:=λl=>kG (cu p ((i:Int)+3)) l []) (j+1) (λk=>NO _ _ _ k) ?_;show kG _ _ _=false;rw[CW _ _ _ _ a,List.nil_append,h,Bool.and_false]
 rw[e,Bool.and_false]
structure Prog.Small(p:Prog):Prop where
 aE:p.aE.length<=1048576
 parents:∀c∈p.aE,c.parents.length<=4000000
def NR{p}(h:fX (b9 p)):p.aE.length<=16/\∀c∈p.aE,∀x∈c.parents,fV x:=by
 have g:=u6 h;have m:p.aE.length<=16:=by simpa [b9] using g
 refine⟨m,λc f x l=>?_⟩;obtain⟨i,a,rfl⟩:=List.mem_iff_getElem.1 f;have j:j7 0 (b9 p)=true:=by simp[fX,Bool.and_eq_true] at h;exact h.2
 have:=CS (b9 p) 0 i j (by simpa [b9] using a);have e:(b9 p).getD i default=p.aE[i].parents:=by
  rw[List.getD_eq_getElem?_getD,b9,List.getElem?_map,List.getElem?_eq_getElem a];rfl
 rw[e] at this;have:=this.2 x l;unfold fV;omega
structure dw where
 n:Int
 bB:Int
 cw:Int
abbrev va(x:dw):ab:=.agg [.i x.bB,.i x.cw]
def pV(p:Prog)(next:Bool)(x:hi)(bB:Int):Bool:=
 gC p x bB && (next || x.op !=18) && (match ik x.op with
  | none=>false
  | some none=>(x.kids.length:Int)==p.cT.getD x.n.toNat default
  | some (some k)=>x.kids.length==k)
def mI(p:Prog)(x:dw)(out:ak):Bool:=decide (0<=x.n) && decide (x.n<p.nodes.length) && decide (out.getD x.n.toNat default<0) && decide (x.cw<=12)
def fu(p:Prog)(x:dw):hi:=p.nodes.getD x.n.toNat default
def fc(p:Prog)(next:Bool)(x:dw)(out:ak):Bool:=mI p x out && pV p next (fu p x) x.bB
def iE(out:ak)(x:dw):ak:=out.set x.n.toNat x.bB
def gR(x:dw)(op:Int)(i:Nat)(k:Int):dw:=⟨k,if op=9/\i=1 then x.bB+1 else x.bB,x.cw+1⟩
def hC(x:dw)(op:Int):Nat->ak->List dw
 | _,[]=>[]
 | i,k::r=>gR x op i k::hC x op (i+1) r
def eS(v:dw->ak->List dw×Option ak):List dw->ak->List dw×Option ak
 | [],out=>([],some out)
 | y::r,out=>match v y out with
  | (l,none)=>(l,none)
  | (l,some o)=>(l++(eS v r o).1,(eS v r o).2)
def visit(p:Prog)(next:Bool):Nat->dw->ak->List dw×Option ak
 | 0,x,out=>([x],none)
 | f+1,x,out=>if fc p next x out then
   (x::(eS (visit p next f) (hC x (fu p x).op 0 (fu p x).kids) (iE out x)).1,(eS (visit p next f) (hC x (fu p x).op 0 (fu p x).kids) (iE out x)).2)
  else ([x],none)
theorem G3(v):∀(a b:List dw) (o:ak) {l:List dw} {o':ak},eS v a o=(l,some o')->eS v (a++b) o=(l++(eS v b o').1,(eS v b o').2)
 | [],b,o,l,o',h=>by simp only[eS,Prod.mk.injEq,Option.some.injEq] at h;obtain⟨rfl,rfl⟩:=h;simp
 | y::r,b,o,l,o',h=>by
  rw[List.cons_append];simp[eS] at h ⊢;rcases bd:v y o with⟨od,_ | hx⟩
  ·rw[bd] at h;simp at h
  ·rw[bd] at h;simp[Prod.mk.injEq] at h;obtain⟨rfl,c⟩:=h;have:=G3 v r b hx (l:=(eS v r hx).1) (o':=o') (Prod.ext rfl c);simp[this,List.append_assoc]
theorem G4(x)(op):∀(i:Nat) (l:ak),(hC x op i l).length=l.length
 | _,[]=>rfl
 | i,k::r=>by rw[hC,List.length_cons,G4 x op (i+1) r,List.length_cons]
theorem G5(x)(op):∀(i j:Nat) (l:ak),(hC x op i l).drop j=hC x op (i+j) (l.drop j)
 | _,_,[]=>by simp[hC]
 | i,0,k::r=>rfl
 | i,j+1,k::r=>by rw[hC,List.drop_succ_cons,G5 x op (i+1) j r,List.drop_succ_cons,show i+1+j=i+(j+1) by omega]
def tw{p}{f}{x}(h:fc p next x out=false):visit p next f x out=([x],none):=by
 cases f with
 | zero=>rfl
 | succ f=>rw[visit,if_neg wv]
def vb{p}{f}{x}(h:fc p next x out):visit p next (f+1) x out=(x::(eS (visit p next f) (hC x (fu p x).op 0 (fu p x).kids) (iE out x)).1,(eS (visit p next f) (hC x (fu p x).op 0 (fu p x).kids) (iE out x)).2):=by
 rw[visit,if_pos h]
def NS{p}(f)(x)(a):(visit p next f x a).1≠ []:=by
 cases h:fc p next x a with
 | false=>rw[tw h];simp
 | true=>
  cases f with
  | zero=>simp[visit]
  | succ f=>rw[vb h];simp
theorem XF{v}(a:∀x o,(v x o).1≠ []):∀(l:List dw) (o:ak),(eS v l o).2=none->(eS v l o).1≠ []
 | [],o,h=>by simp[eS] at h
 | y::r,o,h=>by
  simp[eS] at h ⊢;have:=a y o;rcases cd:v y o with⟨od,_ | hx⟩
  ·rw[cd] at this;exact this
  ·rw[cd] at this;intro e;exact this (List.append_eq_nil_iff.1 e).1
def NT(b:α)(A:List α)(W:α)(X:List α):(b::(A++(W::X))).Perm (A++(W::b::X)):=by
 have:=(List.perm_middle (a:=b) (l₁:=A++[W]) (l₂:=X)).symm;simpa using this
def NU{p}(f)(x)(a):∃t,(visit p next f x a).1=x::t:=by
 cases h:fc p next x a with
 | false=>rw[tw h];exact⟨[],rfl⟩
 | true=>
  cases f with
  | zero=>exact⟨[],rfl⟩
  | succ f=>rw[vb h];exact⟨_,rfl⟩
def XG{p}{f}{x}{pre a L}(h:pre++(visit p next f x out).1++a=L):pre++[x]<+:L:=by
 obtain⟨t,g⟩:=NU (p:=p) (next:=next) f x out;rw[<-h,g];exact⟨t++a,aS⟩
def XH{p}{f}{x}{pre rest L}(e5:pre++(visit p next f x out).1++rest=L)(zM:(visit p next f x out).2≠none->h0=true->rest≠ [])(b8:h0)(h:pre++[x]=L):(visit p next f x out).2=none:=by
 obtain⟨t,ht⟩:=NU (p:=p) (next:=next) f x out;cases bd:(visit p next f x out).2 with
 | none=>rfl
 | some o=>
  exfalso;have ae:=zM (by rw[bd];simp) b8;rw[<-e5,ht,List.append_assoc] at h;have ao:=List.append_cancel_left h;simp only[List.cons_append,List.cons.injEq,true_and] at ao;exact ae (List.append_eq_nil_iff.1 ao.symm).2
def XI{p}{f:Nat}{x:dw}{pre c L}(q:x.cw+f=14)(m:pre++(visit p next f x out).1++c=L)(j:(visit p next f x out).2=none->c= []/\h0=true)(g:pre++[x]=L->h0=false):
  fc p next x out=true/\∃r,f=r+1:=by
 have h:fc p next x out=true:=by
  cases bd:fc p next x out with
  | true=>rfl
  | false=>
   exfalso;have e:=tw (f:=f) bd;obtain⟨o,l⟩:=j (by rw[e]);rw[e,o,List.append_nil] at m;rw[g m] at l;cases l
 refine⟨h,?_⟩;cases f with
 | succ f=>exact⟨f,rfl⟩
 | zero=>
  exfalso;simp[fc,mI,Bool.and_eq_true,decide_eq_true_eq] at h;omega
def XJ{p}{x}(h:fc p next x out):0<=x.n/\x.n<p.nodes.length:=by
 simp[fc,mI,Bool.and_eq_true,decide_eq_true_eq] at h;exact⟨h.1.1.1.1,h.1.1.1.2⟩
def NV{v}(t:∀x o,(v x o).1≠ []){c}{i}{y}{s o}{l}(g:c.drop i=y::c.drop (i+1))(h:eS v (c.take i) s=(l,some o)):
  ∃R,(eS v c s).1=l++((v y o).1++R)/\((v y o).2=none->R= []/\(eS v c s).2=none)/\(∀r,(v y o).2=some r->eS v (c.take (i+1)) s=(l++(v y o).1,some r)/\((eS v c s).2=none->R≠ [])):=by
 have a:eS v c s=(l++(eS v (c.drop i) o).1,(eS v (c.drop i) o).2):=by
  have:=G3 v (c.take i) (c.drop i) s h;rwa [List.take_append_drop] at this
 rw[g] at a;have f:i<c.length:=by
  rcases Nat.lt_or_ge i c.length with q | q
  ·exact q
  ·rw[List.drop_of_length_le q] at g;cases g
 have m:c.take (i+1)=c.take i++[y]:=by
  have:c.drop i=c[i]::c.drop (i+1):=List.drop_eq_getElem_cons f;rw[this] at g;rw[List.take_succ_eq_append_getElem f,(List.cons.inj g).1]
 have j:=G3 v (c.take i) [y] s h;simp[eS] at a;rcases cd:v y o with⟨od,_ | hx⟩
 ·rw[cd] at a;refine⟨[],by rw[a];simp,λ_=>⟨rfl,by rw[a]⟩,λo' h=>(by cases h)⟩
 ·rw[cd] at a;refine⟨(eS v (c.drop (i+1)) hx).1,by rw[a],λh=>(by cases h),λo' h=>?_⟩;cases h;refine⟨?_,λh=>?_⟩
  ·rw[m,j];simp[eS,cd]
  ·rw[a] at h;exact XF t _ _ h
def NW(x)(op){l}{i}(h:i<l.length):(hC x op 0 l).drop i=gR x op i (l.getD i default)::(hC x op 0 l).drop (i+1):=by
 rw[G5,G5,Nat.zero_add,Nat.zero_add,u4 h,hC]
def XK{p}{f}{x y}{pre rest L l R:List dw}{W:List dw×Option ak}(zN:visit p next (f+1) x out=(x::W.1,W.2))(e5:pre++(visit p next (f+1) x out).1++rest=L)
  (NX:(visit p next (f+1) x out).2=none->rest= []/\h0=true) (zM:(visit p next (f+1) x out).2≠none->h0=true->rest≠ []) (hR:W.1=l++((visit p next f y o).1++R)) (zO:(visit p next f y o).2=none->R= []/\W.2=none) (xi:∀o':ak,(visit p next f y o).2=some o'->(W.2=none->R≠ [])):
  (pre++x::l)++(visit p next f y o).1++(R++rest)=L/\((visit p next f y o).2=none->R++rest= []/\h0=true)/\((visit p next f y o).2≠none->h0=true->R++rest≠ []):=by
 rw[zN] at e5 NX zM;refine⟨by rw[<-e5,hR];simp,λh=>?_,λh b8 he=>?_⟩
 ·obtain⟨ae,ao⟩:=zO h;obtain⟨aV,bu⟩:=NX ao;exact⟨by rw[ae,aV];rfl,bu⟩
 ·obtain⟨o',bb⟩:=Option.ne_none_iff_exists'.1 h;obtain⟨G,C⟩:=List.append_eq_nil_iff.1 he;cases hw:W.2 with
  | none=>exact xi o' bb hw G
  | some q=>exact zM (by simp[hw]) b8 C
def aB.vc{r}{P}{f}(g:H'.Sublist H)(h:aB c r P f ⟨env,H'⟩ Q):aB c r P f ⟨env,H⟩ Q:=λa w s=>h a w (s.weaken (λ_ _ h=>h) g)
def aZ.vc{e}(f:H'.Sublist H)(h:aZ c ⟨env,H'⟩ e Q):aZ c ⟨env,H⟩ e Q:=λa w s=>h a w (s.weaken (λ_ _ h=>h) f)
def CX(A:List α)(W b:α)(X:List α):(A++(W::X)).Sublist (A++(W::b::X)):=.append_left xb _
def hD(pre:List dw)(out:ak):ak:=pre.foldl iE out
structure j8(p:Prog)(next:Bool)(out:ak)(L:List dw)(r:Option ak):Prop where
 yes:∀pre y,pre++[y]<+:L->¬(pre++[y]=L/\r=none)->fc p next y (hD pre out)=true
 no:∀pre y,pre++[y]=L->r=none->fc p next y (hD pre out)=false
 end_:∀o,r=some o->o=hD L out
 ne:r=none->L≠ []
def j8.nil{p}:j8 p next out [] (some out):=
 ⟨λpre y h=>by have:=h.length_le;simp at this,λpre y h=>by simp at h,λo h=>by cases h;rfl,λh=>by cases h⟩
def G6(a b)(o):hD (a++b) o=hD b (hD a o):=by simp[hD]
def XL{A c f:List α}(h:A<+:c++f):A<+:c\/∃B,A=c++B/\B<+:f:=by
 obtain⟨t,g⟩:=h;rcases List.append_eq_append_iff.1 g with⟨a,ae,ao⟩ | ⟨a,ae,ao⟩
 ·exact .inl ⟨a,ae.symm⟩
 ·exact .inr ⟨a,ae,t,ao.symm⟩
def NY{pre c B:List α}{y:α}(h:pre++[y]=c++B)(j:B≠ []):∃a,B=a++[y]/\pre=c++a:=by
 rcases List.eq_nil_or_concat B with rfl | ⟨a,z,rfl⟩
 ·exact absurd rfl j
 ·rw[List.concat_eq_append, <-List.append_assoc] at h;obtain⟨g,f⟩:=List.append_inj' h rfl;cases f;exact⟨a,List.concat_eq_append,g⟩
def j8.append{p}{a f}{w x}{r}(l:j8 p next a w (some f))(c:j8 p next f x r):j8 p next a (w++x) r:=by
 have s:=l.end_ f rfl;refine⟨λpre y h z=>?_,λpre y h v=>?_,λo h=>?_,λh=>?_⟩
 ·rcases XL h with h | ⟨B,t,A⟩
  ·exact l.yes pre y h λa1=>by cases a1.2
  ·rcases Classical.em (B= []) with rfl | g
   ·rw[List.append_nil] at t;exact l.yes pre y (by rw[t];exact List.prefix_refl _) λa1=>by cases a1.2
   ·obtain⟨q,rfl,rfl⟩:=NY t g;rw[G6, <-s];exact c.yes q y A λa1=>z ⟨by rw[List.append_assoc,a1.1],a1.2⟩
 ·obtain⟨q,rfl,rfl⟩:=NY h (c.ne v);rw[G6, <-s];exact c.no q y rfl v
 ·rw[G6, <-s];exact c.end_ o h
 ·intro e;exact c.ne h (List.append_eq_nil_iff.1 e).2
def G7{pre:List α}{x y:α}(c:pre++[y]<+: [x]):pre= []/\y=x:=by
 have f:=c.length_le;simp only[List.length_append,List.length_singleton] at f;obtain rfl:pre= []:=List.eq_nil_of_length_eq_zero aa;obtain⟨t,a⟩:=c;simp at a;exact⟨rfl,a.1⟩
def j8.one{p}{x}(h:fc p next x out):j8 p next out [x] (some (iE out x)):=
 ⟨λpre y c _=>by obtain⟨rfl,rfl⟩:=G7 c;exact h,λpre y c f=>by(cases f),λo h=>by(cases h;rfl),λh=>by(cases h)⟩
def j8.not{p}{x}(h:fc p next x out=false):j8 p next out [x] none:=
 ⟨λpre y a f=>by obtain⟨rfl,rfl⟩:=G7 a;exact absurd ⟨rfl,rfl⟩ f,λpre y a g=>by obtain⟨rfl,rfl⟩:=G7 (by rw[a];exact List.prefix_refl _);exact h,λo h=>by(cases h),λh=>by simp⟩
theorem j8.kids{p}{next}{v}{ok:dw->Prop}(f:∀x o,ok x->j8 p next o (v x o).1 (v x o).2):∀(l:List dw),(∀x∈l,ok x)->∀(o:ak),j8 p next o (eS v l o).1 (eS v l o).2
 | [],_,o=>j8.nil
 | y::r,c,o=>by
  have a:=f y o (c y dv);simp[eS];rcases cd:v y o with⟨od,_ | hx⟩
  ·rw[cd] at a;exact a
  ·rw[cd] at a;exact a.append (j8.kids f r (λx g=>c x (.tail _ g)) hx)
theorem CY(x)(op):∀(i:Nat) (l:ak),∀y∈hC x op i l,y.cw=x.cw+1
 | _,[],y,h=>by simp[hC] at h
 | i,k::r,y,h=>by
  rw[hC,List.mem_cons] at h;rcases h with rfl | h
  ·rfl
  ·exact CY x op (i+1) r y h
theorem xj{p}{next}:∀(f:Nat) (x:dw) (a:ak),x.cw+f=14->j8 p next a (visit p next f x a).1 (visit p next f x a).2
 | 0,x,a,h=>by
  refine j8.not ?_;unfold fc mI;rw[show decide (x.cw<=12)=false from decide_eq_false aa];simp
 | f+1,x,a,h=>by
  cases bD:fc p next x a with
  | false=>rw[tw bD];exact j8.not bD
  | true=>
   rw[vb bD];exact (j8.one bD).append (j8.kids (ok:=λy=>y.cw+f=14) (λy o c=>xj f y o c) _ (λy c=>by rw[CY _ _ _ _ y c];omega) _)
def XM(o)(x):(iE o x).length=o.length:=by simp[iE]
theorem xk:∀(l:List dw) (o:ak),(hD l o).length=o.length
 | [],o=>rfl
 | x::r,o=>by rw[show hD (x::r) o=hD r (iE o x) from rfl,xk r,XM]
def NZ(l)(x)(o):hD (l++[x]) o=iE (hD l o) x:=by simp[hD]
def vd(x:dw):Prop:=-1000<=x.bB/\x.bB<=1000+x.cw/\1<=x.cw/\x.cw<=14
theorem N0{p}{next}:∀(f:Nat) (x:dw) (g:ak),x.cw+f=14->vd x->∀y∈(visit p next f x g).1,vd y
 | 0,x,g,h,j,y,a=>by rw[show (visit p next 0 x g).1= [x] from rfl] at a;simp at a;subst a;exact j
 | f+1,x,g,h,j,y,a=>by
  cases bD:fc p next x g with
  | false=>rw[tw bD] at a;simp at a;subst a;exact j
  | true=>
   rw[vb bD] at a;simp[List.mem_cons] at a;rcases a with rfl | a
   ·exact j
   ·have s:∀(l:List dw),(∀z∈l,z.cw+f=14/\vd z)->∀(o:ak),∀y∈(eS (visit p next f) l o).1,vd y:=by
     intro l
     induction l with
     | nil=>intro _ o y a;simp[eS] at a
     | cons z r t=>
      intro q o y a;simp[eS] at a;have m:=N0 (p:=p) (next:=next) f z o (q z dv).1 (q z dv).2;rcases cd:visit p next f z o with⟨C,_ | w⟩
      ·rw[cd] at a m;exact m y a
      ·rw[cd] at a m;simp only[List.mem_append] at a;rcases a with a | a
       ·exact m y a
       ·exact t (λz c=>q z (.tail _ c)) w y a
    refine s _ (λz c=>⟨by rw[CY _ _ _ _ z c];omega,?_⟩) _ y a;have B:=CY _ _ _ _ z c;have:∀(op:Int) (i:Nat) (l:ak),∀z∈hC x op i l,z.bB=x.bB\/z.bB=x.bB+1:=by
     intro op i l
     induction l generalizing i with
     | nil=>intro z c;simp[hC] at c
     | cons k r t=>
      intro z c;rw[hC,List.mem_cons] at c;rcases c with rfl | c
      ·simp only[gR];split <;> simp
      ·exact t (i+1) z c
    have A:=this _ _ _ z c;unfold vd at j ⊢;omega
def XN{p}{x}(h:mI p x C=false):fc p next x C=false:=by simp[fc,h]
def XO{p}{x}(h:(gC p (fu p x) x.bB && (next || (fu p x).op !=18))=false):fc p next x C=false:=by
 simp[fc,pV,h,Bool.false_and,Bool.and_false]
def XP{p}{x}(h:ik (fu p x).op=none):fc p next x C=false:=by
 simp[fc,pV,h]
def XQ{p}{x}(c:mI p x C)(a:(gC p (fu p x) x.bB && (next || (fu p x).op !=18)))(h:ik (fu p x).op=some (some k)):fc p next x C=(((fu p x).kids.length:Int)==(k:Int)):=by
 simp[fc,pV,c,a,h,Bool.true_and];rw[Bool.eq_iff_iff,beq_iff_eq,beq_iff_eq];omega
def XR{p}{x}(c:mI p x C)(a:(gC p (fu p x) x.bB && (next || (fu p x).op !=18)))(h:ik (fu p x).op=some none):fc p next x C=(((fu p x).kids.length:Int)==p.cT.getD (fu p x).n.toNat default):=by
 simp[fc,pV,c,a,h,Bool.true_and]
def N1{p}{x}(h:mI p x C):0<=x.n/\x.n<p.nodes.length:=by
 simp[mI,Bool.and_eq_true,decide_eq_true_eq] at h;exact h.1.1
def XS(h:i<C.length):(C.map ab.i)[0+i*1]? =some (.i (C.getD i default)):=by
 rw[Nat.zero_add,Nat.mul_one,List.getElem?_map,List.getElem?_eq_getElem h,Option.map_some,List.getD_eq_getElem?_getD,List.getElem?_eq_getElem h];rfl
def XT{s}(h:i<C.length):(C.map ab.i).take (0+i*1)++[.i s]++(C.map ab.i).drop (0+i*1+1)=(C.set i s).map ab.i:=by
 rw[Nat.zero_add,Nat.mul_one,List.map_set,List.set_eq_take_append_cons_drop,if_pos gQ,List.append_assoc];rfl
mutual
theorem N2(w:Fc.bt):∀(f:Fact) (left a:Int),(fz w f left a).1=true->nn f=true
 | .mk op arg path cls n kids,left,a,h=>by
  rw[fz] at h;by_cases j:iQ (.mk op arg path cls n kids) (left - 1) a=true
  ·rw[if_pos j] at h;cases h
  rw[if_neg j] at h;have t:(kids.length:Int)=j6 op:=by
   have s:iQ (.mk op arg path cls n kids) (left - 1) a=false:=by simpa using j
   simp[iQ,Bool.or_eq_false_iff,bne_eq_false_iff_eq] at s;exact s.2
  by_cases c:dm (.mk op arg path cls n kids)=true
  ·rw[if_pos c] at h;have c:2<=op/\op<=4:=by rw[dm,Bool.and_eq_true] at c;exact⟨of_decide_eq_true c.1,of_decide_eq_true c.2⟩
   have o:kids= []:=by
    have:j6 op=0:=by unfold j6;rw[if_neg aa,if_neg aa]
    exact List.eq_nil_of_length_eq_zero aa
   have x:0<=arg/\arg<3:=by
    have m:jl w (.mk op arg path cls n kids)=true:=by simp[Bool.and_eq_true] at h;exact h.1
    rw[jl,Bool.not_eq_true',Bool.or_eq_false_iff,Bool.or_eq_false_iff] at m;have v: ¬arg<0:=of_decide_eq_false m.1.1;have z: ¬arg>=3:=of_decide_eq_false m.1.2;omega
   subst o;have l:gY (.mk op arg path cls n [])=arg+1:=by unfold gY;rw[if_pos (by show op=2\/op=3\/op=4;omega)];rfl
   simp[nn,u3,l,Bool.and_true,Bool.and_eq_true,decide_eq_true_eq];omega
  ·rw[if_neg c] at h;have g:dm (.mk op arg path cls n kids)=false:=by simpa using c
   have g: ¬(2<=op/\op<=4):=by intro q;rw[show dm (.mk op arg path cls n kids)=true by rw[dm,Bool.and_eq_true];exact⟨decide_eq_true q.1,decide_eq_true q.2⟩] at g;cases g
   have l:gY (.mk op arg path cls n kids)=0:=by unfold gY;rw[if_neg (by show ¬(op=2\/op=3\/op=4);omega)]
   by_cases r:jk (.mk op arg path cls n kids)=true
   ·rw[if_pos r] at h;have:=N3 w kids _ _ h;simp only[nn,l,this,Bool.and_true];decide
   ·rw[if_neg r] at h;cases h
theorem N3(w:Fc.bt):∀(l:List Fact) (left a:Int),(ek w l left a).1=true->u3 l=true
 | [],left,a,h=>rfl
 | k::r,left,a,h=>by
  rw[ek] at h;by_cases c:(fz w k left a).1=true
  ·rw[if_pos c] at h;rw[u3,N2 w k _ _ c,N3 w r _ _ h];rfl
  ·rw[if_neg c] at h;exact absurd h c
end
def N4{w}{f}(h:lA w f):nn f=true:=N2 w f 24 12 h
def pW(p:Prog):Bool:=decide ((p.cT.length:Int)<=8) && decide ((p.methods.length:Int)<=16) && decide ((p.nodes.length:Int)>=1) && decide ((p.nodes.length:Int)<=120)
def mJ(n:Int):Bool:=decide (n>=1) && decide (n<=3)
def qX(p:Prog)(m:jm):Bool:=decide (m.kind>=1) && decide (m.kind<=4) && decide (m.gen>=0) && decide (m.gen<p.cT.length)
def qY(p:Prog)(m:jm):Bool:=(cx (bS p) && lA (bS p) m.fact) && decide (np m.fact<=p.cT.getD m.gen.toNat default)
def k4(m:jm):Bool:=m.kind==1 || m.kind==4
def mr(p:Prog)(m:jm):dw:=⟨m.node,p.cT.getD m.gen.toNat default,1⟩
def gZ(p:Prog):List jm->ak->Option ak
 | [],out=>some out
 | m::r,out=>if qX p m && qY p m then (match (visit p (k4 m) 13 (mr p m) out).2 with
  | none=>none
  | some o=>gZ p r o) else none
def iT(p:Prog):ak:=List.replicate p.nodes.length (-1)
def XU(p):(iT p).map ab.i=List.replicate p.nodes.length (.i (-1)):=by simp[iT]
def bw(p:Prog):Option ak:=
 if fP p && pW p && p.cT.all mJ then (match gZ p p.methods (iT p) with
  | none=>none
  | some o=>match (visit p false 13 ⟨p.main,0,1⟩ o).2 with
   | none=>none
   | some fx=>if fx.contains (-1) then none else some fx) else none
def N5{p}(h:fP p=false):bw p=none:=by unfold bw;rw[h];rfl
def N6{p}(h:pW p=false):bw p=none:=by unfold bw;rw[h,Bool.and_false];rfl
def N7{p}(h:p.cT.all mJ=false):bw p=none:=by unfold bw;rw[h,Bool.and_false];rfl
def zP{p}(h:gZ p p.methods (iT p)=none):bw p=none:=by unfold bw;rw[h];split <;> rfl
def N8{p}(h:gZ p p.methods (iT p)=some o)(a:(visit p false 13 ⟨p.main,0,1⟩ o).2=none):bw p=none:=by unfold bw;rw[h];simp only[a];split <;> rfl
def N9{p}(h:gZ p p.methods (iT p)=some o)(a:(visit p false 13 ⟨p.main,0,1⟩ o).2=some fx)(c:fx.contains (-1)=true):bw p=none:=by unfold bw;rw[h];simp only[a,c,if_true];split <;> rfl
def Oa{p}(j:fP p)(a:pW p)(f:p.cT.all mJ=true)(h:gZ p p.methods (iT p)=some o)(g:(visit p false 13 ⟨p.main,0,1⟩ o).2=some fx)(c:fx.contains (-1)=false):bw p=some fx:=by
 unfold bw;rw[j,a,f,h];simp only[g,c];rfl
def G8{p:Prog}{m:jm}(aQ:i<p.methods.length)(hm:m=p.methods.getD i default):gZ p (p.methods.drop i) o=if qX p m && qY p m then (match (visit p (k4 m) 13 (mr p m) o).2 with
  | none=>none
  | some o=>gZ p (p.methods.drop (i+1)) o) else none:=by
 rw[u4 aQ,gZ, <-hm]
def G9{p}{m}(a:i<p.methods.length)(hm:m=p.methods.getD i default)(h:(qX p m && qY p m)=false):gZ p (p.methods.drop i) o=none:=by
 rw[G8 a hm,h];rfl
def Ob{p}{m}(a:i<p.methods.length)(hm:m=p.methods.getD i default)(h:(visit p (k4 m) 13 (mr p m) o).2=none):gZ p (p.methods.drop i) o=none:=by
 rw[G8 a hm,h];split <;> rfl
def Oc{p}{m}(c:i<p.methods.length)(hm:m=p.methods.getD i default)(a:(qX p m && qY p m))(h:(visit p (k4 m) 13 (mr p m) o).2=some o'):gZ p (p.methods.drop i) o=gZ p (p.methods.drop (i+1)) o':=by
 rw[G8 c hm,a,h];rfl
def Od{p}{x}(f:x.cw=1)(h:(visit p next 13 x o).2.isNone=false):(visit p next 13 x o).2=some (hD (visit p next 13 x o).1 o):=by
 cases a:(visit p next 13 x o).2 with
 | none=>rw[a] at h;cases h
 | some c=>rw[(xj (p:=p) (next:=next) 13 x o aa).end_ c a]
def qZ{p:Prog}(h:p.cT.all mJ=true){n}(hn:n∈p.cT):1<=n/\n<=3:=by
 have:=List.all_eq_true.1 h n hn;simp[mJ,Bool.and_eq_true,decide_eq_true_eq] at this;exact this
def XV{p:Prog}(a:i<p.cT.length)(h:mJ (p.cT.getD i default)=false):p.cT.all mJ=false:=by
 cases cd:p.cT.all mJ with
 | false=>rfl
 | true=>rw[List.all_eq_true.1 cd _ (bI a)] at h;cases h
def CZ{p}(h:fP p):p.aE.length<=10/\∀c∈p.aE,c.parents.length<=4000000/\c.av.length<=1000:=by
 simp[fP,Bool.and_eq_true,decide_eq_true_eq] at h;have g:=u9 _ _ h.1.1.2;refine⟨h.1.1.1,λc f=>⟨?_,by have:=(g c f).1;omega⟩⟩;obtain⟨i,a,rfl⟩:=List.mem_iff_getElem.1 f;have j:j7 0 (b9 p)=true:=by have:=h.1.2.2;simp[fX,Bool.and_eq_true] at this;exact this.2
 have:=(CS (b9 p) 0 i j (by simpa [b9] using a)).1;have e:(b9 p).getD i default=p.aE[i].parents:=by
  rw[List.getD_eq_getElem?_getD,b9,List.getElem?_map,List.getElem?_eq_getElem a];rfl
 rw[e] at this;omega
def XW{b}(h:((if b=true then (0:Int) else 2)==0)=true):b=true:=by cases b <;> simp at h ⊢
def Ha(b):((if b=true then (0:Int) else 2)==0)=b:=by cases b <;> simp
def Oe{p}{x}(c:x.cw=1)(h:(visit p next 13 x o).2=some o'):o'.length=o.length:=by
 rw[(xj (p:=p) (next:=next) 13 x o aa).end_ o' h,xk]
theorem Of{p}:∀(l:List jm) (o a:ak),gZ p l o=some a->a.length=o.length
 | [],o,a,h=>by rw[gZ] at h;cases h;rfl
 | m::r,o,a,h=>by
  rw[gZ] at h;split at h
  ·cases bd:(visit p (k4 m) 13 (mr p m) o).2 with
   | none=>rw[bd] at h;cases h
   | some c=>
    rw[bd] at h;rw[Of r c a h,Oe rfl bd]
  ·cases h
def iF{p}(h:bw p=some o):fP p=true/\pW p=true/\p.cT.all mJ=true/\∃a,gZ p p.methods (iT p)=some a/\(visit p false 13 ⟨p.main,0,1⟩ a).2=some o/\o.contains (-1)=false:=by
 unfold bw at h;split at h
 ·rename_i c;rw[Bool.and_eq_true,Bool.and_eq_true] at c;refine⟨c.1.1,c.1.2,c.2,?_⟩;cases hm:gZ p p.methods (iT p) with
  | none=>rw[hm] at h;cases h
  | some a=>
   rw[hm] at h;cases bd:(visit p false 13 ⟨p.main,0,1⟩ a).2 with
   | none=>simp only[bd] at h;cases h
   | some g=>
    simp only[bd] at h;split at h
    ·cases h
    ·rename_i f;cases h;exact⟨a,rfl,bd,by simpa using f⟩
 ·cases h
def sb{p}(h:bw p=some o):o.length=p.nodes.length/\p.nodes.length<=120:=by
 obtain⟨_,c,_,g,a,f,_⟩:=iF h;refine⟨by rw[Oe rfl f,Of _ _ _ a];simp[iT],?_⟩;simp[pW,Bool.and_eq_true,decide_eq_true_eq] at c;omega
def Og(o:ak):o.map ab.i=(o.map λn=>[ab.i n]).flatten++[]:=by
 rw[List.append_nil]
 induction o with
 | nil=>rfl
 | cons a r c=>rw[List.map_cons,c];rfl
def fp.outs{nb n}{pre post}(hm:.au nb 3 (o.map .i)∈H)(hn:o.length=n)(g:n<=1000000):fp H (pre++.val (.slice (some ⟨nb,0,none⟩) n n)::post) (pre++.ints o::post):=by
 have e:(o.map λn=>[ab.i n]).flatten++[]=o.map ab.i:=by
  rw[List.append_nil];clear hm hn
  induction o with
  | nil=>rfl
  | cons a r c=>rw[List.map_cons,List.flatten_cons,c];rfl
 have h:=fp.au (t:=3) (b:=nb) (k:=1) (cap:=n) (els:=o.map λn=>[.i n]) (more:=[]) (pre:=pre) (post:=post) (H:=H) (by rw[e];exact hm) (λx f=>by obtain⟨y,_,rfl⟩:=List.mem_map.1 f;rfl) nL h5;rw[List.length_map,hn] at h;exact h
abbrev ab.l6(l:List (Int×Int)):ab:=.ai 2 (l.map qW)
def eH(p:Prog)(c:Int):Bool:=decide (c>=3) && decide (c<3+p.aE.length) && (bw p).isSome
def ve{p}{c}(h:eH p c):(3<=c/\c<3+p.aE.length)/\fP p=true:=by
 simp[eH,Bool.and_eq_true,decide_eq_true_eq] at h;obtain⟨o,a⟩:=Option.isSome_iff_exists.1 h.2;exact⟨h.1,(iF a).1⟩
def Oh{p}(h:fP p):∀c∈p.aE,∀x∈c.parents,fV x:=by
 simp[fP,Bool.and_eq_true,decide_eq_true_eq] at h;exact (NR h.1.2.2).2
end Go.Eng.dN

