/- A part of the proof. No condition. -/
import Derived.Test.YtodccgailpkgeaaGreatKindClosesP8
set_option linter.defProp false
set_option maxHeartbeats 1000000
set_option linter.unusedVariables false
namespace Go.Eng
abbrev ab.ints(l:al):ab:=.aj 1 (l.map λn=>[ab.i n])
abbrev ab.bp(l:List al):ab:=.aj 1 (l.map λx=>[ab.ints x])
def bn{a b}(h:a=b):iG [.b a]=.b b:=by subst h;rfl
def fJ{a b}(h:a=b):iG [.i a]=.i b:=by subst h;rfl
def xg{x y}(h:x=y):iG [x]=y:=h
def CT(n:Nat)(h:n<18446744073709551616):(BitVec.ofInt IntKind.u64.bits (n:Int)).toNat=n:=by
 simp[IntKind.bits];omega
def zG(n:Nat)(h:n<18446744073709551616):IntKind.u64.wrap (n:Int)=n:=by
 simp only[IntKind.wrap,IntKind.bits,IntKind.signed];simp;omega
def u0(s t:Nat)(a:s<18446744073709551616)(ht:t<18446744073709551616):pG .or .u64 (s:Int) (t:Int)=some ((s ||| t:Nat):Int):=by
 show some (IntKind.u64.wrap _)=_;rw[BitVec.toNat_or,CT s a,CT t ht,zG _ (Nat.or_lt_two_pow (n:=64) a ht)]
def zH(s t:Nat)(a:s<18446744073709551616)(ht:t<18446744073709551616):pG .and .u64 (s:Int) (t:Int)=some ((s &&& t:Nat):Int):=by
 show some (IntKind.u64.wrap _)=_;rw[BitVec.toNat_and,CT s a,CT t ht,zG _ (Nat.lt_of_le_of_lt Nat.and_le_left a)]
def me(s t:Nat):Nat:=(BitVec.ofNat 64 s &&& ~~~BitVec.ofNat 64 t).toNat
def Nn(s t:Nat):pG .andNot .u64 (s:Int) (t:Int)=some (me s t:Int):=by
 show some (IntKind.u64.wrap _)=_;have e:∀n:Nat,BitVec.ofInt IntKind.u64.bits (n:Int)=BitVec.ofNat 64 n:=λn=>by simp[IntKind.bits]
 rw[e,e,zG _ (by exact BitVec.isLt (w:=64) _)];rfl
def No(s:Nat)(c):uA .shr .u64 (s:Int) c=some ((s / 2^min c.toNat 64:Nat):Int):=by
 show some ((s:Int).fdiv (2^(min c.toNat 64)))=_;congr 1;have:((2:Int)^min c.toNat 64)=((2^min c.toNat 64:Nat):Int):=by simp
 rw[this];exact (Int.ofNat_fdiv _ _).symm
def Np(c)(h:0<=c/\c<64):uA .shl .u64 1 c=some ((2^c.toNat:Nat):Int):=by
 show some (IntKind.u64.wrap _)=_;have e:min c.toNat IntKind.u64.bits=c.toNat:=Nat.min_eq_left (by simp[IntKind.bits];omega);have f:(1:Int)*2^(min c.toNat IntKind.u64.bits)=((2^c.toNat:Nat):Int):=by rw[e];simp
 rw[f,zG _ (Nat.pow_lt_pow_right (a:=2) (n:=64) aa aa)]
def GR(s)(c:Int)(f:s<18446744073709551616):((((s / 2^min c.toNat 64) &&& 1:Nat):Int)==1)=s.testBit c.toNat:=by
 rw[Nat.and_one_is_mod];have a:s.testBit c.toNat=decide (s / 2^min c.toNat 64%2=1):=by
  by_cases h:c.toNat<=64
  ·rw[Nat.min_eq_left h,Nat.testBit_eq_decide_div_mod_eq]
  ·rw[Nat.min_eq_right aa,Nat.testBit_lt_two_pow (Nat.lt_of_lt_of_le f (Nat.pow_le_pow_right (n:=2) (i:=64) aa aa))];rw[Nat.div_eq_of_lt aa];simp
 rw[a];rcases Nat.mod_two_eq_zero_or_one (s / 2^min c.toNat 64) with h | h <;> rw[h] <;> rfl
namespace Fc
inductive Fact where
 | mk (op arg:Int) (path:List Int) (cls n:Int) (kids:List Fact)
def Fact.op:Fact->Int | .mk x _ _ _ _ _=>x
def Fact.arg:Fact->Int | .mk _ x _ _ _ _=>x
def Fact.path:Fact->al | .mk _ _ x _ _ _=>x
def Fact.cls:Fact->Int | .mk _ _ _ x _ _=>x
def Fact.n:Fact->Int | .mk _ _ _ _ x _=>x
def Fact.kids:Fact->List Fact | .mk _ _ _ _ _ x=>x
instance:Inhabited Fact:=⟨.mk 0 0 [] 0 0 []⟩
mutual
def Nq:Fact->bl
 | .mk op arg path cls n kids=>[.i op,.i arg,ab.ints path,.i cls,.i n,.aj 6 (kG kids)]
def kG:List Fact->List bl
 | []=>[]
 | f::r=>Nq f::kG r
end
def fy(f:Fact):bl:=[.i f.op,.i f.arg,ab.ints f.path,.i f.cls,.i f.n,.aj 6 (kG f.kids)]
def X3(f):Nq f=fy f:=by cases f;rfl
theorem oU:∀l:List Fact,kG l=l.map fy
 | []=>rfl
 | f::r=>by rw[kG,X3,oU r];rfl
instance:pI kG fy:=⟨oU⟩
abbrev ab.facts(l:List Fact):ab:=.aj 6 (kG l)
def tB{els}(l)(h:els=l.map fy):aq (.aj 6 els) (ab.facts l):=by subst h;rw[<-oU];exact .refl _
abbrev ab.fact(f:Fact):ab:=.agg (fy f)
mutual
def Fact.te:Fact->Fact->Bool
 | .mk a b c d e f,.mk kJ dL X4 F1 e' f'=>a==kJ && b==dL && d==F1 && e==e' && c==X4 && Fact.u1 f f'
def Fact.u1:List Fact->List Fact->Bool
 | [],[]=>true
 | x::r,y::s=>Fact.te x y && Fact.u1 r s
 | _,_=>false
end
mutual
theorem Fact.zI:∀x y:Fact,Fact.te x y=true↔x=y
 | .mk a b c d e f,.mk t s v r w q=>by
  rw[Fact.te];simp[Bool.and_eq_true,beq_iff_eq,Fact.Nr f q,Fact.mk.injEq];constructor
  ·rintro⟨⟨⟨⟨⟨h,m⟩,l⟩,g⟩,j⟩,o⟩;exact⟨h,m,j,l,g,o⟩
  ·rintro⟨h,m,j,l,g,o⟩;exact⟨⟨⟨⟨⟨h,m⟩,l⟩,g⟩,j⟩,o⟩
theorem Fact.Nr:∀x y:List Fact,Fact.u1 x y=true↔x=y
 | [],[]=>by simp[Fact.u1]
 | [],_::_=>by simp[Fact.u1]
 | _::_,[]=>by simp[Fact.u1]
 | x::r,y::s=>by
  rw[Fact.u1];simp[Bool.and_eq_true,Fact.zI x y,Fact.Nr r s,List.cons.injEq]
end
instance:BEq Fact:=⟨Fact.te⟩
instance:LawfulBEq Fact where
 eq_of_beq h:=(Fact.zI _ _).1 h
 rfl:=(Fact.zI _ _).2 rfl
instance:DecidableEq Fact:=λa b=>if h:Fact.te a b=true then isTrue ((Fact.zI a b).1 h) else isFalse λe=>h ((Fact.zI a b).2 e)
def Fact.ext'{x y:Fact}(g:x.op=y.op)(f:x.arg=y.arg)(c:x.path=y.path)(a:x.cls=y.cls)(j:x.n=y.n)(h:x.kids=y.kids):x=y:=by
 cases x;cases y;simp only[Fact.op,Fact.arg,Fact.path,Fact.cls,Fact.n,Fact.kids] at*;subst_vars;rfl
mutual
theorem Fact.mf{P:Fact->Prop}(h:∀f,(∀k∈f.kids,P k)->P f):∀f,P f
 | .mk a b c d e f=>h _ (Fact.Ns h f)
theorem Fact.Ns{P:Fact->Prop}(h:∀f,(∀k∈f.kids,P k)->P f):∀l:List Fact,∀k∈l,P k
 | [],_,a=>by cases a
 | x::r,k,a=>by
  rcases List.mem_cons.1 a with e | a
  ·rw[e];exact Fact.mf h x
  ·exact Fact.Ns h r k a
end
structure c1 where
 f:Fact
 neg:Bool
def pW(l:c1):bl:=[.i l.f.op,.i l.f.arg,ab.ints l.f.path,.i l.f.cls,.i l.f.n,.aj 6 (kG l.f.kids),.b l.neg]
instance:Inhabited c1:=⟨default,false⟩
abbrev ab.lit(l:c1):ab:=.agg (pW l)
abbrev ab.lits(l:List c1):ab:=.aj 7 (l.map pW)
structure bx where
 parents:List al
 owner:al
def cB(w:bx):bl:=[ab.bp w.parents,ab.ints w.owner]
abbrev ab.set(s:Nat):ab:=.val (.int .u64 (s:Int))
def sh(w:bx)(c:Int):Bool:=decide (3<=c) && decide (c<3+w.parents.length)
def jr(w:bx)(c:Int):Bool:=decide (0<=c) && decide (c<3+w.parents.length)
def pc(w:bx)(s:Int):Bool:=decide (0<=s) && decide (s<w.owner.length)
def pd(U:du)(i:Nat)(l:al):Nat:=l.foldl (λs p=>s ||| U.getD p.toNat 0) (1 ||| 2^(3+i))
def hB:List al->Nat->du->du
 | [],_,U=>U
 | l::r,i,U=>hB r (i+1) (U.set (3+i) (pd U i l))
def mN(w:bx):du:=hB w.parents 0 ([1,3,5]++List.replicate 60 0)
def lf(i:Nat):al->al->Bool
 | _,[]=>true
 | seen,p::r=>!(decide (p<3) || decide (p>=3+i) || seen.contains p) && lf i (seen++[p]) r
def iJ:Nat->List al->Bool
 | _,[]=>true
 | i,l::r=>lf i [] l && iJ (i+1) r
def cy(w:bx):Bool:=decide (w.parents.length<=60) && decide (w.owner.length<=40) && iJ 0 w.parents && w.owner.all (sh w)
def ja(w:bx):ab:=.ptr (cB w++(mN w).map λs=>ab.set s)
abbrev ab.world(w:bx):ab:=.agg (cB w)
def kj(op:Int):Int:=if op=5 then 1 else if op=6\/op=7 then 2 else 0
def dp(f:Fact):Bool:=decide (2<=f.op) && decide (f.op<=4)
def pe(w:bx)(l:al):Bool:=decide (l.length<=2) && l.all (pc w)
def jb(f:Fact)(left deep:Int):Bool:=decide (left<0) || (deep==0) || decide (f.op<1) || decide (f.op>7) || ((f.kids.length:Int) !=kj f.op)
def jw(f:Fact):Bool:=!((f.arg !=0) || decide ((f.path.length:Int)>0) || (f.cls !=0) || (f.n !=0))
def jx(w:bx)(f:Fact):Bool:=!(decide (f.arg<0) || decide (f.arg>=3) || !pe w f.path)
def kO(w:bx)(f:Fact):Bool:=if f.op=2 then (f.n==0) && jr w f.cls else (f.cls==0) && decide (f.n>= -1000000000) && decide (f.n<=1000000000)
mutual
def fz(w:bx):Fact->Int->Int->Bool×Int
 | .mk op arg path cls n kids,left,deep=>
  if jb (.mk op arg path cls n kids) (left - 1) deep then (false,left - 1)
  else if dp (.mk op arg path cls n kids) then (jx w (.mk op arg path cls n kids) && kO w (.mk op arg path cls n kids),left - 1)
  else if jw (.mk op arg path cls n kids) then en w kids (left - 1) (deep - 1)
  else (false,left - 1)
def en(w:bx):List Fact->Int->Int->Bool×Int
 | [],left,_=>(true,left)
 | k::r,left,deep=>if(fz w k left deep).1 then en w r (fz w k left deep).2 deep else fz w k left deep
end
def CU(w)(f)(left a):fz w f left a=if jb f (left - 1) a then (false,left - 1) else if dp f then (jx w f && kO w f,left - 1) else if jw f then en w f.kids (left - 1) (a - 1) else (false,left - 1):=by
 cases f;rw[fz];rfl
def lL(w:bx)(f:Fact):Bool:=(fz w f 24 12).1
theorem Nt(w)(a)(x):∀(l:List Fact) (left:Int),(en w l left a).1=true->en w (l++[x]) left a=fz w x (en w l left a).2 a
 | [],left,h=>by
  show en w [x] left a=_;rw[en,en,en];by_cases f:(fz w x left a).1=true
  ·rw[if_pos f];exact Prod.ext f.symm rfl
  ·rw[if_neg f]
 | k::r,left,h=>by
  rw[en] at h;show en w (k::(r++[x])) left a=_;rw[en];by_cases c:(fz w k left a).1=true
  ·rw[if_pos c] at h;rw[if_pos c,Nt w a x r _ h,en,if_pos c]
  ·rw[if_neg c] at h;exact absurd h c
theorem Nu(w)(a)(y):∀(l:List Fact) (left:Int),(en w l left a).1=false->en w (l++y) left a=en w l left a
 | [],left,h=>by rw[en] at h;cases h
 | k::r,left,h=>by
  rw[en] at h;show en w (k::(r++y)) left a=_;rw[en,en];by_cases c:(fz w k left a).1=true
  ·rw[if_pos c] at h;rw[if_pos c,if_pos c,Nu w a y r _ h]
  ·rw[if_neg c,if_neg c]
mutual
theorem GS(w):∀(f:Fact) (left a:Int),(fz w f left a).2<=left/\((fz w f left a).1=true->0<=(fz w f left a).2)
 | .mk op arg path cls n kids,left,a=>by
  rw[fz];by_cases c:jb (.mk op arg path cls n kids) (left - 1) a=true
  ·rw[if_pos c];exact⟨cF,aT⟩
  ·rw[if_neg c];have l: ¬(left - 1<0):=by
    intro h;apply c;simp[jb,h]
   by_cases j:dp (.mk op arg path cls n kids)=true
   ·rw[if_pos j];exact⟨cF,λ_=>by simp;omega⟩
   ·rw[if_neg j];by_cases g:jw (.mk op arg path cls n kids)=true
    ·rw[if_pos g];have:=GU w kids (left - 1) (a - 1) aa;exact⟨aa,this.2⟩
    ·rw[if_neg g];exact⟨cF,aT⟩
theorem GU(w):∀(l:List Fact) (left a:Int),0<=left->(en w l left a).2<=left/\((en w l left a).1=true->0<=(en w l left a).2)
 | [],left,a,h=>by rw[en];exact⟨aT,λ_=>h⟩
 | k::r,left,a,h=>by
  rw[en];have f:=GS w k left a;by_cases c:(fz w k left a).1=true
  ·rw[if_pos c];have g:=GU w r (fz w k left a).2 a (f.2 c);exact⟨aa,g.2⟩
  ·rw[if_neg c];exact f
end
end Fc
end Go.Eng

namespace Go.Eng
def aq.b6{a b}(h:a=b):aq (.i a) (.i b):=by subst h;exact .refl _
end Go.Eng
namespace Go.Eng.dO
open Go.Eng.Fc
variable{i k:Nat}{α:Type}{l L out M:al}{v h:Int}{p:Int->Bool}{A r g:List al}
structure ih where
 parents:al
 aw:al
 inits:List (Int×Int)
structure hC where
 kind:Int
 gen:Int
 fact:Fact
 node:Int
structure gR where
 op:Int
 n:Int
 kids:al
structure Prog where
 aF:List ih
 aw:Int
 c2:al
 methods:List hC
 nodes:List gR
 main:Int
instance:Inhabited ih:=⟨⟨[],[],[]⟩⟩
instance:Inhabited hC:=⟨⟨0,0,default,0⟩⟩
instance:Inhabited gR:=⟨⟨0,0,[]⟩⟩
abbrev q5(x:Int×Int):bl:=[.i x.1,.i x.2]
abbrev pf(c:ih):bl:=[ab.ints c.parents,ab.ints c.aw,.aj 2 (c.inits.map q5)]
abbrev eS(m:hC):bl:=[.i m.kind,.i m.gen]++fy m.fact++[.i m.node]
abbrev hU(x:gR):bl:=[.i x.op,.i x.n,ab.ints x.kids]
abbrev cH(p:Prog):bl:=[.aj 3 (p.aF.map pf),.i p.aw,ab.ints p.c2,.aj 9 (p.methods.map eS),.aj 3 (p.nodes.map hU),.i p.main]
abbrev ab.prog(p:Prog):ab:=.agg (cH p)
abbrev ab.cls(c:ih):ab:=.agg (pf c)
abbrev ab.zJ(x:gR):ab:=.agg (hU x)
def ca(p:Prog):List al:=p.aF.map (·.parents)
def jy(i:Nat)(seen:al):al->Bool
 | []=>true
 | x::r=>!(decide (x<3) || decide (x>=3+i) || seen.contains x) && jy i (seen++[x]) r
def kk(i:Nat):List al->Bool
 | []=>true
 | l::r=>decide (l.length<=3) && jy i [] l && kk (i+1) r
def fZ(g:List al):Bool:=decide (g.length<=16) && kk 0 g
def u2(all:List al)(h:Int):Bool:=!(all.any λm=>m.tail.contains h)
def jc(all:List al):List al->Option Int
 | []=>none
 | []::r=>jc all r
 | (h::_)::r=>if u2 all h then some h else jc all r
def iK(h:Int)(all:List al):List al:=all.map λl=>l.filter (· !=h)
def pX:Nat->List al->al->al×Bool
 | 0,_,out=>(out,false)
 | n+1,all,out=>match jc all all with
  | some h=>pX n (iK h all) (out++[h])
  | none=>(out,all.all List.isEmpty)
def total(all:List al):Nat:=(all.map List.length).sum
def lM(all:List al):al×Bool:=pX (total all+1) all []
def lN(l:al):al:=l.filter (· !=0)
def kP(CV:List al)(b5:al):Option (List al):=
 if b5.any (λp=>(CV.getD p.toNat []).isEmpty) then none else some (b5.map (λp=>lN (CV.getD p.toNat []))++[b5])
def jd(CV:List al)(c:Nat)(b5:al):al:=
 if c=0 then [0] else match kP CV b5 with
  | none=>[]
  | some all=>let m:=lM all;if m.2 then (c:Int)::(m.1++[0]) else []
def e7(g:List al):List al:=[[],[],[]]++g
def oj:List al->Nat->List al->List al
 | [],_,out=>out
 | b5::r,c,out=>oj r (c+1) (out++[jd out c b5])
def tC(g:List al):List al:=oj (e7 g) 0 []
def dH(g:List al)(c:Int):al:=(tC g).getD c.toNat []
def hj:List ih->Nat->al
 | [],_=>[]
 | c::r,i=>List.replicate c.aw.length ((i:Int)+3)++hj r (i+1)
def bR(p:Prog):Fc.bx:=⟨ca p,hj p.aF 0⟩
def mO(cs:List ih)(i k:Nat):al:=hj (cs.take i) 0++List.replicate k ((i:Int)+3)
theorem Nv(x):∀(a:List ih) (i:Nat),hj (a++[x]) i=hj a i++List.replicate x.aw.length (((i+a.length:Nat):Int)+3)
 | [],i=>by simp[hj]
 | c::r,i=>by
  rw[List.cons_append,hj,hj,Nv x r (i+1),List.append_assoc,List.length_cons];congr 3;omega
theorem Nw:∀(a:List ih) (i:Nat),(∀c∈a,c.aw.length<=1000)->(hj a i).length<=1000*a.length
 | [],i,h=>by simp[hj]
 | c::r,i,h=>by
  have j:=Nw r (i+1) λx f=>h x (.tail _ f);have g:=h c dB;rw[hj,List.length_append,List.length_replicate,List.length_cons];omega
def UM{cs}(k)(h:∀c∈cs,c.aw.length<=1000):(mO cs i k).length<=1000*cs.length+k:=by
 have:=Nw (cs.take i) 0 λc a=>h c (List.mem_of_mem_take a);have f:(cs.take i).length<=cs.length:=by rw[List.length_take];omega
 rw[mO,List.length_append,List.length_replicate];have:1000*(cs.take i).length<=1000*cs.length:=Nat.mul_le_mul_left _ f;omega
def Nx(cs)(i k):ab.ints (mO cs i (k+1))= .aj 1 (((mO cs i k).map λn=>[.i n])++[[.i ((i:Int)+3)]]):=by
 rw[mO,List.replicate_succ', <-List.append_assoc];show ab.aj 1 (List.map _ (_++_))=_;rw[List.map_append];rfl
def Ny(cs):mO cs cs.length 0=hj cs 0:=by simp[mO]
def c3[Inhabited α]{l:List α}{k}(h:k<l.length):l.take k++[l.getD k default]=l.take (k+1):=by
 rw[List.take_succ_eq_append_getElem h,List.getD_eq_getElem?_getD,List.getElem?_eq_getElem h];rfl
def u3(l:al)(v:Int):Int:=match l.findIdx? (λx=>x==v) with | some i=>(i:Int) | none=>-1
def X5(a:k<l.length)(c:∀x∈l.take k,x≠v)(h:v=l.getD k default):(k:Int)=u3 l v:=by
 have e:l.findIdx? (λx=>x==v)=some k:=by
  rw[List.findIdx?_eq_some_iff_getElem];refine⟨a,?_,λj f=>?_⟩
  ·rw[h,List.getD_eq_getElem?_getD,List.getElem?_eq_getElem a];simp
  ·have:=c (l[j]'aa) (by rw[List.mem_take_iff_getElem];exact⟨j,aa,rfl⟩);simpa using this
 rw[u3,e]
def X6(a:∀x∈l,x≠v):(-1:Int)=u3 l v:=by
 have e:l.findIdx? (λx=>x==v)=none:=by
  rw[List.findIdx?_eq_none_iff];intro x c;simpa using a x c
 rw[u3,e]
def X7(l)(v):decide (u3 l v>=0)=l.contains v:=by
 unfold u3;cases h:l.findIdx? (λx=>x==v) with
 | none=>
  rw[List.findIdx?_eq_none_iff] at h;symm;simp;intro c;have:=h v c;simp at this
 | some i=>
  rw[List.findIdx?_eq_some_iff_getElem] at h;obtain⟨a,f,_⟩:=h;symm;simp;have:l[i]=v:=by simpa using f
  rw[<-this];exact List.getElem_mem a
def Nz(c:k<l.length)(f:∀x∈l.take k,x≠v)(h:v≠l.getD k default):∀x∈l.take (k+1),x≠v:=by
 rw[<-c3 c];intro x a;rcases List.mem_append.1 a with a | a
 ·exact f x a
 ·simp at a;rw[a];intro e;apply h;simp[e]
theorem CW(i):∀(l a:al) (k:Nat),k<l.length->jy i a (l.take (k+1))=(jy i a (l.take k) && !(decide (l.getD k default<3) || decide (l.getD k default>=3+i) || (a++l.take k).contains (l.getD k default)))
 | [],a,k,h=>by simp at h
 | x::r,a,0,h=>by simp[jy]
 | x::r,a,k+1,h=>by
  have:=CW i r (a++[x]) k gU;simp only[List.take_succ_cons,jy,List.getD_cons_succ];rw[this,List.append_assoc,List.singleton_append,Bool.and_assoc]
theorem NA(i):∀(l a:al) (k:Nat),jy i a l=true->jy i a (l.take k)=true
 | [],a,k,h=>by simpa using h
 | x::r,a,0,h=>rfl
 | x::r,a,k+1,h=>by
  simp[List.take_succ_cons,jy,Bool.and_eq_true] at h ⊢;exact⟨h.1,NA i r _ k h.2⟩
theorem CX:∀(g:List al) (i k:Nat),k<g.length->kk i (g.take (k+1))=(kk i (g.take k) && (decide ((g.getD k default).length<=3) && jy (i+k) [] (g.getD k default)))
 | [],i,k,h=>by simp at h
 | l::r,i,0,h=>by simp[kk]
 | l::r,i,k+1,h=>by
  have:=CX r (i+1) k gU;simp only[List.take_succ_cons,kk,List.getD_cons_succ];rw[this,show i+1+k=i+(k+1) by omega];simp[Bool.and_assoc]
theorem NB:∀(g:List al) (i k:Nat),kk i g=true->kk i (g.take k)=true
 | [],i,k,h=>by simpa using h
 | l::r,i,0,h=>rfl
 | l::r,i,k+1,h=>by
  simp[List.take_succ_cons,kk,Bool.and_eq_true] at h ⊢;exact⟨h.1,NB r _ k h.2⟩
def zK{f:List α->Bool}{l}(k)(a:∀k,f l=true->f (l.take k)=true)(h:f (l.take k)=false):f l=false:=by
 cases b7:f l with
 | false=>rfl
 | true=>rw[a k b7] at h;cases h
def si(l:al):(l.map λn=>[.i n]).all dG=true:=by
 rw[List.all_eq_true];intro x c;obtain⟨a,_,rfl⟩:=List.mem_map.1 c;rfl
def X8(l:List al):(l.map λx=>[.ints x]).all dG=true:=by
 rw[List.all_eq_true];intro x c;obtain⟨a,_,rfl⟩:=List.mem_map.1 c;rfl
def ha(f:Fact):Int:=if f.op=2\/f.op=3\/f.op=4 then f.arg+1 else 0
mutual
def nB:Fact->Bool
 | .mk op arg path cls n kids=>decide (-1000000<=ha (.mk op arg path cls n kids)) && decide (ha (.mk op arg path cls n kids)<=1000000) && u4 kids
def u4:List Fact->Bool
 | []=>true
 | k::r=>nB k && u4 r
end
def NC{cs:List ih}(h:i<cs.length):ab.bp ((cs.take (i+1)).map (·.parents))= .aj 1 ((((cs.take i).map (·.parents)).map λx=>[ab.ints x])++[[ab.ints (cs.getD i default).parents]]):=by
 rw[<-c3 h,List.map_append];show ab.aj 1 (List.map _ (_++_))=_;rw[List.map_append];rfl
def ND{cs}(h:i<cs.length):mO cs (i+1) 0=mO cs i (cs.getD i default).aw.length:=by
 rw[mO, <-c3 h,Nv,mO,List.length_take,Nat.min_eq_left aa,Nat.zero_add];simp
def xh(h:i<l.length)(a:p (l.getD i default)=true):ab.ints ((l.take (i+1)).filter p)= .aj 1 ((((l.take i).filter p).map λn=>[.i n])++[[.i (l.getD i default)]]):=by
 rw[<-c3 h,List.filter_append];show ab.aj 1 (List.map _ (_++List.filter p [_]))=_;rw[List.map_append,List.filter_cons,if_pos a];rfl
def xi(h:i<l.length)(a:p (l.getD i default)=false):ab.ints ((l.take (i+1)).filter p)=ab.ints ((l.take i).filter p):=by
 rw[<-c3 h,List.filter_append,List.filter_cons,if_neg (by rw[a];simp),List.filter_nil,List.append_nil]
def bH[Inhabited α]{l:List α}{k}(h:k<l.length):l.getD k default∈l:=by
 rw[List.getD_eq_getElem?_getD,List.getElem?_eq_getElem h];simp
def u5[Inhabited α]{l:List α}{i}(h:i<l.length):l.drop i=l.getD i default::l.drop (i+1):=by
 rw[List.drop_eq_getElem_cons h,List.getD_eq_getElem?_getD,List.getElem?_eq_getElem h];rfl
def zL[Inhabited α]{l:List α}{i}{p}(h:i<l.length):(l.take (i+1)).all p=((l.take i).all p && p (l.getD i default)):=by
 rw[<-c3 h,List.all_append];simp
def NF[Inhabited α]{l:List α}{i}{p}(h:i<l.length):(l.take (i+1)).any p=((l.take i).any p || p (l.getD i default)):=by
 rw[<-c3 h,List.any_append];simp
def NG(h:L= []):jc A (L::r)=jc A r:=by subst h;rfl
def NH(c:0<L.length)(h:u2 A (L.getD 0 default)=false):jc A (L::r)=jc A r:=by
 cases L with
 | nil=>simp at c
 | cons x t=>rw[jc,if_neg (by rw[show x=(x::t).getD 0 default from rfl,h];simp)]
def NI(c:0<L.length)(h:u2 A (L.getD 0 default)):jc A (L::r)=some (L.getD 0 default):=by
 cases L with
 | nil=>simp at c
 | cons x t=>rw[jc,if_pos (by rw[show x=(x::t).getD 0 default from rfl,h])];rfl
def tD(l)(r):total (l::r)=l.length+total r:=by simp[total]
theorem CY(h):∀A:List al,total (iK h A)<=total A
 | []=>by simp[iK,total]
 | l::r=>by
  have c:=CY h r;have a:=List.length_filter_le (· !=h) l;show total (l.filter (· !=h)::iK h r)<=_;rw[tD,tD];omega
theorem GV(h):∀(A:List al) (i:Nat),i<A.length->h∈A.getD i default->total (iK h A)<total A
 | [],i,aN,_=>by simp at aN
 | l::r,0,_,c=>by
  have g:=CY h r;have f:(l.filter (· !=h)).length<l.length:=by
   rcases Nat.lt_or_ge (l.filter (· !=h)).length l.length with a | a
   ·exact a
   ·have e:l.filter (· !=h)=l:=List.Sublist.eq_of_length_le (List.filter_sublist) a;rw[List.filter_eq_self] at e;have:=e h (by simpa using c);simp at this
  show total (l.filter (· !=h)::iK h r)<_;rw[tD,tD];omega
 | l::r,i+1,aN,c=>by
  have g:=GV h r i ng (by simpa using c);have f:=List.length_filter_le (· !=h) l;show total (l.filter (· !=h)::iK h r)<_;rw[tD,tD];omega
theorem CZ:∀(A:List al) (i:Nat),i<A.length->(A.getD i default).length<=total A
 | [],i,aN=>by simp at aN
 | l::r,0,_=>by rw[tD];simp
 | l::r,i+1,aN=>by
  have a:=CZ r i ng;rw[tD,List.getD_cons_succ];omega
def EU(h)(A):(iK h A).length=A.length:=by simp[iK]
def NJ(h)(a:k<A.length):ab.bp (iK h (A.take (k+1)))= .aj 1 (((iK h (A.take k)).map λx=>[.ints x])++[[.ints ((A.getD k default).filter (· !=h))]]):=by
 rw[<-c3 a,iK,List.map_append];show ab.aj 1 (List.map _ (_++_))=_;rw[List.map_append];rfl
def GW(l)(x):ab.ints (l++[x])= .aj 1 ((l.map λn=>[.i n])++[[.i x]]):=by
 show ab.aj 1 (List.map _ (_++_))=_;rw[List.map_append];rfl
def GX{n}(hn:jc A A=some h):pX (n+1) A out=pX n (iK h A) (out++[h]):=by rw[pX,hn]
def GY{n}(hn:jc A A=none):pX (n+1) A out=(out,A.all List.isEmpty):=by rw[pX,hn]
def C1:u2 A h= !(A.any λm=>m.tail.contains h):=rfl
def NK(h:0<L.length):L.isEmpty=false:=by cases L with | nil=>simp at h | cons=>rfl
def NL[Inhabited α]{l:List α}{j}{p}(h:j<l.length)(c:p (l.getD j default)=true):l.any p=true:=List.any_eq_true.2 ⟨_,bH h,c⟩
def NM(a:(bif decide ((0:Int)<(M.length:Int)) then (M.drop 1).contains h else false)=true):M.tail.contains h=true:=by
 rw[<-List.drop_one];cases a6:decide ((0:Int)<(M.length:Int)) with
 | true=>rw[a6] at a;exact a
 | false=>rw[a6] at a;cases a
def NN(a:(bif decide ((0:Int)<(M.length:Int)) then (M.drop 1).contains h else false)=false):M.tail.contains h=false:=by
 rw[<-List.drop_one];cases c:decide ((0:Int)<(M.length:Int)) with
 | true=>rw[c] at a;exact a
 | false=>cases M with | nil=>rfl | cons=>simp at c
def NO(h: ¬g.length<=16):fZ g=false:=by simp[fZ,h]
def zM(a:i<g.length)(h:(decide ((g.getD i default).length<=3) && jy i [] (g.getD i default))=false):fZ g=false:=by
 have e:kk 0 (g.take (i+1))=false:=by rw[CX g 0 i a,Nat.zero_add,h,Bool.and_false]
 unfold fZ;rw[zK (i+1) (λk=>NB g 0 k) e,Bool.and_false]
def NP(a:k<l.length)(h:(decide (l.getD k default<3) || decide (l.getD k default>=3+i) || (l.take k).contains (l.getD k default))):jy i [] l=false:=by
 have e:jy i [] (l.take (k+1))=false:=by rw[CW i l [] k a,List.nil_append,h];simp
 exact zK (k+1) (λk=>NA i l [] k) e
def iw(op:Int):Option (Option Nat):=
 if op=5 then some none
 else if op=1\/op=2\/op=3\/op=6\/op=18 then some (some 0)
 else if op=4\/op=8\/op=17 then some (some 1)
 else if op=7\/op=9\/op=11\/op=12\/op=13\/op=14\/op=15\/op=16 then some (some 2)
 else if op=10 then some (some 3) else none
def om(n:Int):Bool:=decide (-1000000000<=n) && decide (n<=1000000000)
def qw(p:Prog)(op size:Int):Int:=if op=3 then size else if op=4\/op=7 then p.aw else if op=5 then p.c2.length else 1
def fW(p:Prog)(x:gR)(size:Int):Bool:=
 if x.op=1 then om x.n else if x.op=6\/x.op=8 then decide (3<=x.n) && decide (x.n<3+p.aF.length) else decide (0<=x.n) && decide (x.n<qw p x.op size)
mutual
def nC:Fact->Int
 | .mk op arg path cls n kids=>nD kids (ha (.mk op arg path cls n kids))
def nD:List Fact->Int->Int
 | [],n=>n
 | k::r,n=>nD r (max n (nC k))
end
def C2(f):nC f=nD f.kids (ha f):=by cases f;rfl
theorem GZ(x):∀(l:List Fact) (n:Int),nD (l++[x]) n=max (nD l n) (nC x)
 | [],n=>rfl
 | k::r,n=>by rw[List.cons_append,nD,nD,GZ x r]
def C3{f}(h:nB f): -1000000<=ha f/\ha f<=1000000/\∀k∈f.kids,nB k=true:=by
 have mem:∀(l:List Fact),u4 l=true->∀k∈l,nB k=true:=by
  intro l
  induction l with
  | nil=>intro _ k a;cases a
  | cons x r c=>
   intro h k a;rw[u4,Bool.and_eq_true] at h;rcases List.mem_cons.1 a with e | a
   ·rw[e];exact h.1
   ·exact c h.2 k a
 cases f;simp[nB,Bool.and_eq_true,decide_eq_true_eq] at h;exact⟨h.1.1,h.1.2,mem _ h.2⟩
end Go.Eng.dO

namespace Go.Eng.dO
open Go.Eng.Fc
variable{l:List (Int×ab)}{c:Go.Eng.Ctx}{O all g:List al}{b5 S out o C fx o':al}{k i:Nat}{α:Type}{H H':aC}{next h4:Bool}{env:List (Nat×ab)}{Q:Exit->Act->World->Prop}
theorem G0{A}:∀{B:List al} {h:Int},jc A B=some h->∃l∈B,h∈l
 | [],h,e=>by simp[jc] at e
 | []::r,h,e=>by
  rw[jc] at e;obtain⟨l,a,c⟩:=G0 e;exact⟨l,.tail _ a,c⟩
 | (x::t)::r,h,e=>by
  rw[jc] at e;split at e
  ·cases e;exact⟨_,.head _,.head _⟩
  ·obtain⟨l,a,c⟩:=G0 e;exact⟨l,.tail _ a,c⟩
def G1{h x}{A}{l}(f:l∈iK h A)(c:x∈l):x≠h/\∃a∈A,x∈a:=by
 simp[iK,List.mem_map] at f;obtain⟨a,g,rfl⟩:=f;rw[List.mem_filter] at c;exact⟨by simpa using c.2,a,g,c.1⟩
theorem NQ:∀(n:Nat) (A:List al) (f:al),f.Nodup->(∀x∈f,∀l∈A,x∉l)->(pX n A f).1.Nodup/\∀x∈(pX n A f).1,x∈f\/∃l∈A,x∈l
 | 0,A,f,r,w=>⟨r,λx c=>.inl c⟩
 | n+1,A,f,r,w=>by
  cases t:jc A A with
  | none=>rw[GY t];exact⟨r,λx c=>.inl c⟩
  | some h=>
   rw[GX t];obtain⟨z,o,q⟩:=G0 t;obtain⟨aB,C⟩:=NQ n (iK h A) (f++[h]) (List.nodup_append.2 ⟨r,aT,λa D b B e=>by simp at B;subst B;subst e;exact w a D z o q⟩) (λx c l s j=>by
    obtain⟨E,v,g,m⟩:=G1 s j;rcases List.mem_append.1 c with c | c
    ·exact w x c v g m
    ·simp at c;exact E c)
   refine⟨aB,λx c=>?_⟩;rcases C x c with c | ⟨l,s,j⟩
   ·rcases List.mem_append.1 c with c | c
    ·exact .inl c
    ·simp at c;subst c;exact .inr ⟨z,o,q⟩
   ·obtain⟨_,v,g,m⟩:=G1 s j;exact .inr ⟨v,g,m⟩
structure C4(c:Nat)(x:al):Prop where
 nodup:x.Nodup
 zN:∀y∈x,0<=y/\y<=c
def C4.len{c}{x}(h:C4 c x):x.length<=c+1:=by
 have:=List.Nodup.length_le_of_subset (l₂:=(List.range (c+1)).map Int.ofNat) h.nodup (λy a=>by
  obtain⟨g,f⟩:=h.zN y a;exact List.mem_map.2 ⟨y.toNat,cF,cF⟩)
 simpa using this
def zO(c:Nat)(b5:al):Prop:=b5.length<=3/\∀p∈b5,3<=p/\p<c
def oo(O:List al):Prop:=∀k,k<O.length->C4 k (O.getD k [])
def oo.len{O}(h:oo O)(k):(O.getD k []).length<=O.length+1:=by
 by_cases a:k<O.length
 ·have:=(h k a).len;omega
 ·rw[List.getD_eq_getElem?_getD,List.getElem?_eq_none aa];simp
def G2(h:kP O b5=some all):all=b5.map (λp=>lN (O.getD p.toNat []))++[b5]/\∀p∈b5,O.getD p.toNat []≠ []:=by
 unfold kP at h;split at h
 ·cases h
 ·rename_i a;refine⟨(Option.some.inj h).symm,λp c e=>a (List.any_eq_true.2 ⟨p,c,by rw[e];rfl⟩)⟩
def u6{l:du}{m}(h:∀x∈l,x<=m):l.sum<=l.length*m:=by
 induction l with
 | nil=>simp
 | cons x r a=>
  have g:=h x dB;have f:=a λy c=>h y (.tail _ c);rw[List.sum_cons,List.length_cons,Nat.add_mul,Nat.one_mul];omega
def X9(l):(lN l).length<=l.length:=List.length_filter_le _ _
def NR(c:oo O)(a:b5.length<=3)(h:kP O b5=some all):total all<=3*(O.length+1)+3/\all.length<=4:=by
 obtain⟨rfl,_⟩:=G2 h;constructor
 ·simp only[total,List.map_append,List.map_map,List.map_cons,List.map_nil,List.sum_append,List.sum_cons,List.sum_nil];have g:=u6 (l:=b5.map (List.length∘λp=>lN (O.getD p.toNat []))) (m:=O.length+1) (λx f=>by
   obtain⟨p,j,rfl⟩:=List.mem_map.1 f;exact Nat.le_trans (X9 _) (c.len _))
  rw[List.length_map] at g;have o:b5.length*(O.length+1)<=3*(O.length+1):=Nat.mul_le_mul_right _ a;omega
 ·rw[List.length_append,List.length_map,List.length_singleton];omega
def G3(s:oo O)(c:zO O.length b5):C4 O.length (jd O O.length b5):=by
 unfold jd;split
 ·rename_i z;exact⟨aT,aT⟩
 rename_i z;cases f:kP O b5 with
 | none=>exact⟨aT,aT⟩
 | some t=>
  simp only;split
  ·obtain⟨rfl,q⟩:=G2 f;have j:∀l∈b5.map (λp=>lN (O.getD p.toNat []))++[b5],∀x∈l,0<x/\x<O.length:=by
    intro l f x a;rcases List.mem_append.1 f with h | h
    ·obtain⟨p,B,rfl⟩:=List.mem_map.1 h;simp[lN,List.mem_filter,bne_iff_ne,ne_eq] at a;have A:=c.2 p B;have:=(s p.toNat aa).zN x a.1;omega
    ·simp at h;subst h;have:=c.2 x a;omega
   obtain⟨r,w⟩:=NQ (total (b5.map (λp=>lN (O.getD p.toNat []))++[b5])+1) (b5.map (λp=>lN (O.getD p.toNat []))++[b5]) [] aT aT;have m:∀x∈(lM (b5.map (λp=>lN (O.getD p.toNat []))++[b5])).1,0<x/\x<O.length:=λx a=>by
    rcases w x a with h | ⟨l,f,a⟩
    ·simp at h
    ·exact j l f x a
   refine⟨List.nodup_cons.2 ⟨λh=>?_,List.nodup_append.2 ⟨r,aT,λa v b o e=>?_⟩⟩,λy g=>?_⟩
   ·rcases List.mem_append.1 h with h | h
    ·have:=m _ h;omega
    ·simp only[List.mem_singleton] at h;omega
   ·simp at o;subst o;subst e;have:=m _ v;omega
   ·rcases List.mem_cons.1 g with rfl | g
    ·omega
    ·rcases List.mem_append.1 g with h | h
     ·have:=m _ h;omega
     ·simp at h;omega
  ·exact⟨aT,aT⟩
def oo.snoc(c:oo O)(a:zO O.length b5):oo (O++[jd O O.length b5]):=by
 intro k f;rw[List.length_append,List.length_singleton] at f;by_cases h:k<O.length
 ·have e:(O++[jd O O.length b5]).getD k []=O.getD k []:=by rw[List.getD_eq_getElem?_getD,List.getElem?_append_left h, <-List.getD_eq_getElem?_getD]
  rw[e];exact c k h
 ·obtain rfl:k=O.length:=by omega
  rw[List.getD_eq_getElem?_getD,List.getElem?_append_right aa,Nat.sub_self];exact G3 c a
theorem NS(i):∀(l a:al),jy i a l=true->∀x∈l,3<=x/\x<3+i
 | [],_,_,x,c=>by cases c
 | y::r,a,h,x,c=>by
  simp only[jy,Bool.and_eq_true,Bool.not_eq_true',Bool.or_eq_false_iff,decide_eq_false_iff_not] at h;rcases List.mem_cons.1 c with rfl | c
  ·omega
  ·exact NS i r _ h.2 x c
theorem C5:∀(g:List al) (i k:Nat),kk i g=true->k<g.length->zO (3+(i+k)) (g.getD k default)
 | [],i,k,_,a=>by simp at a
 | l::r,i,k,h,a=>by
  simp[kk,Bool.and_eq_true,decide_eq_true_eq] at h;cases k with
  | zero=>exact⟨h.1.1,λp c=>by have:=NS i l [] h.1.2 p c;omega⟩
  | succ k=>
   have:=C5 r (i+1) k h.2 (by simpa using a);rw[show 3+(i+(k+1))=3+(i+1+k) by omega,List.getD_cons_succ];exact this
def pD(g):(e7 g).length=3+g.length:=by simp[e7];omega
def xj(h:fZ g)(k):zO k ((e7 g).getD k default):=by
 simp[fZ,Bool.and_eq_true,decide_eq_true_eq] at h
 match k with
 | 0=>exact⟨by simp[e7],by simp[e7]⟩
 | 1=>exact⟨by simp[e7],by simp[e7]⟩
 | 2=>exact⟨by simp[e7],by simp[e7]⟩
 | k+3=>
  have e:(e7 g).getD (k+3) default=g.getD k default:=rfl;rw[e];by_cases a:k<g.length
  ·have:=C5 g 0 k h.2 a;rwa [Nat.zero_add,Nat.add_comm] at this
  ·rw[List.getD_eq_getElem?_getD,List.getElem?_eq_none aa];exact⟨Nat.zero_le _,by intro p c;cases c⟩
def u7(h:fZ g):g.length<=16:=by
 simp[fZ,Bool.and_eq_true,decide_eq_true_eq] at h;exact h.1
theorem NT(x):∀(l:List al) (c:Nat) (a:List al),oj (l++[x]) c a=oj l c a++[jd (oj l c a) (c+l.length) x]
 | [],c,a=>by simp[oj]
 | y::r,c,a=>by
  rw[List.cons_append,oj,oj,NT x r (c+1),List.length_cons];rw[show c+1+r.length=c+(r.length+1) by omega]
theorem NU:∀(l:List al) (c:Nat) (a:List al),(oj l c a).length=a.length+l.length
 | [],c,a=>by simp[oj]
 | y::r,c,a=>by rw[oj,NU r,List.length_append,List.length_cons,List.length_cons,List.length_nil];omega
def lg(g:List al)(k:Nat):List al:=oj ((e7 g).take k) 0 []
def tE(h:k<=3+g.length):(lg g k).length=k:=by
 rw[lg,NU,List.length_take,pD,List.length_nil];omega
def NV(h:k<3+g.length):lg g (k+1)=lg g k++[jd (lg g k) (lg g k).length ((e7 g).getD k default)]:=by
 rw[lg, <-c3 (by rw[pD];exact h),NT, <-lg,tE aa,List.length_take,pD,show 0+min k (3+g.length)=k by omega]
def zP(g):lg g (3+g.length)=tC g:=by rw[lg, <-pD,List.take_length];rfl
theorem zQ{g}(h:fZ g):∀k,k<=3+g.length->oo (lg g k)
 | 0,_=>λk a=>by simp[lg,oj] at a
 | k+1,a=>by
  rw[NV aa];exact (zQ h k aa).snoc (by rw[tE aa];exact xj h k)
structure mP(l:List (Int×ab))(O:List al):Prop where
 ok:lI l
 get:∀k:Nat,hA l (k:Int)=if(O.getD k []).isEmpty then none else some (ab.ints (O.getD k []))
def mP.nil:mP [] []:=⟨.nil,λk=>by simp[hA]⟩
def NW{x}(k):(O++[x]).getD k []=if k=O.length then x else O.getD k []:=by
 by_cases h:k<O.length
 ·rw[if_neg aa,List.getD_eq_getElem?_getD,List.getElem?_append_left h, <-List.getD_eq_getElem?_getD]
 ·by_cases a:k=O.length
  ·rw[if_pos a,List.getD_eq_getElem?_getD,List.getElem?_append_right aa,a,Nat.sub_self];rfl
  ·rw[if_neg a,List.getD_eq_getElem?_getD,List.getElem?_eq_none By,List.getD_eq_getElem?_getD,List.getElem?_eq_none aa]
def mP.skip(h:mP l O):mP l (O++[[]]):=by
 refine⟨h.ok,λk=>?_⟩;rw[h.get,NW];by_cases a:k=O.length
 ·rw[if_pos a,a,List.getD_eq_getElem?_getD,List.getElem?_eq_none aa];rfl
 ·rw[if_neg a]
def mP.put{l}{O}(h:mP l O){x}(f:x≠ [])(g:O.length<=1000000):mP (eQ l (O.length:Int) (.ints x)) (O++[x]):=by
 refine⟨h.ok.put ey _,λk=>?_⟩;rw[zt,NW];by_cases c:k=O.length
 ·rw[if_pos (by rw[c]),if_pos c];cases x with
  | nil=>exact absurd rfl f
  | cons a r=>rfl
 ·rw[if_neg aa,if_neg c,h.get]
def mP.look(h:mP l O)(k)(c:0<=k):aq ((hA l k).getD (.val aX)) (.ints (O.getD k.toNat [])):=by
 have:=h.get k.toNat;rw[show ((k.toNat:Nat):Int)=k by omega] at this;rw[this];split
 ·rename_i a;rw[List.isEmpty_iff.1 a];exact .nil 1
 ·exact .refl _
def NX{p}(a:p∈b5)(h:O.getD p.toNat []= []):kP O b5=none:=by
 unfold kP;rw[if_pos (List.any_eq_true.2 ⟨p,a,by rw[h];rfl⟩)]
def NY(h:∀p∈b5,O.getD p.toNat []≠ []):kP O b5=some (b5.map (λp=>lN (O.getD p.toNat []))++[b5]):=by
 unfold kP;rw[if_neg];intro c;obtain⟨p,f,a⟩:=List.any_eq_true.1 c;exact h p f (List.isEmpty_iff.1 a)
def NZ(h:k<3+g.length):lg g (k+1)=lg g k++[jd (lg g k) k ((e7 g).getD k default)]:=by
 rw[NV h,tE aa]
abbrev ab.u9(l:du):ab:=.aj 1 (l.map λs=>[ab.set s])
abbrev C6:List bl:=[[.val aX],[.val aX],[.val aX]]
abbrev tF(g:List al):List bl:=g.map λx=>[ab.ints x]
def N0(g):(tF g).flatten.length=g.length:=by
 rw[pK (k:=1) (λx a=>by obtain⟨y,_,rfl⟩:=List.mem_map.1 a;rfl),List.length_map,Nat.mul_one]
def Ya(g)(z)(a:z= .val aX):(List.replicate (3+g.length) z).take (0+3*1)++(tF g).flatten++(List.replicate (3+g.length) z).drop (0+3*1+(tF g).flatten.length)=(C6++tF g).flatten++[]:=by
 subst a;rw[N0,List.take_replicate,List.drop_replicate,show min (0+3*1) (3+g.length)=3 by omega,show 3+g.length - (0+3*1+g.length)=0 by omega];simp[C6]
def Yb(g):aq (.aj 1 (C6++tF g)) (.bp (e7 g)):=by
 have e:ab.bp (e7 g)= .aj 1 ([[.ints []],[.ints []],[.ints []]]++tF g):=rfl;rw[e];exact .aj (.cons tA (.cons tA (.cons tA (n0.refl _))))
def Yc(l)(s):ab.aj 1 ((l.map λs=>[ab.set s])++[[ab.set s]])=ab.u9 (l++[s]):=by
 show _=ab.aj 1 (List.map _ (_++_));rw[List.map_append];rfl
def N1{l:du}(h:∀x∈l,x<18446744073709551616)(k):l.getD k default<18446744073709551616:=by
 rw[List.getD_eq_getElem?_getD];by_cases a:k<l.length
 ·rw[List.getElem?_eq_getElem a];exact h _ (List.getElem_mem a)
 ·rw[List.getElem?_eq_none aa];show (0:Nat)<_;omega
def N2(c)(m):ab.ints (c::(m++[0]))= .aj 1 ([[.i c]]++m.map (λn=>[.i n])++[[.i 0]]):=by
 show ab.aj 1 (List.map _ (c::(m++[0])))=_;rw[List.map_cons,List.map_append];rfl
def Yd(h:O.length=0):jd O O.length b5= [0]:=by rw[jd,if_pos h]
def N3(h:O.length≠0)(a:kP O b5=none):jd O O.length b5= []:=by rw[jd,if_neg h,a]
def C7(h:O.length≠0)(a:kP O b5=some all)(hm:(lM all).2):jd O O.length b5=(O.length:Int)::((lM all).1++[0]):=by
 rw[jd,if_neg h,a];simp only[hm,if_true]
def N4(h:O.length≠0)(a:kP O b5=some all)(hm:(lM all).2=false):jd O O.length b5= []:=by
 rw[jd,if_neg h,a];simp[hm]
def N5{a b:α}{H:List α}:∀e∈ [a,b],e∈a::b::H:=λe c=>by simp at c ⊢;rcases c with h | h <;> simp[h]
def N6{c:Type}(f:c->al)(l:List c)[Inhabited c]{k:Nat}(g:k<l.length):ab.bp ((l.take (k+1)).map f)= .aj 1 (((l.take k).map f).map (λx=>[ab.ints x])++[[ab.ints (f (l.getD k default))]]):=by
 rw[<-c3 g,List.map_append];show ab.aj 1 (List.map _ (_++_))=_;rw[List.map_append];rfl
abbrev fj(l:al):List bl:=l.map λn=>[ab.i n]
abbrev hD(v:Value)(l:al):br:=.row 3 1 v (fj l).length (fj l).flatten
def xk(l):(fj l).length=l.length:=by simp
def N7(v)(l m): .row 3 1 v ((fj l).length+(fj m).length) ((fj l).flatten++(fj m).flatten)=hD v (l++m):=by
 simp[hD]
def hV(l:al):al:=l.mergeSort λx y=>decide (x<=y)
structure oq(l:List (Int×ab))(S:al):Prop where
 ok:lI l
 get:∀k:Int,hA l k=if k∈S then some (.b true) else none
def oq.nil:oq [] []:=⟨.nil,λk=>by simp[hA]⟩
def oq.put{l}{S}(h:oq l S){k}(c:fX k):oq (eQ l k (.b true)) (S++[k]):=by
 refine⟨h.ok.put c _,λgW=>?_⟩;rw[zt,h.get];by_cases a:gW=k
 ·subst a;simp
 ·rw[if_neg a];simp[a]
def oq.look(h:oq l S)(k):aq ((hA l k).getD (.val (.bool false))) (.b (S.contains k)):=by
 rw[h.get];by_cases a:k∈S
 ·rw[if_pos a,List.contains_iff_mem.2 a];exact .refl _
 ·rw[if_neg a,show S.contains k=false from by simpa using a];exact .refl _
def jT(p:Prog):Nat->al->al->al
 | 0,_,out=>out
 | n+1,S,out=>if S.contains ((n:Int)+3) then jT p n (S++(p.aF.getD n default).parents) (out++(p.aF.getD n default).aw) else jT p n S out
def cw(p:Prog)(N8:Int):al:=hV (jT p (N8 - 2).toNat [N8] [])
def Ye{p}{n:Nat}{c:Int}(a:c=n+3)(h:S.contains c=true):jT p (c - 2).toNat S out=jT p (c - 1 - 2).toNat (S++(p.aF.getD (c - 3).toNat default).parents) (out++(p.aF.getD (c - 3).toNat default).aw):=by
 subst a;rw[show ((n:Int)+3 - 2).toNat=n+1 by omega,show ((n:Int)+3 - 1 - 2).toNat=n by omega,show ((n:Int)+3 - 3).toNat=n by omega,jT,if_pos h]
def Yf{p}{n:Nat}{c:Int}(a:c=n+3)(h:S.contains c=false):jT p (c - 2).toNat S out=jT p (c - 1 - 2).toNat S out:=by
 subst a;rw[show ((n:Int)+3 - 2).toNat=n+1 by omega,show ((n:Int)+3 - 1 - 2).toNat=n by omega,jT,if_neg wz]
section
variable{P:Program}{H:aC}{ρ:Nat->Option ab}{o:Oper}
def ad.Yg{t}{x m}{b}{ke}{k}{g1 j}[w:q2 P t ke][v:uV P ke.2 (.bool false)](h:o.op= .lookup t x m false)
  (r:aO ρ x=some (g1,.val (.map (some b)))) (f:g1=true) (s:aO ρ m=some (j,.i k)) (c:j=true) (hm:dV b l∈H) (q:oq l S) (g:fX k):ad P H ρ o (.b (S.contains k)):=by
 have a:=ad.tw (P:=P) (H:=H) (ke:=ke) (zv:=.bool false) h r f s c hm q.ok g;have e:(hA l k).getD (.val (.bool false))= .b (S.contains k):=by
  rw[q.get];by_cases a:k∈S
  ·rw[if_pos a,List.contains_iff_mem.2 a];rfl
  ·rw[if_neg a,show S.contains k=false from by simpa using a];rfl
 rwa [e] at a
end
def pY(b):b=false\/b=true:=by cases b <;> simp
def iL:al->Nat->Bool
 | [],_=>true
 | s::r,n=>(s==(n:Int)) && iL r (n+1)
def jz:List ih->Nat->Bool
 | [],_=>true
 | c::r,n=>decide (c.aw.length<=4) && iL c.aw n && jz r (n+c.aw.length)
def ek(cs:List ih):Nat:=(cs.map (·.aw.length)).sum
def kQ(N9:al):List (Int×Int)->al->Bool
 | [],_=>true
 | x::r,seen=>(N9.contains x.1 && !seen.contains x.1 && om x.2) && kQ N9 r (seen++[x.1])
def nE(p:Prog)(i:Nat):Bool:=!(dH (ca p) ((i:Int)+3)).isEmpty && kQ (cw p ((i:Int)+3)) (p.aF.getD i default).inits []
def fO(p:Prog):Bool:=decide (p.aF.length<=10) && jz p.aF 0 && (((ek p.aF:Int)==p.aw) && fZ (ca p)) && (List.range p.aF.length).all (nE p)
theorem C8:∀(l:al) (n k:Nat),k<l.length->iL (l.take (k+1)) n=(iL (l.take k) n && (l.getD k default==((n+k:Nat):Int)))
 | [],n,k,h=>by simp at h
 | x::r,n,0,h=>by simp[iL]
 | x::r,n,k+1,h=>by
  have:=C8 r (n+1) k gU;simp only[List.take_succ_cons,iL,List.getD_cons_succ];rw[this,Bool.and_assoc,show n+1+k=n+(k+1) by omega]
theorem Oa:∀(l:al) (n k:Nat),iL l n=true->iL (l.take k) n=true
 | [],n,k,h=>by simp[iL]
 | x::r,n,0,h=>rfl
 | x::r,n,k+1,h=>by
  simp[List.take_succ_cons,iL,Bool.and_eq_true] at h ⊢;exact⟨h.1,Oa r _ k h.2⟩
theorem Ob:∀(l:al) (n:Nat),iL l n=true->∀x∈l,(n:Int)<=x/\x<n+l.length
 | [],n,_,x,a=>by cases a
 | y::r,n,h,x,a=>by
  simp[iL,Bool.and_eq_true,beq_iff_eq] at h;rw[List.length_cons];rcases List.mem_cons.1 a with rfl | a
  ·omega
  ·have:=Ob r (n+1) h.2 x a;omega
theorem zR:∀(l:List ih) (n k:Nat),k<l.length->jz (l.take (k+1)) n=(jz (l.take k) n && (decide ((l.getD k default).aw.length<=4) && iL (l.getD k default).aw (n+ek (l.take k))))
 | [],n,k,h=>by simp at h
 | x::r,n,0,h=>by simp[jz,ek]
 | x::r,n,k+1,h=>by
  have:=zR r (n+x.aw.length) k gU;simp only[List.take_succ_cons,jz,List.getD_cons_succ];rw[this,Bool.and_assoc,Bool.and_assoc,Bool.and_assoc,show n+ek (x::r.take k)=n+x.aw.length+ek (r.take k) by simp[ek];omega]
theorem G4:∀(l:List ih) (n k:Nat),jz l n=true->jz (l.take k) n=true
 | [],n,k,h=>by simp[jz]
 | x::r,n,0,h=>rfl
 | x::r,n,k+1,h=>by
  simp[List.take_succ_cons,jz,Bool.and_eq_true] at h ⊢;exact⟨h.1,G4 r _ k h.2⟩
def G5{l:List ih}(h:k<l.length):ek (l.take (k+1))=ek (l.take k)+(l.getD k default).aw.length:=by
 rw[<-c3 h];simp[ek]
theorem va:∀(l:List ih) (n:Nat),jz l n=true->∀c∈l,c.aw.length<=4/\∀x∈c.aw,0<=x/\x<n+4*l.length
 | [],n,_,c,a=>by cases a
 | y::r,n,h,c,a=>by
  simp[jz,Bool.and_eq_true,decide_eq_true_eq] at h;rw[List.length_cons];rcases List.mem_cons.1 a with rfl | a
  ·exact⟨h.1.1,λx f=>by have:=Ob _ _ h.1.2 x f;omega⟩
  ·have:=va r _ h.2 c a;exact⟨this.1,λx f=>by have:=this.2 x f;omega⟩
theorem zS:∀(l:List ih) (n:Nat),jz l n=true->ek l<=4*l.length
 | [],n,_=>by simp[ek]
 | y::r,n,h=>by
  simp[jz,Bool.and_eq_true,decide_eq_true_eq] at h;have:=zS r _ h.2;have e:ek (y::r)=y.aw.length+ek r:=by simp[ek]
  rw[e,List.length_cons];omega
theorem C9(c):∀(l:List (Int×Int)) (seen:al) (k:Nat),k<l.length->kQ c (l.take (k+1)) seen=(kQ c (l.take k) seen && (c.contains (l.getD k default).1 && !(seen++(l.take k).map (·.1)).contains (l.getD k default).1 && om (l.getD k default).2))
 | [],seen,k,h=>by simp at h
 | x::r,seen,0,h=>by simp[kQ]
 | x::r,seen,k+1,h=>by
  have:=C9 c r (seen++[x.1]) k gU;simp only[List.take_succ_cons,kQ,List.getD_cons_succ];rw[this,Bool.and_assoc (c.contains x.1 && !seen.contains x.1 && om x.2),List.map_cons,List.append_assoc,List.singleton_append]
theorem Oc(c):∀(l:List (Int×Int)) (a:al) (k:Nat),kQ c l a=true->kQ c (l.take k) a=true
 | [],a,k,h=>by simp[kQ]
 | x::r,a,0,h=>rfl
 | x::r,a,k+1,h=>by
  simp[List.take_succ_cons,kQ,Bool.and_eq_true] at h ⊢;exact⟨h.1,Oc c r _ k h.2⟩
theorem G6{p}:∀(n:Nat) (S a:al),∀x∈jT p n S a,x∈a\/∃i,x∈(p.aF.getD i default).aw
 | 0,S,a,x,h=>.inl h
 | n+1,S,a,x,h=>by
  rw[jT] at h;split at h
  ·rcases G6 n _ _ x h with h | h
   ·rcases List.mem_append.1 h with h | h
    ·exact .inl h
    ·exact .inr ⟨n,h⟩
   ·exact .inr h
  ·exact G6 n _ _ x h
def G7{p}{k x}(h:x∈cw p k):∃c∈p.aF,x∈c.aw:=by
 unfold cw hV at h;rw[List.mem_mergeSort] at h;rcases G6 _ _ _ x h with h | ⟨i,h⟩
 ·cases h
 ·by_cases a:i<p.aF.length
  ·exact⟨_,bH a,h⟩
  ·rw[List.getD_eq_getElem?_getD,List.getElem?_eq_none aa] at h;cases h
def Yh{f}{n i}(a:i<n)(h:f i=false):(List.range n).all f=false:=by
 cases cj:(List.range n).all f with
 | false=>rfl
 | true=>rw[List.all_eq_true.1 cj i (List.mem_range.2 a)] at h;cases h
def lO{f}(h:(List.range i).all f)(a:f i=true):(List.range (i+1)).all f=true:=by
 rw[List.range_succ,List.all_append,h];simp[a]
def Od{p}(h:decide (p.aF.length<=10)=false):fO p=false:=by
 unfold fO;rw[h];simp
def Yi{p}(h:jz p.aF 0=false):fO p=false:=by
 unfold fO;rw[h];simp
def G8{p}(a:i<p.aF.length)(h:(decide ((p.aF.getD i default).aw.length<=4) && iL (p.aF.getD i default).aw (ek (p.aF.take i)))=false):fO p=false:=by
 refine Yi (zK (f:=λl=>jz l 0) (i+1) (λk=>G4 _ _ k) ?_);show jz _ _=false;rw[zR _ _ _ a,Nat.zero_add,h,Bool.and_false]
def Oe{p}{i j}(c:i<p.aF.length)(a:j<(p.aF.getD i default).aw.length)(h:((p.aF.getD i default).aw.getD j default==((ek (p.aF.take i)+j:Nat):Int))=false):fO p=false:=by
 refine G8 c ?_;have e:iL (p.aF.getD i default).aw (ek (p.aF.take i))=false:=by
  refine zK (f:=λl=>iL l (ek (p.aF.take i))) (j+1) (λk=>Oa _ _ k) ?_;show iL _ _=false;rw[C8 _ _ _ a,h,Bool.and_false]
 rw[e,Bool.and_false]
def G9{p}(h:(((ek p.aF:Int)==p.aw) && fZ (ca p))=false):fO p=false:=by
 unfold fO;rw[h];simp
def zT{p}(a:i<p.aF.length)(h:nE p i=false):fO p=false:=by
 unfold fO;rw[Yh a h,Bool.and_false]
def Ha{p}{i j:Nat}(a:j<(p.aF.getD i default).inits.length)(h:((cw p ((i:Int)+3)).contains ((p.aF.getD i default).inits.getD j default).1 && !(((p.aF.getD i default).inits.take j).map (·.1)).contains ((p.aF.getD i default).inits.getD j default).1 && om ((p.aF.getD i default).inits.getD j default).2)=false):nE p i=false:=by
 unfold nE;have e:kQ (cw p ((i:Int)+3)) (p.aF.getD i default).inits []=false:=by
  refine zK (f:=λl=>kQ (cw p ((i:Int)+3)) l []) (j+1) (λk=>Oc _ _ _ k) ?_;show kQ _ _ _=false;rw[C9 _ _ _ _ a,List.nil_append,h,Bool.and_false]
 rw[e,Bool.and_false]
structure Prog.Small(p:Prog):Prop where
 aF:p.aF.length<=1048576
 parents:∀c∈p.aF,c.parents.length<=4000000
def Of{p}(h:fZ (ca p)):p.aF.length<=16/\∀c∈p.aF,∀x∈c.parents,fX x:=by
 have g:=u7 h;have m:p.aF.length<=16:=by simpa [ca] using g
 refine⟨m,λc f x l=>?_⟩;obtain⟨i,a,rfl⟩:=List.mem_iff_getElem.1 f;have j:kk 0 (ca p)=true:=by simp[fZ,Bool.and_eq_true] at h;exact h.2
 have:=C5 (ca p) 0 i j (by simpa [ca] using a);have e:(ca p).getD i default=p.aF[i].parents:=by
  rw[List.getD_eq_getElem?_getD,ca,List.getElem?_map,List.getElem?_eq_getElem a];rfl
 rw[e] at this;have:=this.2 x l;unfold fX;omega
structure dC where
 n:Int
 bs:Int
 cu:Int
abbrev vb(x:dC):ab:=.agg [.i x.bs,.i x.cu]
def pZ(p:Prog)(next:Bool)(x:gR)(bs:Int):Bool:=
 fW p x bs && (next || x.op !=18) && (match iw x.op with
  | none=>false
  | some none=>(x.kids.length:Int)==p.c2.getD x.n.toNat default
  | some (some k)=>x.kids.length==k)
def mQ(p:Prog)(x:dC)(out:al):Bool:=decide (0<=x.n) && decide (x.n<p.nodes.length) && decide (out.getD x.n.toNat default<0) && decide (x.cu<=12)
def fu(p:Prog)(x:dC):gR:=p.nodes.getD x.n.toNat default
def fe(p:Prog)(next:Bool)(x:dC)(out:al):Bool:=mQ p x out && pZ p next (fu p x) x.bs
def iM(out:al)(x:dC):al:=out.set x.n.toNat x.bs
def gV(x:dC)(op:Int)(i:Nat)(k:Int):dC:=⟨k,if op=9/\i=1 then x.bs+1 else x.bs,x.cu+1⟩
def hE(x:dC)(op:Int):Nat->al->List dC
 | _,[]=>[]
 | i,k::r=>gV x op i k::hE x op (i+1) r
def eT(v:dC->al->List dC×Option al):List dC->al->List dC×Option al
 | [],out=>([],some out)
 | y::r,out=>match v y out with
  | (l,none)=>(l,none)
  | (l,some o)=>(l++(eT v r o).1,(eT v r o).2)
def visit(p:Prog)(next:Bool):Nat->dC->al->List dC×Option al
 | 0,x,out=>([x],none)
 | f+1,x,out=>if fe p next x out then
   (x::(eT (visit p next f) (hE x (fu p x).op 0 (fu p x).kids) (iM out x)).1,(eT (visit p next f) (hE x (fu p x).op 0 (fu p x).kids) (iM out x)).2)
  else ([x],none)
theorem Hb(v):∀(a b:List dC) (o:al) {l:List dC} {o':al},eT v a o=(l,some o')->eT v (a++b) o=(l++(eT v b o').1,(eT v b o').2)
 | [],b,o,l,o',h=>by simp only[eT,Prod.mk.injEq,Option.some.injEq] at h;obtain⟨rfl,rfl⟩:=h;simp
 | y::r,b,o,l,o',h=>by
  rw[List.cons_append];simp[eT] at h ⊢;rcases bd:v y o with⟨ot,_ | hz⟩
  ·rw[bd] at h;simp at h
  ·rw[bd] at h;simp[Prod.mk.injEq] at h;obtain⟨rfl,c⟩:=h;have:=Hb v r b hz (l:=(eT v r hz).1) (o':=o') (Prod.ext rfl c);simp[this,List.append_assoc]
theorem Hc(x)(op):∀(i:Nat) (l:al),(hE x op i l).length=l.length
 | _,[]=>rfl
 | i,k::r=>by rw[hE,List.length_cons,Hc x op (i+1) r,List.length_cons]
theorem Hd(x)(op):∀(i j:Nat) (l:al),(hE x op i l).drop j=hE x op (i+j) (l.drop j)
 | _,_,[]=>by simp[hE]
 | i,0,k::r=>rfl
 | i,j+1,k::r=>by rw[hE,List.drop_succ_cons,Hd x op (i+1) j r,List.drop_succ_cons,show i+1+j=i+(j+1) by omega]
def tG{p}{f}{x}(h:fe p next x out=false):visit p next f x out=([x],none):=by
 cases f with
 | zero=>rfl
 | succ f=>rw[visit,if_neg wz]
def vc{p}{f}{x}(h:fe p next x out):visit p next (f+1) x out=(x::(eT (visit p next f) (hE x (fu p x).op 0 (fu p x).kids) (iM out x)).1,(eT (visit p next f) (hE x (fu p x).op 0 (fu p x).kids) (iM out x)).2):=by
 rw[visit,if_pos h]
def Og{p}(f)(x)(a):(visit p next f x a).1≠ []:=by
 cases h:fe p next x a with
 | false=>rw[tG h];simp
 | true=>
  cases f with
  | zero=>simp[visit]
  | succ f=>rw[vc h];simp
theorem Yj{v}(a:∀x o,(v x o).1≠ []):∀(l:List dC) (o:al),(eT v l o).2=none->(eT v l o).1≠ []
 | [],o,h=>by simp[eT] at h
 | y::r,o,h=>by
  simp[eT] at h ⊢;have:=a y o;rcases cj:v y o with⟨ot,_ | hz⟩
  ·rw[cj] at this;exact this
  ·rw[cj] at this;intro e;exact this (List.append_eq_nil_iff.1 e).1
def Oh(b:α)(A:List α)(W:α)(X:List α):(b::(A++(W::X))).Perm (A++(W::b::X)):=by
 have:=(List.perm_middle (a:=b) (l₁:=A++[W]) (l₂:=X)).symm;simpa using this
def Oi{p}(f)(x)(a):∃t,(visit p next f x a).1=x::t:=by
 cases h:fe p next x a with
 | false=>rw[tG h];exact⟨[],rfl⟩
 | true=>
  cases f with
  | zero=>exact⟨[],rfl⟩
  | succ f=>rw[vc h];exact⟨_,rfl⟩
def Yk{p}{f}{x}{pre a L}(h:pre++(visit p next f x out).1++a=L):pre++[x]<+:L:=by
 obtain⟨t,g⟩:=Oi (p:=p) (next:=next) f x out;rw[<-h,g];exact⟨t++a,aT⟩
def Yl{p}{f}{x}{pre rest L}(e0:pre++(visit p next f x out).1++rest=L)(zU:(visit p next f x out).2≠none->h4=true->rest≠ [])(b7:h4)(h:pre++[x]=L):(visit p next f x out).2=none:=by
 obtain⟨t,ht⟩:=Oi (p:=p) (next:=next) f x out;cases bd:(visit p next f x out).2 with
 | none=>rfl
 | some o=>
  exfalso;have ae:=zU (by rw[bd];simp) b7;rw[<-e0,ht,List.append_assoc] at h;have ak:=List.append_cancel_left h;simp only[List.cons_append,List.cons.injEq,true_and] at ak;exact ae (List.append_eq_nil_iff.1 ak.symm).2
def Ym{p}{f:Nat}{x:dC}{pre c L}(q:x.cu+f=14)(m:pre++(visit p next f x out).1++c=L)(j:(visit p next f x out).2=none->c= []/\h4=true)(g:pre++[x]=L->h4=false):
  fe p next x out=true/\∃r,f=r+1:=by
 have h:fe p next x out=true:=by
  cases bd:fe p next x out with
  | true=>rfl
  | false=>
   exfalso;have e:=tG (f:=f) bd;obtain⟨o,l⟩:=j (by rw[e]);rw[e,o,List.append_nil] at m;rw[g m] at l;cases l
 refine⟨h,?_⟩;cases f with
 | succ f=>exact⟨f,rfl⟩
 | zero=>
  exfalso;simp[fe,mQ,Bool.and_eq_true,decide_eq_true_eq] at h;omega
def Yn{p}{x}(h:fe p next x out):0<=x.n/\x.n<p.nodes.length:=by
 simp[fe,mQ,Bool.and_eq_true,decide_eq_true_eq] at h;exact⟨h.1.1.1.1,h.1.1.1.2⟩
def Oj{v}(t:∀x o,(v x o).1≠ []){c}{i}{y}{s o}{l}(g:c.drop i=y::c.drop (i+1))(h:eT v (c.take i) s=(l,some o)):
  ∃R,(eT v c s).1=l++((v y o).1++R)/\((v y o).2=none->R= []/\(eT v c s).2=none)/\(∀r,(v y o).2=some r->eT v (c.take (i+1)) s=(l++(v y o).1,some r)/\((eT v c s).2=none->R≠ [])):=by
 have a:eT v c s=(l++(eT v (c.drop i) o).1,(eT v (c.drop i) o).2):=by
  have:=Hb v (c.take i) (c.drop i) s h;rwa [List.take_append_drop] at this
 rw[g] at a;have f:i<c.length:=by
  rcases Nat.lt_or_ge i c.length with q | q
  ·exact q
  ·rw[List.drop_of_length_le q] at g;cases g
 have m:c.take (i+1)=c.take i++[y]:=by
  have:c.drop i=c[i]::c.drop (i+1):=List.drop_eq_getElem_cons f;rw[this] at g;rw[List.take_succ_eq_append_getElem f,(List.cons.inj g).1]
 have j:=Hb v (c.take i) [y] s h;simp[eT] at a;rcases cj:v y o with⟨ot,_ | hz⟩
 ·rw[cj] at a;refine⟨[],by rw[a];simp,λ_=>⟨rfl,by rw[a]⟩,λo' h=>(by cases h)⟩
 ·rw[cj] at a;refine⟨(eT v (c.drop (i+1)) hz).1,by rw[a],λh=>(by cases h),λo' h=>?_⟩;cases h;refine⟨?_,λh=>?_⟩
  ·rw[m,j];simp[eT,cj]
  ·rw[a] at h;exact Yj t _ _ h
def Ol(x)(op){l}{i}(h:i<l.length):(hE x op 0 l).drop i=gV x op i (l.getD i default)::(hE x op 0 l).drop (i+1):=by
 rw[Hd,Hd,Nat.zero_add,Nat.zero_add,u5 h,hE]
def Yo{p}{f}{x y}{pre rest L l R:List dC}{W:List dC×Option al}(zV:visit p next (f+1) x out=(x::W.1,W.2))(e0:pre++(visit p next (f+1) x out).1++rest=L)
  (Om:(visit p next (f+1) x out).2=none->rest= []/\h4=true) (zU:(visit p next (f+1) x out).2≠none->h4=true->rest≠ []) (hR:W.1=l++((visit p next f y o).1++R)) (zW:(visit p next f y o).2=none->R= []/\W.2=none) (xl:∀o':al,(visit p next f y o).2=some o'->(W.2=none->R≠ [])):
  (pre++x::l)++(visit p next f y o).1++(R++rest)=L/\((visit p next f y o).2=none->R++rest= []/\h4=true)/\((visit p next f y o).2≠none->h4=true->R++rest≠ []):=by
 rw[zV] at e0 Om zU;refine⟨by rw[<-e0,hR];simp,λh=>?_,λh b7 he=>?_⟩
 ·obtain⟨ae,ak⟩:=zW h;obtain⟨aL,bo⟩:=Om ak;exact⟨by rw[ae,aL];rfl,bo⟩
 ·obtain⟨o',bb⟩:=Option.ne_none_iff_exists'.1 h;obtain⟨G,C⟩:=List.append_eq_nil_iff.1 he;cases hw:W.2 with
  | none=>exact xl o' bb hw G
  | some q=>exact zU (by simp[hw]) b7 C
def aA.vd{r}{P}{f}(g:H'.Sublist H)(h:aA c r P f ⟨env,H'⟩ Q):aA c r P f ⟨env,H⟩ Q:=λa w s=>h a w (s.weaken (λ_ _ h=>h) g)
def aZ.vd{e}(f:H'.Sublist H)(h:aZ c ⟨env,H'⟩ e Q):aZ c ⟨env,H⟩ e Q:=λa w s=>h a w (s.weaken (λ_ _ h=>h) f)
def Da(A:List α)(W b:α)(X:List α):(A++(W::X)).Sublist (A++(W::b::X)):=.append_left xe _
def hG(pre:List dC)(out:al):al:=pre.foldl iM out
structure km(p:Prog)(next:Bool)(out:al)(L:List dC)(r:Option al):Prop where
 yes:∀pre y,pre++[y]<+:L->¬(pre++[y]=L/\r=none)->fe p next y (hG pre out)=true
 no:∀pre y,pre++[y]=L->r=none->fe p next y (hG pre out)=false
 end_:∀o,r=some o->o=hG L out
 ne:r=none->L≠ []
def km.nil{p}:km p next out [] (some out):=
 ⟨λpre y h=>by have:=h.length_le;simp at this,λpre y h=>by simp at h,λo h=>by cases h;rfl,λh=>by cases h⟩
def He(a b)(o):hG (a++b) o=hG b (hG a o):=by simp[hG]
def Yp{A c f:List α}(h:A<+:c++f):A<+:c\/∃B,A=c++B/\B<+:f:=by
 obtain⟨t,g⟩:=h;rcases List.append_eq_append_iff.1 g with⟨a,ae,ak⟩ | ⟨a,ae,ak⟩
 ·exact .inl ⟨a,ae.symm⟩
 ·exact .inr ⟨a,ae,t,ak.symm⟩
def On{pre c B:List α}{y:α}(h:pre++[y]=c++B)(j:B≠ []):∃a,B=a++[y]/\pre=c++a:=by
 rcases List.eq_nil_or_concat B with rfl | ⟨a,z,rfl⟩
 ·exact absurd rfl j
 ·rw[List.concat_eq_append, <-List.append_assoc] at h;obtain⟨g,f⟩:=List.append_inj' h rfl;cases f;exact⟨a,List.concat_eq_append,g⟩
def km.append{p}{a f}{w x}{r}(l:km p next a w (some f))(c:km p next f x r):km p next a (w++x) r:=by
 have s:=l.end_ f rfl;refine⟨λpre y h z=>?_,λpre y h v=>?_,λo h=>?_,λh=>?_⟩
 ·rcases Yp h with h | ⟨B,t,A⟩
  ·exact l.yes pre y h λa1=>by cases a1.2
  ·rcases Classical.em (B= []) with rfl | g
   ·rw[List.append_nil] at t;exact l.yes pre y (by rw[t];exact List.prefix_refl _) λa1=>by cases a1.2
   ·obtain⟨q,rfl,rfl⟩:=On t g;rw[He, <-s];exact c.yes q y A λa1=>z ⟨by rw[List.append_assoc,a1.1],a1.2⟩
 ·obtain⟨q,rfl,rfl⟩:=On h (c.ne v);rw[He, <-s];exact c.no q y rfl v
 ·rw[He, <-s];exact c.end_ o h
 ·intro e;exact c.ne h (List.append_eq_nil_iff.1 e).2
def Hf{pre:List α}{x y:α}(c:pre++[y]<+: [x]):pre= []/\y=x:=by
 have f:=c.length_le;simp only[List.length_append,List.length_singleton] at f;obtain rfl:pre= []:=List.eq_nil_of_length_eq_zero aa;obtain⟨t,a⟩:=c;simp at a;exact⟨rfl,a.1⟩
def km.one{p}{x}(h:fe p next x out):km p next out [x] (some (iM out x)):=
 ⟨λpre y c _=>by obtain⟨rfl,rfl⟩:=Hf c;exact h,λpre y c f=>by(cases f),λo h=>by(cases h;rfl),λh=>by(cases h)⟩
def km.not{p}{x}(h:fe p next x out=false):km p next out [x] none:=
 ⟨λpre y a f=>by obtain⟨rfl,rfl⟩:=Hf a;exact absurd ⟨rfl,rfl⟩ f,λpre y a g=>by obtain⟨rfl,rfl⟩:=Hf (by rw[a];exact List.prefix_refl _);exact h,λo h=>by(cases h),λh=>by simp⟩
theorem km.kids{p}{next}{v}{ok:dC->Prop}(f:∀x o,ok x->km p next o (v x o).1 (v x o).2):∀(l:List dC),(∀x∈l,ok x)->∀(o:al),km p next o (eT v l o).1 (eT v l o).2
 | [],_,o=>km.nil
 | y::r,c,o=>by
  have a:=f y o (c y dB);simp[eT];rcases cj:v y o with⟨ot,_ | hz⟩
  ·rw[cj] at a;exact a
  ·rw[cj] at a;exact a.append (km.kids f r (λx g=>c x (.tail _ g)) hz)
theorem Db(x)(op):∀(i:Nat) (l:al),∀y∈hE x op i l,y.cu=x.cu+1
 | _,[],y,h=>by simp[hE] at h
 | i,k::r,y,h=>by
  rw[hE,List.mem_cons] at h;rcases h with rfl | h
  ·rfl
  ·exact Db x op (i+1) r y h
theorem xm{p}{next}:∀(f:Nat) (x:dC) (a:al),x.cu+f=14->km p next a (visit p next f x a).1 (visit p next f x a).2
 | 0,x,a,h=>by
  refine km.not ?_;unfold fe mQ;rw[show decide (x.cu<=12)=false from decide_eq_false aa];simp
 | f+1,x,a,h=>by
  cases bD:fe p next x a with
  | false=>rw[tG bD];exact km.not bD
  | true=>
   rw[vc bD];exact (km.one bD).append (km.kids (ok:=λy=>y.cu+f=14) (λy o c=>xm f y o c) _ (λy c=>by rw[Db _ _ _ _ y c];omega) _)
def Yq(o)(x):(iM o x).length=o.length:=by simp[iM]
theorem xn:∀(l:List dC) (o:al),(hG l o).length=o.length
 | [],o=>rfl
 | x::r,o=>by rw[show hG (x::r) o=hG r (iM o x) from rfl,xn r,Yq]
def Oo(l)(x)(o):hG (l++[x]) o=iM (hG l o) x:=by simp[hG]
def ve(x:dC):Prop:=-1000<=x.bs/\x.bs<=1000+x.cu/\1<=x.cu/\x.cu<=14
theorem Oq{p}{next}:∀(f:Nat) (x:dC) (g:al),x.cu+f=14->ve x->∀y∈(visit p next f x g).1,ve y
 | 0,x,g,h,j,y,a=>by rw[show (visit p next 0 x g).1= [x] from rfl] at a;simp at a;subst a;exact j
 | f+1,x,g,h,j,y,a=>by
  cases bD:fe p next x g with
  | false=>rw[tG bD] at a;simp at a;subst a;exact j
  | true=>
   rw[vc bD] at a;simp[List.mem_cons] at a;rcases a with rfl | a
   ·exact j
   ·have s:∀(l:List dC),(∀z∈l,z.cu+f=14/\ve z)->∀(o:al),∀y∈(eT (visit p next f) l o).1,ve y:=by
     intro l
     induction l with
     | nil=>intro _ o y a;simp[eT] at a
     | cons z r t=>
      intro q o y a;simp[eT] at a;have m:=Oq (p:=p) (next:=next) f z o (q z dB).1 (q z dB).2;rcases cj:visit p next f z o with⟨C,_ | w⟩
      ·rw[cj] at a m;exact m y a
      ·rw[cj] at a m;simp only[List.mem_append] at a;rcases a with a | a
       ·exact m y a
       ·exact t (λz c=>q z (.tail _ c)) w y a
    refine s _ (λz c=>⟨by rw[Db _ _ _ _ z c];omega,?_⟩) _ y a;have B:=Db _ _ _ _ z c;have:∀(op:Int) (i:Nat) (l:al),∀z∈hE x op i l,z.bs=x.bs\/z.bs=x.bs+1:=by
     intro op i l
     induction l generalizing i with
     | nil=>intro z c;simp[hE] at c
     | cons k r t=>
      intro z c;rw[hE,List.mem_cons] at c;rcases c with rfl | c
      ·simp only[gV];split <;> simp
      ·exact t (i+1) z c
    have A:=this _ _ _ z c;unfold ve at j ⊢;omega
def Yr{p}{x}(h:mQ p x C=false):fe p next x C=false:=by simp[fe,h]
def Ys{p}{x}(h:(fW p (fu p x) x.bs && (next || (fu p x).op !=18))=false):fe p next x C=false:=by
 simp[fe,pZ,h,Bool.false_and,Bool.and_false]
def Yt{p}{x}(h:iw (fu p x).op=none):fe p next x C=false:=by
 simp[fe,pZ,h]
def Yu{p}{x}(c:mQ p x C)(a:(fW p (fu p x) x.bs && (next || (fu p x).op !=18)))(h:iw (fu p x).op=some (some k)):fe p next x C=(((fu p x).kids.length:Int)==(k:Int)):=by
 simp[fe,pZ,c,a,h,Bool.true_and];rw[Bool.eq_iff_iff,beq_iff_eq,beq_iff_eq];omega
def Yv{p}{x}(c:mQ p x C)(a:(fW p (fu p x) x.bs && (next || (fu p x).op !=18)))(h:iw (fu p x).op=some none):fe p next x C=(((fu p x).kids.length:Int)==p.c2.getD (fu p x).n.toNat default):=by
 simp[fe,pZ,c,a,h,Bool.true_and]
def Ot{p}{x}(h:mQ p x C):0<=x.n/\x.n<p.nodes.length:=by
 simp[mQ,Bool.and_eq_true,decide_eq_true_eq] at h;exact h.1.1
def Yw(h:i<C.length):(C.map ab.i)[0+i*1]? =some (.i (C.getD i default)):=by
 rw[Nat.zero_add,Nat.mul_one,List.getElem?_map,List.getElem?_eq_getElem h,Option.map_some,List.getD_eq_getElem?_getD,List.getElem?_eq_getElem h];rfl
def Yx{s}(h:i<C.length):(C.map ab.i).take (0+i*1)++[.i s]++(C.map ab.i).drop (0+i*1+1)=(C.set i s).map ab.i:=by
 rw[Nat.zero_add,Nat.mul_one,List.map_set,List.set_eq_take_append_cons_drop,if_pos gU,List.append_assoc];rfl
mutual
theorem Ou(w:Fc.bx):∀(f:Fact) (left a:Int),(fz w f left a).1=true->nB f=true
 | .mk op arg path cls n kids,left,a,h=>by
  rw[fz] at h;by_cases j:jb (.mk op arg path cls n kids) (left - 1) a=true
  ·rw[if_pos j] at h;cases h
  rw[if_neg j] at h;have t:(kids.length:Int)=kj op:=by
   have s:jb (.mk op arg path cls n kids) (left - 1) a=false:=by simpa using j
   simp[jb,Bool.or_eq_false_iff,bne_eq_false_iff_eq] at s;exact s.2
  by_cases c:dp (.mk op arg path cls n kids)=true
  ·rw[if_pos c] at h;have c:2<=op/\op<=4:=by rw[dp,Bool.and_eq_true] at c;exact⟨of_decide_eq_true c.1,of_decide_eq_true c.2⟩
   have o:kids= []:=by
    have:kj op=0:=by unfold kj;rw[if_neg aa,if_neg aa]
    exact List.eq_nil_of_length_eq_zero aa
   have x:0<=arg/\arg<3:=by
    have m:jx w (.mk op arg path cls n kids)=true:=by simp[Bool.and_eq_true] at h;exact h.1
    rw[jx,Bool.not_eq_true',Bool.or_eq_false_iff,Bool.or_eq_false_iff] at m;have v: ¬arg<0:=of_decide_eq_false m.1.1;have z: ¬arg>=3:=of_decide_eq_false m.1.2;omega
   subst o;have l:ha (.mk op arg path cls n [])=arg+1:=by unfold ha;rw[if_pos (by show op=2\/op=3\/op=4;omega)];rfl
   simp[nB,u4,l,Bool.and_true,Bool.and_eq_true,decide_eq_true_eq];omega
  ·rw[if_neg c] at h;have g:dp (.mk op arg path cls n kids)=false:=by simpa using c
   have g: ¬(2<=op/\op<=4):=by intro q;rw[show dp (.mk op arg path cls n kids)=true by rw[dp,Bool.and_eq_true];exact⟨decide_eq_true q.1,decide_eq_true q.2⟩] at g;cases g
   have l:ha (.mk op arg path cls n kids)=0:=by unfold ha;rw[if_neg (by show ¬(op=2\/op=3\/op=4);omega)]
   by_cases r:jw (.mk op arg path cls n kids)=true
   ·rw[if_pos r] at h;have:=Ov w kids _ _ h;simp only[nB,l,this,Bool.and_true];decide
   ·rw[if_neg r] at h;cases h
theorem Ov(w:Fc.bx):∀(l:List Fact) (left a:Int),(en w l left a).1=true->u4 l=true
 | [],left,a,h=>rfl
 | k::r,left,a,h=>by
  rw[en] at h;by_cases c:(fz w k left a).1=true
  ·rw[if_pos c] at h;rw[u4,Ou w k _ _ c,Ov w r _ _ h];rfl
  ·rw[if_neg c] at h;exact absurd h c
end
def Ow{w}{f}(h:lL w f):nB f=true:=Ou w f 24 12 h
def p0(p:Prog):Bool:=decide ((p.c2.length:Int)<=8) && decide ((p.methods.length:Int)<=16) && decide ((p.nodes.length:Int)>=1) && decide ((p.nodes.length:Int)<=120)
def mR(n:Int):Bool:=decide (n>=1) && decide (n<=3)
def q6(p:Prog)(m:hC):Bool:=decide (m.kind>=1) && decide (m.kind<=4) && decide (m.gen>=0) && decide (m.gen<p.c2.length)
def q7(p:Prog)(m:hC):Bool:=(cy (bR p) && lL (bR p) m.fact) && decide (nC m.fact<=p.c2.getD m.gen.toNat default)
def lh(m:hC):Bool:=m.kind==1 || m.kind==4
def mE(p:Prog)(m:hC):dC:=⟨m.node,p.c2.getD m.gen.toNat default,1⟩
def hb(p:Prog):List hC->al->Option al
 | [],out=>some out
 | m::r,out=>if q6 p m && q7 p m then (match (visit p (lh m) 13 (mE p m) out).2 with
  | none=>none
  | some o=>hb p r o) else none
def je(p:Prog):al:=List.replicate p.nodes.length (-1)
def Yy(p):(je p).map ab.i=List.replicate p.nodes.length (.i (-1)):=by simp[je]
def bu(p:Prog):Option al:=
 if fO p && p0 p && p.c2.all mR then (match hb p p.methods (je p) with
  | none=>none
  | some o=>match (visit p false 13 ⟨p.main,0,1⟩ o).2 with
   | none=>none
   | some fx=>if fx.contains (-1) then none else some fx) else none
def Ox{p}(h:fO p=false):bu p=none:=by unfold bu;rw[h];rfl
def Oy{p}(h:p0 p=false):bu p=none:=by unfold bu;rw[h,Bool.and_false];rfl
def Oz{p}(h:p.c2.all mR=false):bu p=none:=by unfold bu;rw[h,Bool.and_false];rfl
def zX{p}(h:hb p p.methods (je p)=none):bu p=none:=by unfold bu;rw[h];split <;> rfl
def OA{p}(h:hb p p.methods (je p)=some o)(a:(visit p false 13 ⟨p.main,0,1⟩ o).2=none):bu p=none:=by unfold bu;rw[h];simp only[a];split <;> rfl
def OB{p}(h:hb p p.methods (je p)=some o)(a:(visit p false 13 ⟨p.main,0,1⟩ o).2=some fx)(c:fx.contains (-1)=true):bu p=none:=by unfold bu;rw[h];simp only[a,c,if_true];split <;> rfl
def OC{p}(j:fO p)(a:p0 p)(f:p.c2.all mR=true)(h:hb p p.methods (je p)=some o)(g:(visit p false 13 ⟨p.main,0,1⟩ o).2=some fx)(c:fx.contains (-1)=false):bu p=some fx:=by
 unfold bu;rw[j,a,f,h];simp only[g,c];rfl
def Hg{p:Prog}{m:hC}(aN:i<p.methods.length)(hm:m=p.methods.getD i default):hb p (p.methods.drop i) o=if q6 p m && q7 p m then (match (visit p (lh m) 13 (mE p m) o).2 with
  | none=>none
  | some o=>hb p (p.methods.drop (i+1)) o) else none:=by
 rw[u5 aN,hb, <-hm]
def Hh{p}{m}(a:i<p.methods.length)(hm:m=p.methods.getD i default)(h:(q6 p m && q7 p m)=false):hb p (p.methods.drop i) o=none:=by
 rw[Hg a hm,h];rfl
def OD{p}{m}(a:i<p.methods.length)(hm:m=p.methods.getD i default)(h:(visit p (lh m) 13 (mE p m) o).2=none):hb p (p.methods.drop i) o=none:=by
 rw[Hg a hm,h];split <;> rfl
def OE{p}{m}(c:i<p.methods.length)(hm:m=p.methods.getD i default)(a:(q6 p m && q7 p m))(h:(visit p (lh m) 13 (mE p m) o).2=some o'):hb p (p.methods.drop i) o=hb p (p.methods.drop (i+1)) o':=by
 rw[Hg c hm,a,h];rfl
def OF{p}{x}(f:x.cu=1)(h:(visit p next 13 x o).2.isNone=false):(visit p next 13 x o).2=some (hG (visit p next 13 x o).1 o):=by
 cases a:(visit p next 13 x o).2 with
 | none=>rw[a] at h;cases h
 | some c=>rw[(xm (p:=p) (next:=next) 13 x o aa).end_ c a]
def sj{p:Prog}(h:p.c2.all mR=true){n}(hn:n∈p.c2):1<=n/\n<=3:=by
 have:=List.all_eq_true.1 h n hn;simp[mR,Bool.and_eq_true,decide_eq_true_eq] at this;exact this
def Yz{p:Prog}(a:i<p.c2.length)(h:mR (p.c2.getD i default)=false):p.c2.all mR=false:=by
 cases cj:p.c2.all mR with
 | false=>rfl
 | true=>rw[List.all_eq_true.1 cj _ (bH a)] at h;cases h
def Dc{p}(h:fO p):p.aF.length<=10/\∀c∈p.aF,c.parents.length<=4000000/\c.aw.length<=1000:=by
 simp[fO,Bool.and_eq_true,decide_eq_true_eq] at h;have g:=va _ _ h.1.1.2;refine⟨h.1.1.1,λc f=>⟨?_,by have:=(g c f).1;omega⟩⟩;obtain⟨i,a,rfl⟩:=List.mem_iff_getElem.1 f;have j:kk 0 (ca p)=true:=by have:=h.1.2.2;simp[fZ,Bool.and_eq_true] at this;exact this.2
 have:=(C5 (ca p) 0 i j (by simpa [ca] using a)).1;have e:(ca p).getD i default=p.aF[i].parents:=by
  rw[List.getD_eq_getElem?_getD,ca,List.getElem?_map,List.getElem?_eq_getElem a];rfl
 rw[e] at this;omega
def YA{b}(h:((if b=true then (0:Int) else 2)==0)=true):b=true:=by cases b <;> simp at h ⊢
def Hi(b):((if b=true then (0:Int) else 2)==0)=b:=by cases b <;> simp
def OG{p}{x}(c:x.cu=1)(h:(visit p next 13 x o).2=some o'):o'.length=o.length:=by
 rw[(xm (p:=p) (next:=next) 13 x o aa).end_ o' h,xn]
theorem OH{p}:∀(l:List hC) (o a:al),hb p l o=some a->a.length=o.length
 | [],o,a,h=>by rw[hb] at h;cases h;rfl
 | m::r,o,a,h=>by
  rw[hb] at h;split at h
  ·cases bd:(visit p (lh m) 13 (mE p m) o).2 with
   | none=>rw[bd] at h;cases h
   | some c=>
    rw[bd] at h;rw[OH r c a h,OG rfl bd]
  ·cases h
def jf{p}(h:bu p=some o):fO p=true/\p0 p=true/\p.c2.all mR=true/\∃a,hb p p.methods (je p)=some a/\(visit p false 13 ⟨p.main,0,1⟩ a).2=some o/\o.contains (-1)=false:=by
 unfold bu at h;split at h
 ·rename_i c;rw[Bool.and_eq_true,Bool.and_eq_true] at c;refine⟨c.1.1,c.1.2,c.2,?_⟩;cases hm:hb p p.methods (je p) with
  | none=>rw[hm] at h;cases h
  | some a=>
   rw[hm] at h;cases bd:(visit p false 13 ⟨p.main,0,1⟩ a).2 with
   | none=>simp only[bd] at h;cases h
   | some g=>
    simp only[bd] at h;split at h
    ·cases h
    ·rename_i f;cases h;exact⟨a,rfl,bd,by simpa using f⟩
 ·cases h
def sk{p}(h:bu p=some o):o.length=p.nodes.length/\p.nodes.length<=120:=by
 obtain⟨_,c,_,g,a,f,_⟩:=jf h;refine⟨by rw[OG rfl f,OH _ _ _ a];simp[je],?_⟩;simp[p0,Bool.and_eq_true,decide_eq_true_eq] at c;omega
def OI(o:al):o.map ab.i=(o.map λn=>[ab.i n]).flatten++[]:=by
 rw[List.append_nil]
 induction o with
 | nil=>rfl
 | cons a r c=>rw[List.map_cons,c];rfl
def fq.outs{nb n}{pre post}(hm:.au nb 3 (o.map .i)∈H)(hn:o.length=n)(g:n<=1000000):fq H (pre++.val (.slice (some ⟨nb,0,none⟩) n n)::post) (pre++.ints o::post):=by
 have e:(o.map λn=>[ab.i n]).flatten++[]=o.map ab.i:=by
  rw[List.append_nil];clear hm hn
  induction o with
  | nil=>rfl
  | cons a r c=>rw[List.map_cons,List.flatten_cons,c];rfl
 have h:=fq.au (t:=3) (b:=nb) (k:=1) (cap:=n) (els:=o.map λn=>[.i n]) (more:=[]) (pre:=pre) (post:=post) (H:=H) (by rw[e];exact hm) (λx f=>by obtain⟨y,_,rfl⟩:=List.mem_map.1 f;rfl) nV ia;rw[List.length_map,hn] at h;exact h
structure YB where
 cls:Int
 aw:List (Int×Int)
instance:Inhabited YB:=⟨⟨0,[]⟩⟩
abbrev ab.mg(l:List (Int×Int)):ab:=.aj 2 (l.map q5)
def eJ(p:Prog)(c:Int):Bool:=decide (c>=3) && decide (c<3+p.aF.length) && (bu p).isSome
def vf{p}{c}(h:eJ p c):(3<=c/\c<3+p.aF.length)/\fO p=true:=by
 simp[eJ,Bool.and_eq_true,decide_eq_true_eq] at h;obtain⟨o,a⟩:=Option.isSome_iff_exists.1 h.2;exact⟨h.1,(jf a).1⟩
def OJ{p}(h:fO p):∀c∈p.aF,∀x∈c.parents,fX x:=by
 simp[fO,Bool.and_eq_true,decide_eq_true_eq] at h;exact (Of h.1.2.2).2
end Go.Eng.dO

