/- A part of the proof. No condition. -/
import Derived.Test.YtodccgailpkgeaaGreatKindInfersP9
import Derived.DeepKeys4
import Derived.Test.YtodccgailpkgeaaGreatProg
import Derived.KernelRfl
import Derived.ProofKit
import Derived.Test.YtodccgailpkgeaaGreatRows
set_option linter.defProp false
set_option maxHeartbeats 1000000
set_option linter.unusedVariables false
set_option linter.unusedSimpArgs false
set_option maxRecDepth 10000
namespace Go.Eng.Fc
variable{α:Type}{W:bt}{f:Fact}{l:List Fact}{o:cW}{i:Nat}{eJ:Int}
def eM(a b):(bif a then true else b)=(a || b):=by cases a <;> rfl
def pX[Inhabited α]{l:List α}{j}(h:j<l.length):l.getD j default=l[j]:=by rw[List.getD_eq_getElem?_getD,List.getElem?_eq_getElem h];rfl
def q0(h:cx W):W.parents.length<=60:=by simp[cx] at h;exact h.1.1.1
def hQ[Inhabited α]{l:List α}{k}(h:k<l.length):l.getD k default∈l:=by rw[pX h];exact List.getElem_mem h
mutual
def cU:Fact->Nat
 | .mk _ _ _ _ _ kids=>1+fk kids
def fk:List Fact->Nat
 | []=>0
 | f::r=>cU f+fk r
end
def pY(f):cU f=1+fk f.kids:=by cases f;rw[cU];rfl
def gN(W:bt)(f:Fact):Bool:=decide (1<=f.op) && decide (f.op<=7) && ((f.kids.length:Int)==j6 f.op) && (if dm f then jl W f && kE W f else jk f)
mutual
def dS(W:bt):Fact->Bool
 | .mk op arg path cls n kids=>gN W (.mk op arg path cls n kids) && q1 W kids
def q1(W:bt):List Fact->Bool
 | []=>true
 | f::r=>dS W f && q1 W r
end
theorem Hb{W}:∀{l:List Fact},q1 W l=true↔∀k∈l,dS W k=true
 | []=>by simp[q1]
 | x::r=>by simp[q1,Hb (l:=r)]
def mK:dS W f=true↔gN W f=true/\∀k∈f.kids,dS W k=true:=by
 cases f;rw[dS,Bool.and_eq_true,Hb];rfl
def zQ(h:gN W f)(a:dm f):f.kids= []:=by
 simp[gN,dm,Bool.and_eq_true,decide_eq_true_eq,beq_iff_eq] at h a;have:j6 f.op=0:=by rw[j6,if_neg aa,if_neg aa]
 rw[this] at h;exact List.eq_nil_of_length_eq_zero aa
mutual
theorem C1(W):∀(f:Fact) (left a:Int),(fz W f left a).1=true->dS W f=true/\(fz W f left a).2=left - cU f
 | .mk op arg path cls n kids,left,a,h=>by
  rw[fz] at h ⊢;rw[dS,cU];by_cases g:iQ (.mk op arg path cls n kids) (left - 1) a=true
  ·rw[if_pos g] at h;cases h
  ·rw[if_neg g] at h ⊢;have j:gN W (.mk op arg path cls n kids)=(if dm (.mk op arg path cls n kids) then jl W (.mk op arg path cls n kids) && kE W (.mk op arg path cls n kids) else jk (.mk op arg path cls n kids)):=by
    simp[iQ,Bool.not_eq_true,Bool.or_eq_false_iff,decide_eq_false_iff_not,bne_eq_false_iff_eq] at g;rw[gN];rw[show (decide (1<=(Fact.mk op arg path cls n kids).op) && decide ((Fact.mk op arg path cls n kids).op<=7) && (((Fact.mk op arg path cls n kids).kids.length:Int)==j6 (Fact.mk op arg path cls n kids).op))=true by
     simp[Bool.and_eq_true,decide_eq_true_eq,beq_iff_eq];exact⟨lz,g.2⟩]
    rfl
   by_cases c:dm (.mk op arg path cls n kids)=true
   ·rw[if_pos c] at h ⊢;rw[if_pos c] at j;have o:(jl W (.mk op arg path cls n kids) && kE W (.mk op arg path cls n kids))=true:=h;have hn:gN W (.mk op arg path cls n kids)=true:=j.trans o;have l:kids= []:=zQ hn c;subst l;refine⟨s0,by simp[fk]⟩
   ·rw[if_neg c] at h ⊢;rw[if_neg c] at j;by_cases m:jk (.mk op arg path cls n kids)=true
    ·rw[if_pos m] at h ⊢;have:=Oi W kids (left - 1) (a - 1) h;refine⟨by rw[j,m,this.1];rfl,by rw[this.2];omega⟩
    ·rw[if_neg m] at h;cases h
theorem Oi(W):∀(l:List Fact) (left c:Int),(ek W l left c).1=true->q1 W l=true/\(ek W l left c).2=left - fk l
 | [],left,c,h=>by rw[ek,q1,fk];simp
 | k::r,left,c,h=>by
  rw[ek] at h ⊢;rw[q1,fk];by_cases f:(fz W k left c).1=true
  ·rw[if_pos f] at h ⊢;have a:=C1 W k left c f;have b:=Oi W r _ c h;exact⟨by rw[a.1,b.1];rfl,by rw[b.2,a.2];omega⟩
  ·rw[if_neg f] at h;exact absurd h f
end
def tz(h:lA W f):dS W f=true/\cU f<=24:=by
 have a:=C1 W f 24 12 h;have c:=(GK W f 24 12).2 h;exact⟨a.1,aa⟩
def iU(W:bt)(a b:Int):Bool:=((mF W).getD a.toNat 0).testBit b.toNat
def XX{j}(h:j<l.length):fk (l.take (j+1))=fk (l.take j)+cU (l.getD j default):=by
 induction l generalizing j with
 | nil=>simp at h
 | cons x r a=>
  cases j with
  | zero=>simp[fk]
  | succ j=>
   rw[List.take_succ_cons,List.take_succ_cons,fk,fk,a gQ];simp[List.getD_cons_succ];omega
def XY(j):fk (l.take j)<=fk l:=by
 induction l generalizing j with
 | nil=>simp[fk]
 | cons x r a=>
  cases j with
  | zero=>simp[fk]
  | succ j=>rw[List.take_succ_cons,fk,fk];have:=a j;omega
def gv(W:bt)(c b:Nat):Bool:=((mF W).getD c 0).testBit b
theorem Oj(U:dq)(b):∀(l:ak) (s:Nat),(l.foldl (λs (p:Int)=>s ||| U.getD p.toNat 0) s).testBit b=(s.testBit b || l.any λp=>(U.getD p.toNat 0).testBit b)
 | [],s=>by simp
 | p::r,s=>by rw[List.foldl_cons,Oj U b r,Nat.testBit_or,List.any_cons,Bool.or_assoc]
def Ol(U)(i)(l)(b):(o1 U i l).testBit b=(b==0 || b==3+i || l.any λp=>(U.getD p.toNat 0).testBit b):=by
 rw[o1,Oj,Nat.testBit_or,Nat.testBit_two_pow];congr 2
 ·rcases b with _ | b
  ·rfl
  ·rw[Nat.testBit_succ];simp
 ·rw[Bool.eq_iff_iff,decide_eq_true_iff,beq_iff_eq];exact eq_comm
def xl(l:List α)(i j)(x y:α):(l.set i x).getD j y=if i=j/\i<l.length then x else l.getD j y:=by
 simp[List.getD_eq_getElem?_getD,List.getElem?_set];by_cases h:i=j
 ·by_cases a:j<l.length
  ·simp[h,a]
  ·simp[h,a]
 ·simp[h]
theorem sc:∀(l:List ak) (i:Nat) (U:dq) (j:Nat),j<3+i->(hA l i U).getD j 0=U.getD j 0
 | [],i,U,j,h=>by rw[hA]
 | x::r,i,U,j,h=>by
  rw[hA,sc r (i+1) _ j aa,xl,if_neg aa]
theorem zR(i):∀(l a:ak),k2 i a l=true->∀p∈l,3<=p/\p<3+i
 | [],_,_,p,c=>by cases c
 | x::r,a,h,p,c=>by
  rw[k2,Bool.and_eq_true,Bool.not_eq_true'] at h;rcases List.mem_cons.1 c with rfl | c
  ·have:=h.1;simp[Bool.or_eq_false_iff,decide_eq_false_iff_not] at this;omega
  ·exact zR i r _ h.2 p c
theorem Hc:∀(l:List ak) (i k:Nat),iB i l=true->k<l.length->k2 (i+k) [] (l.getD k default)=true
 | [],i,k,_,a=>by simp at a
 | x::r,i,0,h,_=>by rw[iB,Bool.and_eq_true] at h;exact h.1
 | x::r,i,k+1,h,a=>by
  rw[iB,Bool.and_eq_true] at h;have:=Hc r (i+1) k h.2 (by simpa using a);rw[show i+(k+1)=i+1+k from by omega];exact this
def zS(h:cx W):iB 0 W.parents=true:=by simp[cx,Bool.and_eq_true] at h;exact h.1.2
def pZ(h:cx W){i}(a:i<W.parents.length):∀p∈W.parents.getD i default,3<=p/\p<3+i:=by
 have:=Hc W.parents 0 i (zS h) a;rw[Nat.zero_add] at this;exact zR i _ _ this
def tA{l:List α}{p q}(h:∀x∈l,p x=q x):l.any p=l.any q:=by
 induction l with
 | nil=>rfl
 | cons x r a=>rw[List.any_cons,List.any_cons,h x dv,a λy c=>h y (.tail _ c)]
theorem zT:∀(l:List ak) (i:Nat) (U:dq) (k:Nat),3+i+l.length<=U.length->iB i l=true->k<l.length->∀b,((hA l i U).getD (3+(i+k)) 0).testBit b=(b==0 || b==3+(i+k) || (l.getD k default).any λp=>((hA l i U).getD p.toNat 0).testBit b)
 | [],i,U,k,a,_,c,b=>by simp at c
 | x::r,i,U,0,a,h,c,b=>by
  rw[iB,Bool.and_eq_true] at h;rw[hA,sc r (i+1) _ _ aa,xl,if_pos ⟨aa,by simp at a;omega⟩,Ol];show _=(b==0 || b==3+(i+0) || x.any _);rw[Nat.add_zero];congr 1;refine tA λp f=>?_;have:=zR i x [] h.1 p f;rw[sc r (i+1) _ _ aa,xl,if_neg aa]
 | x::r,i,U,k+1,a,h,c,b=>by
  rw[iB,Bool.and_eq_true] at h;have:=zT r (i+1) (U.set (3+i) (o1 U i x)) k (by simp at a ⊢;omega) h.2 (by simpa using c) b;rw[hA,show i+(k+1)=i+1+k from by omega];exact this
def oe(h:cx W){i}(a:i<W.parents.length)(b):gv W (3+i) b=(b==0 || b==3+i || (W.parents.getD i default).any λp=>gv W p.toNat b):=by
 have:=zT W.parents 0 ([1,3,5]++List.replicate 60 0) i (by have:=q0 h;simp;omega) (zS h) a b;rw[Nat.zero_add] at this;exact this
def q2{c}(a:c<3)(b):gv W c b=(b==0 || b==c):=by
 rw[gv,mF,sc _ _ _ _ aa];have:c=0\/c=1\/c=2:=by omega
 rcases this with rfl | rfl | rfl
 ·show Nat.testBit 1 b=_;rcases b with _ | b
  ·rfl
  ·rw[Nat.testBit_succ];simp
 ·show Nat.testBit 3 b=_;rcases b with _ | _ | b
  ·rfl
  ·rfl
  ·rw[Nat.testBit_succ,Nat.testBit_succ];simp
 ·show Nat.testBit 5 b=_;rcases b with _ | _ | _ | b
  ·rfl
  ·rfl
  ·rfl
  ·rw[Nat.testBit_succ,Nat.testBit_succ,Nat.testBit_succ];simp
def Hd(h:cx W){c}(f:c<3+W.parents.length):gv W c 0=true:=by
 by_cases a:c<3
 ·rw[q2 a];rfl
 ·rw[show c=3+(c - 3) from by omega,oe h aa];rfl
def ui(h:cx W){c}(f:c<3+W.parents.length):gv W c c=true:=by
 by_cases a:c<3
 ·rw[q2 a];simp
 ·have e:c=3+(c - 3):=by omega
  have:=oe h (i:=c - 3) aa c;rw[<-e] at this;rw[this];simp
theorem xm{W}(h:cx W):∀(n c:Nat),c<=n->c<3+W.parents.length->∀b,gv W c b=true->b<=c/\(b=0\/b=c\/3<=b)
 | n,c,f,m,b,a=>by
  by_cases g:c<3
  ·rw[q2 g] at a;simp at a;omega
  ·have e:c=3+(c - 3):=by omega
   rw[e,oe h aa] at a;simp[Bool.or_eq_true,beq_iff_eq,List.any_eq_true] at a;rcases a with (a | a) | ⟨p,j,a⟩
   ·omega
   ·omega
   ·have l:=pZ h aa p j
    match n,f with
    | 0,f=>omega
    | n+1,f=>
     have:=xm h n p.toNat aa aa b a;omega
theorem He{W}(h:cx W):∀(n a:Nat),a<=n->a<3+W.parents.length->∀b c,gv W a b=true->gv W b c=true->gv W a c=true
 | n,a,j,m,b,c,g,f=>by
  by_cases o:a<3
  ·rw[q2 o] at g;simp[Bool.or_eq_true,beq_iff_eq] at g;rcases g with rfl | rfl
   ·rw[q2 aa] at f;simp at f;subst f;exact Hd h m
   ·exact f
  ·have e:a=3+(a - 3):=by omega
   rw[e,oe h aa] at g ⊢;simp only[Bool.or_eq_true,beq_iff_eq,List.any_eq_true] at g ⊢;rcases g with (rfl | rfl) | ⟨p,l,g⟩
   ·rw[q2 aa] at f;simp at f;exact .inl (.inl f)
   ·rw[oe h aa] at f;simpa only[Bool.or_eq_true,beq_iff_eq,List.any_eq_true] using f
   ·have q:=pZ h aa p l
    match n,j with
    | 0,j=>omega
    | n+1,j=>exact .inr ⟨p,l,He h n p.toNat aa aa b c g f⟩
def Hf{a b}:iU W a b=gv W a.toNat b.toNat:=rfl
def og(o:cW)(i:Nat):ak->cW
 | []=>o
 | p::r=>og (o.set p.toNat (o.getD p.toNat false || o.getD i false)) i r
def q3(W:bt):Nat->cW->cW
 | 0,o=>o
 | k+1,o=>q3 W k (og o (3+k) (W.parents.getD k default))
def vf(W:bt)(c:Nat):cW:=q3 W (c - 2) ((List.replicate (3+W.parents.length) false).set c true)
theorem Hg(i):∀(l:ak) (o:cW),(og o i l).length=o.length
 | [],o=>rfl
 | p::r,o=>by rw[og,Hg i r,List.length_set]
theorem Om(W):∀(k:Nat) (o:cW),(q3 W k o).length=o.length
 | 0,o=>rfl
 | k+1,o=>by rw[q3,Om W k,Hg]
theorem On(i:Nat):∀(l:ak) (o:cW) (b:Nat),(∀p∈l,0<=p/\p<i)->i<o.length->(og o i l).getD b false=(o.getD b false || (o.getD i false && l.contains (b:Int)))
 | [],o,b,_,_=>by rw[og];simp
 | p::r,o,b,h,f=>by
  have j:=h p dv;rw[og,On i r _ b (λq g=>h q (.tail _ g)) (by rw[List.length_set];exact f),xl,xl,if_neg (c:=p.toNat=i/\_) aa,List.contains_cons];by_cases a:p.toNat=b
  ·rw[if_pos ⟨a,aa⟩,show ((b:Int)==p)=true from by rw[beq_iff_eq];omega,a];cases o.getD b false <;> cases o.getD i false <;> simp
  ·rw[if_neg (λe=>a e.1),show ((b:Int)==p)=false from by rw[beq_eq_false_iff_ne];omega];simp
theorem Oo{W}(h:cx W):∀(k:Nat) (o:cW),k<=W.parents.length->o.length=3+W.parents.length->∀b,0<b->(q3 W k o).getD b false=(o.getD b false || (List.range k).any λi=>o.getD (3+i) false && gv W (3+i) b)
 | 0,o,_,_,b,_=>by simp[q3]
 | k+1,o,r,m,b,q=>by
  have ck:=pZ h (i:=k) aa;have l:=λx=>On (3+k) (W.parents.getD k default) o x (λp j=>by have:=ck p j;omega) aa;rw[q3,Oo h k _ aa (by rw[Hg];exact m) b q,l,List.range_succ,List.any_append,List.any_cons,List.any_nil,Bool.or_false];rw[oe h aa,show (b==0)=false from by rw[beq_eq_false_iff_ne];omega,Bool.false_or];rw[Bool.eq_iff_iff];simp only[Bool.or_eq_true,Bool.and_eq_true,List.any_eq_true,List.mem_range,beq_iff_eq,l,List.contains_iff_mem];constructor
  ·rintro ((a | ⟨a,ao⟩) | ⟨i,g,a | ⟨a,ao⟩,c⟩)
   ·exact .inl a
   ·exact .inr (.inr ⟨a,.inr ⟨(b:Int),ao,KU⟩⟩)
   ·exact .inr (.inl ⟨i,g,a,c⟩)
   ·exact .inr (.inr ⟨a,.inr ⟨_,ao,by rw[Int.toNat_natCast];exact c⟩⟩)
  ·rintro (a | ⟨i,g,a,c⟩ | ⟨a,ao | ⟨p,f,c⟩⟩)
   ·exact .inl (.inl a)
   ·exact .inr ⟨i,g,.inl a,c⟩
   ·subst ao;exact .inl (.inl a)
   ·have:=ck p f;refine .inr ⟨p.toNat - 3,aa,.inr ⟨a,?_⟩,?_⟩
    ·rw[show ((3+(p.toNat - 3):Nat):Int)=p from by omega];exact f
    ·rw[show 3+(p.toNat - 3)=p.toNat from by omega];exact c
def Oq(W)(c):(vf W c).length=3+W.parents.length:=by rw[vf,Om];simp
def XZ(h:cx W){c}(l:3<=c)(g:c<3+W.parents.length){b}(j:0<b):(vf W c).getD b false=gv W c b:=by
 have f:∀x,((List.replicate (3+W.parents.length) false).set c true).getD x false=(c==x):=λx=>by
  rw[xl];by_cases e:c=x
  ·rw[if_pos ⟨e,by simpa using g⟩];simp[e]
  ·rw[if_neg (λq=>e q.1)];have:(c==x)=false:=by rw[beq_eq_false_iff_ne];exact e
   rw[this,List.getD_eq_getElem?_getD,List.getElem?_replicate];split <;> rfl
 rw[vf,Oo h (c - 2) _ aa aS b j,f,Bool.eq_iff_iff];simp only[Bool.or_eq_true,Bool.and_eq_true,List.any_eq_true,List.mem_range,beq_iff_eq,f];constructor
 ·rintro (rfl | ⟨i,m,e,a⟩)
  ·exact ui h g
  ·rw[e];exact a
 ·intro a;exact .inr ⟨c - 3,aa,aa,by rw[show 3+(c - 3)=c from by omega];exact a⟩
abbrev j9(o:cW):bl:=o.map λx=>ab.b x
def Ot(o):j9 o=(o.map λx=>[.b x]).flatten++[]:=by
 induction o with
 | nil=>rfl
 | cons x r a=>simpa using a
def xn(h:i<o.length):(j9 o)[0+i*1]? =some (.b (o.getD i false)):=by
 rw[Nat.zero_add,Nat.mul_one,List.getElem?_map,List.getD_eq_getElem?_getD,List.getElem?_eq_getElem h];rfl
def sd{o o'}{x}(h:i<o.length)(e:o.set i x=o'):(j9 o).take (0+i*1)++[.b x]++(j9 o).drop (0+i*1+1)=j9 o':=by
 subst e;rw[Nat.zero_add,Nat.mul_one,List.set_eq_take_append_cons_drop,if_pos h];simp
def X0{i j}{l:ak}(h:j<l.length):og o i (l.drop j)=og (o.set (l.getD j default).toNat (bif o.getD (l.getD j default).toNat false then true else o.getD i false)) i (l.drop (j+1)):=by
 rw[List.drop_eq_getElem_cons h,og,pX h,eM]
def se(h:i<o.length):Nat.ble (0+i*1+1) (j9 o).length=true:=by rw[Nat.ble_eq];simp;omega
def Ou(n):List.replicate n (.val (.bool false))=j9 (List.replicate n false):=by rw[j9,List.map_replicate]
def X1{l:ak}(h:i<l.length)(a:o0 W (l.getD i default)=false):l.all (o0 W)=false:=by
 rw[List.all_eq_false];exact⟨l.getD i default,hQ h,by rw[a];simp⟩
mutual
def ka:Fact->Nat
 | .mk _ _ _ _ _ kids=>kH kids+1
def kH:List Fact->Nat
 | []=>0
 | k::r=>max (ka k) (kH r)
end
def X2(f):ka f=kH f.kids+1:=by cases f;rw[ka];rfl
theorem Ov(x):∀l:List Fact,kH (l++[x])=max (kH l) (ka x)
 | []=>by simp[kH]
 | k::r=>by rw[List.cons_append,kH,kH,Ov x r,Nat.max_assoc]
mutual
theorem Ow:∀f:Fact,ka f<=cU f
 | .mk _ _ _ _ _ kids=>by rw[ka,cU];have:=Ox kids;omega
theorem Ox:∀l:List Fact,kH l<=fk l
 | []=>by simp[kH]
 | k::r=>by rw[kH,fk];have:=Ow k;have:=Ox r;omega
end
def Oy{f k}(h:k∈f.kids):cU k<cU f:=by
 have:∀l:List Fact,k∈l->cU k<=fk l:=by
  intro l
  induction l with
  | nil=>intro h;cases h
  | cons y r a=>intro h;rw[fk];rcases List.mem_cons.1 h with rfl | h;omega;have:=a h;omega
 have:=this f.kids h;rw[pY f];omega
def vg(W:bt)(f:Fact)(eJ:Int):Prop:=1<=f.op/\f.op<=7/\eJ=j6 f.op/\(dm f=true->kE W f=true)
def X3(c:f.op=2)(a:(bif f.n !=0 then true else !jf W f.cls)=false):vg W f 0:=by
 rw[eM] at a;simp[Bool.or_eq_false_iff,bne_eq_false_iff_eq,Bool.not_eq_false'] at a;exact⟨aa,aa,by rw[c];rfl,λ_=>by simp[kE,c,a]⟩
def X4(c:f.op=2)(a:(bif f.n !=0 then true else !jf W f.cls)=true):gN W f=false:=by
 rw[eM] at a;have g:((f.n==0) && jf W f.cls)=false:=by
  simp[Bool.or_eq_true,bne_iff_ne,Bool.not_eq_true'] at a;rw[Bool.and_eq_false_iff,beq_eq_false_iff_ne];exact a
 have h:dm f=true:=by simp[dm,c]
 rw[gN,if_pos h,kE,if_pos c,g];simp
def Oz(c:f.op=3\/f.op=4)(a:(bif bif f.cls !=0 then true else decide (f.n< -1000000000) then true else decide (1000000000<f.n))=false):vg W f 0:=by
 rw[eM,eM] at a;simp[Bool.or_eq_false_iff,bne_eq_false_iff_eq,decide_eq_false_iff_not] at a;refine⟨aa,aa,?_,λ_=>?_⟩
 ·rcases c with e | e <;> rw[e] <;> rfl
 ·rw[kE,if_neg aa];simp[Bool.and_eq_true,beq_iff_eq,decide_eq_true_eq];omega
def OA(h:f.op=3\/f.op=4)(a:(bif bif f.cls !=0 then true else decide (f.n< -1000000000) then true else decide (1000000000<f.n))=true):gN W f=false:=by
 rw[eM,eM] at a;simp[Bool.or_eq_true,bne_iff_ne,decide_eq_true_eq] at a;have c:kE W f=false:=by
  rw[kE,if_neg aa];simp[Bool.and_eq_false_iff,beq_eq_false_iff_ne,decide_eq_false_iff_not];omega
 have g:dm f=true:=by simp[dm,Bool.and_eq_true,decide_eq_true_eq];omega
 rw[gN,if_pos g,c];simp
def C2(h:f.op=1\/f.op=5\/f.op=6\/f.op=7)(a:eJ=j6 f.op):vg W f eJ:=⟨aa,aa,a,λbr=>by simp[dm,Bool.and_eq_true,decide_eq_true_eq] at br;omega⟩
def X5(h:f.op≠1/\f.op≠2/\f.op≠3/\f.op≠4/\f.op≠5/\f.op≠6/\f.op≠7):gN W f=false:=by
 have:(decide (1<=f.op) && decide (f.op<=7))=false:=by simp[Bool.and_eq_false_iff,decide_eq_false_iff_not];omega
 rw[gN,this];simp
def X6(h:jk f):jl W f=true:=by
 simp only[jk,Bool.not_eq_true',Bool.or_eq_false_iff,bne_eq_false_iff_eq,decide_eq_false_iff_not] at h;have a:f.path= []:=List.eq_nil_of_length_eq_zero aa;simp[jl,h.1.1.1,a,o2]
def OB(h:vg W f eJ):gN W f=((f.kids.length:Int)==eJ && jl W f && (dm f || jk f)):=by
 obtain⟨g,c,rfl,j⟩:=h;rw[gN,decide_eq_true g,decide_eq_true c,Bool.true_and,Bool.true_and,Bool.and_assoc];congr 1;by_cases a:dm f=true
 ·rw[if_pos a,j a,a];simp
 ·rw[if_neg a,Bool.eq_false_iff.2 a,Bool.false_or];cases ck:jk f with
  | false=>simp
  | true=>rw[X6 ck];rfl
def xo(h:gN W f=false):dS W f=false:=by
 cases hw:dS W f with
 | false=>rfl
 | true=>rw[(mK.1 hw).1] at h;cases h
def X7(a:i<f.kids.length)(h:dS W (f.kids.getD i default)=false):dS W f=false:=by
 cases hw:dS W f with
 | false=>rfl
 | true=>rw[(mK.1 hw).2 _ (hQ a)] at h;cases h
def X8(h:gN W f)(a:f.kids.all (dS W)=true):dS W f=true:=mK.2 ⟨h,List.all_eq_true.1 a⟩
def X9(h:vg W f eJ):(f.op==2 || f.op==3 || f.op==4)=dm f:=by
 rw[dm,Bool.eq_iff_iff];simp[Bool.or_eq_true,beq_iff_eq,Bool.and_eq_true,decide_eq_true_eq];omega
def OC:(bif bif bif (f.kids.length:Int) !=eJ then true else decide (f.arg<0) then true else decide (3<=f.arg) then true else !o2 W f.path)= !((f.kids.length:Int)==eJ && jl W f):=by
 rw[eM,eM,eM,jl,bne];show (((_ || decide (f.arg<0)) || decide (3<=f.arg)) || _)= !(_ && !((decide (f.arg<0) || decide (3<=f.arg)) || _));generalize ((f.kids.length:Int)==eJ)=a;generalize decide (f.arg<0)=b;generalize decide (3<=f.arg)=c;generalize o2 W f.path=d;cases a <;> cases b <;> cases c <;> cases d <;> rfl
def Ya:(bif bif bif f.arg !=0 then true else decide (0<(f.path.length:Int)) then true else f.cls !=0 then true else f.n !=0)= !jk f:=by
 rw[eM,eM,eM,jk,Bool.not_not]
def OD(a:vg W f eJ)(c:((f.kids.length:Int)==eJ && jl W f)=true):(bif !(f.op==2 || f.op==3 || f.op==4) then bif bif bif f.arg !=0 then true else decide (0<(f.path.length:Int)) then true else f.cls !=0 then true else f.n !=0 else false)= !gN W f:=by
 rw[Ya,X9 a,OB a,c];cases dm f <;> cases jk f <;> rfl
mutual
theorem OE(W):∀(f:Fact) (left a:Int),dS W f=true->(cU f:Int)<=left->(ka f:Int)<=a->fz W f left a=(true,left - cU f)
 | .mk op arg path cls n kids,left,a,h,l,q=>by
  have j:=mK.1 h;rw[cU] at l ⊢;rw[ka] at q;rw[fz];have o:iQ (.mk op arg path cls n kids) (left - 1) a=false:=by
   have c:=j.1;simp[gN,Bool.and_eq_true,decide_eq_true_eq,beq_iff_eq] at c;simp[iQ,Bool.or_eq_false_iff,decide_eq_false_iff_not,bne_eq_false_iff_eq,beq_eq_false_iff_ne];refine⟨⟨⟨lz,aa⟩,aa⟩,c.1.2⟩
  rw[if_neg (by rw[o];simp)];have c:=j.1;rw[gN,Bool.and_eq_true] at c;by_cases g:dm (.mk op arg path cls n kids)=true
  ·have m:kids= []:=zQ j.1 g;rw[if_pos g] at c ⊢;rw[c.2,m];simp[fk]
  ·rw[if_neg g] at c ⊢;rw[if_pos c.2];rw[OF W kids (left - 1) (a - 1) (by rw[dS,Bool.and_eq_true] at h;exact h.2) aa aa];congr 1;omega
theorem OF(W):∀(l:List Fact) (left a:Int),q1 W l=true->(fk l:Int)<=left->(kH l:Int)<=a->ek W l left a=(true,left - fk l)
 | [],left,a,_,_,_=>by rw[ek,fk];simp
 | k::r,left,a,h,f,c=>by
  rw[q1,Bool.and_eq_true] at h;rw[fk] at f ⊢;rw[kH] at c;rw[ek,OE W k left a h.1 aa aa,if_pos rfl,OF W r _ a h.2 aa aa];congr 1;omega
end
mutual
theorem OG(W):∀(f:Fact) (left a:Int),0<=a->(fz W f left a).1=true->(ka f:Int)<=a
 | .mk op arg path cls n kids,left,a,q,h=>by
  have o:=(C1 W _ _ _ h).1;rw[fz] at h;rw[ka];by_cases c:iQ (.mk op arg path cls n kids) (left - 1) a=true
  ·rw[if_pos c] at h;cases h
  ·rw[if_neg c] at h;have l:1<=a:=by
    simp[iQ,Bool.not_eq_true,Bool.or_eq_false_iff,beq_eq_false_iff_ne] at c;omega
   by_cases g:dm (.mk op arg path cls n kids)=true
   ·have m:kids= []:=zQ (mK.1 o).1 g;subst m;simp[kH];omega
   ·rw[if_neg g] at h;by_cases j:jk (.mk op arg path cls n kids)=true
    ·rw[if_pos j] at h;have:=OH W kids (left - 1) (a - 1) aa h;omega
    ·rw[if_neg j] at h;cases h
theorem OH(W):∀(l:List Fact) (left c:Int),0<=c->(ek W l left c).1=true->(kH l:Int)<=c
 | [],left,c,g,_=>by rw[kH];omega
 | k::r,left,c,g,h=>by
  rw[ek] at h;rw[kH];by_cases f:(fz W k left c).1=true
  ·rw[if_pos f] at h;have a:=OG W k left c g f;have b:=OH W r _ c g h;omega
  ·rw[if_neg f] at h;exact absurd h f
end
def Yb(W)(f):(decide (cU f<=24) && decide (ka f<=12) && dS W f)=lA W f:=by
 rw[Bool.eq_iff_iff];simp[Bool.and_eq_true,decide_eq_true_eq];constructor
 ·rintro⟨⟨a,c⟩,g⟩;rw[lA,OE W f 24 12 g aa aa]
 ·intro h;have a:=tz h;have c:=OG W f 24 12 aa h;exact⟨⟨a.2,aa⟩,a.1⟩
end Go.Eng.Fc

namespace Go.Eng.dN
open Go.Eng.Fc
structure cI where
 bz:cW
 params:List ak
 nodes:ak
 av:ak
abbrev ab.du(l:cW):ab:=.ai 1 (l.map λb=>[ab.b b])
abbrev ns(t:cI):bl:=[ab.du t.bz,ab.bm t.params,ab.ints t.nodes,ab.ints t.av]
abbrev ab.dx(t:cI):ab:=.agg (ns t)
def aJ(p:Prog):Nat:=3+p.aE.length
def ct(m:Nat)(k:Int):Bool:=decide (0<=k) && decide (k%2=0) && decide (k<2^m)
def tB(p:Prog)(m:Nat)(t:cI)(i:Nat):Bool:=((t.params.getD i default).length:Int)==p.cT.getD (p.methods.getD i default).gen.toNat default && (t.params.getD i default).all (ct m)
def iV(p:Prog)(t:cI):Bool:=
 decide (t.bz.length=p.methods.length) && decide (t.params.length=p.methods.length) && decide (t.nodes.length=p.nodes.length) && decide ((t.av.length:Int)=p.av) &&
 (List.range t.params.length).all (tB p (aJ p) t) && t.nodes.all (ct (aJ p)) && t.av.all (ct (aJ p))
def nt(p:Prog)(t:cI):Bool:=(bw p).isSome && iV p t
def dT(p:Prog)(c:Nat)(s:Int):Bool:=decide (3<=c) && (cu p c).contains s
def nu(p:Prog)(t:cI)(s:Int)(k:Nat×Bool):Nat×Bool:=
 (if(List.range (aJ p)).any (λc=>k.1.testBit c && dT p c s) then (t.av.getD s.toNat default).toNat else 0,k.2 || (List.range (aJ p)).any λc=>k.1.testBit c && !dT p c s)
def kb(p:Prog)(t:cI)(c:Int)(path:ak):Nat×Bool:=path.foldl (λk s=>nu p t s k) (2^c.toNat,false)
mutual
def di(p:Prog)(t:cI)(l:ak):Fact->Bool×Bool
 | .mk op arg path cls n kids=>
  if op=1 then (true,false)
  else if op=5 then ((sf p t l kids).getD 0 default).swap
  else if op=6 then
   let x:=(sf p t l kids).getD 0 default;let y:=(sf p t l kids).getD 1 default
   (x.1 && y.1,x.1 && y.2 || x.2 && y.1 || x.2 && y.2)
  else if op=7 then
   let x:=(sf p t l kids).getD 0 default;let y:=(sf p t l kids).getD 1 default
   (x.1 && y.1 || x.1 && y.2 || x.2 && y.1,x.2 && y.2)
  else
   let k:=kb p t (l.getD arg.toNat default) path
   if op=2 then ((List.range (aJ p)).any (λc=>k.1.testBit c && iU (bS p) c cls),k.2 || (List.range (aJ p)).any λc=>k.1.testBit c && !iU (bS p) c cls)
   else (k.1.testBit 1,k.2 || decide (k.1≠0))
def sf(p:Prog)(t:cI)(l:ak):List Fact->List (Bool×Bool)
 | []=>[]
 | f::r=>di p t l f::sf p t l r
end
theorem OI(p)(t)(l):∀r:List Fact,sf p t l r=r.map (di p t l)
 | []=>rfl
 | f::r=>by rw[sf,OI p t l r];rfl
end Go.Eng.dN

namespace Go.Proofs.YtodccgailpkgeaaGreat
open Go.Proofs.Tryz
open Go.Eng
open Go.Eng.Fc
open Go.Eng.dN
open Go.ChangeShapes Go.WideShapes
variable{ha fe:ak}{k:Nat}
def laidOut:laidOutB prog=true:=by kernel_rfl
instance:cX prog 3 (false,1):=⟨ay⟩
instance:cX prog 4 (false,1):=⟨ay⟩
instance:cX prog 22 (false,1):=⟨ay⟩
instance:cX prog 23 (false,1):=⟨ay⟩
instance:cX prog 24 (false,1):=⟨ay⟩
instance:cX prog 25 (false,1):=⟨ay⟩
instance:cX prog 27 (true,6):=⟨ay⟩
instance:cX prog 28 (false,1):=⟨ay⟩
instance:cX prog 29 (false,1):=⟨ay⟩
instance:cX prog 31 (true,4):=⟨ay⟩
instance:cX prog 50 (false,1):=⟨ay⟩
instance:cX prog 52 (true,3):=⟨ay⟩
instance:cX prog 53 (false,1):=⟨ay⟩
instance:cX prog 55 (true,3):=⟨ay⟩
instance:cX prog 56 (false,1):=⟨ay⟩
instance:cX prog 57 (false,1):=⟨ay⟩
instance:cX prog 58 (false,1):=⟨ay⟩
instance:cX prog 60 (true,6):=⟨ay⟩
instance:cX prog 62 (true,9):=⟨ay⟩
instance:cX prog 65 (false,1):=⟨ay⟩
instance:cX prog 75 (false,1):=⟨ay⟩
instance:cX prog 86 (true,2):=⟨ay⟩
instance:cX prog 87 (false,1):=⟨ay⟩
instance:cX prog 88 (false,1):=⟨ay⟩
instance:cX prog 89 (false,1):=⟨ay⟩
instance:cX prog 90 (false,1):=⟨ay⟩
instance:cX prog 96 (false,1):=⟨ay⟩
instance:cX prog 101 (true,2):=⟨ay⟩
instance:cX prog 104 (false,1):=⟨ay⟩
instance:cX prog 128 (false,1):=⟨ay⟩
instance:cX prog 142 (true,9):=⟨ay⟩
instance:cX prog 146 (false,1):=⟨ay⟩
instance:cX prog 169 (true,2):=⟨ay⟩
instance:cX prog 180 (false,1):=⟨ay⟩
instance:cX prog 183 (false,1):=⟨ay⟩
instance:cX prog 184 (false,1):=⟨ay⟩
instance:cX prog 190 (false,1):=⟨ay⟩
instance:cX prog 197 (false,1):=⟨ay⟩
instance:cX prog 198 (true,2):=⟨ay⟩
instance:cX prog 205 (true,2):=⟨ay⟩
instance:cX prog 213 (false,1):=⟨ay⟩
instance:cX prog 221 (false,1):=⟨ay⟩
instance:cX prog 222 (false,1):=⟨ay⟩
instance:cX prog 230 (false,1):=⟨ay⟩
instance:cX prog 248 (true,1):=⟨ay⟩
instance:cX prog 260 (true,6):=⟨ay⟩
instance:cX prog 299 (false,1):=⟨ay⟩
instance:cX prog 300 (false,1):=⟨ay⟩
instance:cX prog 301 (false,1):=⟨ay⟩
instance:cX prog 303 (true,7):=⟨ay⟩
instance:cX prog 307 (false,1):=⟨ay⟩
instance:cX prog 312 (false,1):=⟨ay⟩
instance:cX prog 318 (true,4):=⟨ay⟩
instance:cK prog 27 0 0:=⟨ay⟩
instance:cK prog 27 1 1:=⟨ay⟩
instance:cK prog 27 2 2:=⟨ay⟩
instance:cK prog 27 3 3:=⟨ay⟩
instance:cK prog 27 4 4:=⟨ay⟩
instance:cK prog 27 5 5:=⟨ay⟩
instance:cK prog 31 0 0:=⟨ay⟩
instance:cK prog 31 1 1:=⟨ay⟩
instance:cK prog 31 2 2:=⟨ay⟩
instance:cK prog 31 3 3:=⟨ay⟩
instance:cK prog 52 0 0:=⟨ay⟩
instance:cK prog 52 1 1:=⟨ay⟩
instance:cK prog 52 2 2:=⟨ay⟩
instance:cK prog 55 0 0:=⟨ay⟩
instance:cK prog 55 1 1:=⟨ay⟩
instance:cK prog 55 2 2:=⟨ay⟩
instance:cK prog 60 0 0:=⟨ay⟩
instance:cK prog 60 1 1:=⟨ay⟩
instance:cK prog 60 2 2:=⟨ay⟩
instance:cK prog 60 3 3:=⟨ay⟩
instance:cK prog 60 4 4:=⟨ay⟩
instance:cK prog 60 5 5:=⟨ay⟩
instance:cK prog 62 0 0:=⟨ay⟩
instance:cK prog 62 1 1:=⟨ay⟩
instance:cK prog 62 2 2:=⟨ay⟩
instance:cK prog 62 3 8:=⟨ay⟩
instance:cK prog 86 0 0:=⟨ay⟩
instance:cK prog 86 1 1:=⟨ay⟩
instance:cK prog 92 0 0:=⟨ay⟩
instance:cK prog 92 1 4:=⟨ay⟩
instance:cK prog 92 3 12:=⟨ay⟩
instance:cK prog 92 4 13:=⟨ay⟩
instance:cK prog 92 5 14:=⟨ay⟩
instance:cK prog 92 6 15:=⟨ay⟩
instance:cK prog 92 7 16:=⟨ay⟩
instance:cK prog 92 8 17:=⟨ay⟩
instance:cK prog 101 0 0:=⟨ay⟩
instance:cK prog 101 1 1:=⟨ay⟩
instance:cK prog 142 0 0:=⟨ay⟩
instance:cK prog 142 1 1:=⟨ay⟩
instance:cK prog 142 2 4:=⟨ay⟩
instance:cK prog 142 3 7:=⟨ay⟩
instance:cK prog 142 4 8:=⟨ay⟩
instance:cK prog 152 0 0:=⟨ay⟩
instance:cK prog 152 1 6:=⟨ay⟩
instance:cK prog 169 0 0:=⟨ay⟩
instance:cK prog 169 1 1:=⟨ay⟩
instance:cK prog 187 0 0:=⟨ay⟩
instance:cK prog 187 1 2:=⟨ay⟩
instance:cK prog 205 0 0:=⟨ay⟩
instance:cK prog 205 1 1:=⟨ay⟩
instance:cK prog 224 0 0:=⟨ay⟩
instance:cK prog 224 1 1:=⟨ay⟩
instance:cK prog 224 2 2:=⟨ay⟩
instance:cK prog 256 0 0:=⟨ay⟩
instance:cK prog 256 1 6:=⟨ay⟩
instance:cK prog 256 2 8:=⟨ay⟩
instance:cK prog 260 0 0:=⟨ay⟩
instance:cK prog 260 1 2:=⟨ay⟩
instance:cK prog 260 2 3:=⟨ay⟩
instance:cK prog 260 3 4:=⟨ay⟩
instance:cK prog 260 4 5:=⟨ay⟩
instance:cK prog 303 0 0:=⟨ay⟩
instance:cK prog 303 1 6:=⟨ay⟩
instance:cK prog 314 0 0:=⟨ay⟩
instance:cK prog 314 1 1:=⟨ay⟩
instance:cK prog 318 1 1:=⟨ay⟩
instance:cK prog 318 2 2:=⟨ay⟩
instance:cK prog 324 0 0:=⟨ay⟩
instance:cK prog 324 1 1:=⟨ay⟩
instance:cK prog 324 2 2:=⟨ay⟩
instance:cK prog 326 0 0:=⟨ay⟩
instance:cK prog 326 1 3:=⟨ay⟩
instance:cK prog 326 2 4:=⟨ay⟩
instance:cK prog 326 3 5:=⟨ay⟩
instance:cK prog 326 4 6:=⟨ay⟩
instance:cK prog 326 5 7:=⟨ay⟩
instance:eC prog 22 3:=⟨ay⟩
instance:eC prog 23 1:=⟨ay⟩
instance:eC prog 24 9:=⟨ay⟩
instance:eC prog 25 3:=⟨ay⟩
instance:eC prog 28 1:=⟨ay⟩
instance:eC prog 29 1:=⟨ay⟩
instance:eC prog 53 2:=⟨ay⟩
instance:eC prog 58 6:=⟨ay⟩
instance:eC prog 87 1:=⟨ay⟩
instance:eC prog 88 1:=⟨ay⟩
instance:eC prog 221 1:=⟨ay⟩
instance:eC prog 236 1:=⟨ay⟩
instance:eC prog 299 7:=⟨ay⟩
instance:uC prog 140 (3,1):=⟨ay⟩
instance:uC prog 185 (63,1):=⟨ay⟩
instance:uC prog 198 (2,1):=⟨ay⟩
instance:uC prog 248 (1,1):=⟨ay⟩
instance:hf prog 3 [aX]:=⟨ay⟩
instance:hf prog 4 [.bool false]:=⟨ay⟩
instance:hf prog 23 [aL]:=⟨ay⟩
instance:hf prog 27 [aL,aX,aL,aL,aL,aX]:=⟨ay⟩
instance:hf prog 31 [aL,aL,aL,aL]:=⟨ay⟩
instance:hf prog 52 [aX,aX,aL]:=⟨ay⟩
instance:hf prog 55 [aL,aL,aL]:=⟨ay⟩
instance:hf prog 60 [aX,aX,aL,aX,aX,aL]:=⟨ay⟩
instance:hf prog 62 [aX,aX,aX,aX,aL,aX,aX,aL,aX]:=⟨ay⟩
instance:hf prog 65 [.nilFunc]:=⟨ay⟩
instance:hf prog 75 [.pointer none]:=⟨ay⟩
instance:hf prog 86 [aL,aL]:=⟨ay⟩
instance:hf prog 101 [aX,aX]:=⟨ay⟩
instance:hf prog 104 [.int .u8 0]:=⟨ay⟩
instance:hf prog 142 [aX,aX,aX,aL,aX,aX,aX,aL,aX]:=⟨ay⟩
instance:hf prog 169 [aX,aX]:=⟨ay⟩
instance:hf prog 190 [.map none]:=⟨ay⟩
instance:hf prog 198 [aX,aX]:=⟨ay⟩
instance:hf prog 205 [aX,.bool false]:=⟨ay⟩
instance:hf prog 213 [.nilFunc]:=⟨ay⟩
instance:hf prog 248 [c1]:=⟨ay⟩
instance:hf prog 260 [aL,aL,aL,aX,aL,.bool false]:=⟨ay⟩
instance:hf prog 301 [.nilFunc]:=⟨ay⟩
instance:hf prog 303 [aX,aX,aL,aX,aX,aL,.bool false]:=⟨ay⟩
instance:hf prog 318 [aX,aX,aX,aX]:=⟨ay⟩
instance:Fi prog 4:=⟨ay⟩
instance:BJ prog 3 .i64:=⟨ay⟩
instance:BJ prog 210 .u64:=⟨ay⟩
def Yc:Go.Maps.Keyed prog 318:=Go.Maps.Keyed.of_law (deep_law_laid laidOut (m:=3) aa (of_decide_eq_true ay) ay ay)
instance:y2 prog 312 (318,321):=⟨ay,Yc,ay⟩
instance:hs prog 27 ([aL,aX,aL,aL,aL,aX],[(0,1),(1,1),(2,1),(3,1),(4,1),(5,1)]):=⟨ay⟩
instance:hs prog 31 ([aL,aL,aL,aL],[(0,1),(1,1),(2,1),(3,1)]):=⟨ay⟩
instance:hs prog 52 ([aX,aX,aL],[(0,1),(1,1),(2,1)]):=⟨ay⟩
instance:hs prog 55 ([aL,aL,aL],[(0,1),(1,1),(2,1)]):=⟨ay⟩
instance:hs prog 60 ([aX,aX,aL,aX,aX,aL],[(0,1),(1,1),(2,1),(3,1),(4,1),(5,1)]):=⟨ay⟩
instance:hs prog 62 ([aX,aX,aX,aX,aL,aX,aX,aL,aX],[(0,1),(1,1),(2,6),(8,1)]):=⟨ay⟩
instance:hs prog 86 ([aL,aL],[(0,1),(1,1)]):=⟨ay⟩
instance:hs prog 92 ([aL,aL,aL,aL,aL,aX,aL,aL,aL,aX,aL,aL,aL,aL,aL,.map none,.map none,.bool false],[(0,4),(4,6),(10,2),(12,1),(13,1),(14,1),(15,1),(16,1),(17,1)]):=⟨ay⟩
instance:hs prog 101 ([aX,aX],[(0,1),(1,1)]):=⟨ay⟩
instance:hs prog 142 ([aX,aX,aX,aL,aX,aX,aX,aL,aX],[(0,1),(1,3),(4,3),(7,1),(8,1)]):=⟨ay⟩
instance:hs prog 152 ([aL,aX,aL,aL,aL,aX,aL,aL,aL,aL,aL],[(0,6),(6,4),(10,1)]):=⟨ay⟩
instance:hs prog 169 ([aX,aX],[(0,1),(1,1)]):=⟨ay⟩
instance:hs prog 176 ([],[]):=⟨ay⟩
instance:hs prog 187 ([aL,aL,c1,c1,c1,c1,c1,c1,c1,c1,c1,c1,c1,c1,c1,c1,c1,c1,c1,c1,c1,c1,c1,c1,c1,c1,c1,c1,c1,c1,c1,c1,c1,c1,c1,c1,c1,c1,c1,c1,c1,c1,c1,c1,c1,c1,c1,c1,c1,c1,c1,c1,c1,c1,c1,c1,c1,c1,c1,c1,c1,c1,c1,c1,c1],[(0,2),(2,63)]):=⟨ay⟩
instance:hs prog 198 ([aX,aX],[(0,1),(1,1)]):=⟨ay⟩
instance:hs prog 205 ([aX,.bool false],[(0,1),(1,1)]):=⟨ay⟩
instance:hs prog 207 ([],[]):=⟨ay⟩
instance:hs prog 224 ([aL,aL,.map none],[(0,1),(1,1),(2,1)]):=⟨ay⟩
instance:hs prog 248 ([c1],[(0,1)]):=⟨ay⟩
instance:hs prog 256 ([aL,aX,aL,aL,aL,aX,aL,aL,.map none],[(0,6),(6,2),(8,1)]):=⟨ay⟩
instance:hs prog 260 ([aL,aL,aL,aX,aL,.bool false],[(0,2),(2,1),(3,1),(4,1),(5,1)]):=⟨ay⟩
instance:hs prog 303 ([aX,aX,aL,aX,aX,aL,.bool false],[(0,6),(6,1)]):=⟨ay⟩
instance:hs prog 305 ([],[]):=⟨ay⟩
instance:hs prog 314 ([.pointer none,.map none],[(0,1),(1,1)]):=⟨ay⟩
instance:hs prog 318 ([aX,aX,aX,aX],[(0,1),(1,1),(2,2)]):=⟨ay⟩
instance:hs prog 324 ([aX,aX,aL],[(0,1),(1,1),(2,1)]):=⟨ay⟩
instance:hs prog 326 ([aX,aX,aL,c1,c1,.bool false,.bool false,aL],[(0,3),(3,1),(4,1),(5,1),(6,1),(7,1)]):=⟨ay⟩
instance:jY prog 22 (3,[aL,aL,aL]):=⟨ay⟩
instance:jY prog 23 (1,[aX]):=⟨ay⟩
instance:jY prog 24 (9,[aX,aX,aX,aX,aL,aX,aX,aL,aX]):=⟨ay⟩
instance:jY prog 25 (3,[aX,aX,aL]):=⟨ay⟩
instance:jY prog 28 (1,[.bool false]):=⟨ay⟩
instance:jY prog 29 (1,[aL]):=⟨ay⟩
instance:jY prog 53 (2,[aX,aX]):=⟨ay⟩
instance:jY prog 58 (6,[aX,aX,aL,aX,aX,aL]):=⟨ay⟩
instance:jY prog 87 (1,[aL]):=⟨ay⟩
instance:jY prog 88 (1,[.map none]):=⟨ay⟩
instance:jY prog 221 (1,[c1]):=⟨ay⟩
instance:jY prog 236 (1,[aL]):=⟨ay⟩
instance:jY prog 299 (7,[aX,aX,aL,aX,aX,aL,.bool false]):=⟨ay⟩
instance:fF prog 23 (3,1,8):=⟨ay⟩
instance:fF prog 28 (4,1,1):=⟨ay⟩
instance:fF prog 29 (23,1,24):=⟨ay⟩
instance:fF prog 53 (101,2,16):=⟨ay⟩
instance:fF prog 58 (60,6,80):=⟨ay⟩
instance:fF prog 87 (28,1,24):=⟨ay⟩
instance:fF prog 88 (128,1,8):=⟨ay⟩
instance:fF prog 221 (248,1,8):=⟨ay⟩
instance:fF prog 236 (58,1,24):=⟨ay⟩
instance:fF prog 299 (303,7,88):=⟨ay⟩
def mixed:prog.follows .mixedOrders=true:=by kernel_rfl
section
variable{H:Type}{enc:TypeId×Value->H}{w:World}{base:Nat}{spare:Nat->Bool}{held:Bool}{bB:DataW H->Nat}
def tC(a:lu bB)(n):lv enc prog w base spare held bB n 3 (λq:Int=>[.i q]) (λ_ _=>True):=(y8 underlying3).b
def C3(f:lu bB)(n):lv enc prog w base spare held bB n 23 (λl:ak=>[.ints l]) (λ(l:List _) (b:Nat)=>l.length<=b):=λfuel o j x h=>by
 obtain⟨l,g,m⟩:=y9 (n:=n) f (k:=1) (Q:=λ_ _=>True) (λy a b=>λ_ _=>trivial) underlying23 ay aa (λ_=>rfl) (tC f n) fuel aa j x h;exact⟨l,g,m.1⟩
def Yd(a:lu bB)(n):lv enc prog w base spare held bB n 50 (λq:Int=>[.i q]) (λ_ _=>True):=(y8 underlying50).b
def Ye(a:lu bB)(n):lv enc prog w base spare held bB n 56 (λq:Int=>[.i q]) (λ_ _=>True):=(y8 underlying56).b
def Yf(l:lu bB)(n):lv enc prog w base spare held bB n 101 (qW) (λ_ _=>True):=λfuel B r x h=>by
 obtain⟨z,m,rfl,A,c,hn,f⟩:=DataW.trod_struct underlying101 h;have c:r.length=2:=c.trans ay;have j:=f 0 _ rfl;have g:=f 1 _ rfl;rw[List.getElem?_eq_getElem pw] at j g;obtain⟨o,q,v⟩:=tC l m m fs _ _ j;obtain⟨s,aC,t⟩:=tC l m m fs _ _ g;refine⟨⟨o,s⟩,?_,trivial⟩;have:=(k0 (a:=0) (n:=1) (m:=1) q aC);rwa [List.drop_zero,List.take_of_length_le aa] at this
def Yg(f:lu bB)(n):lv enc prog w base spare held bB n 53 (λl:List (Int×Int)=>[.ai 2 (l.map qW)]) (λ_ _=>True):=λfuel m j x h=>by
 obtain⟨l,g,_⟩:=y9 (n:=n) f (k:=2) (Q:=λ_ _=>True) (λy a b=>λ_ _=>trivial) underlying53 ay aa (λ_=>rfl) (Yf f n) fuel aa j x h;exact⟨l,g,trivial⟩
def Yh(g:lu bB)(n):lv enc prog w base spare held bB n 55 (o3) (λ(c:h9) (b:Nat)=>c.parents.length<=b):=λfuel J H x h=>by
 obtain⟨A,m,rfl,C,v,hn,o⟩:=DataW.trod_struct underlying55 h;have v:H.length=3:=v.trans ay;have B:=o 0 _ rfl;have ae:=o 1 _ rfl;have f:=o 2 _ rfl;rw[List.getElem?_eq_getElem pw] at B ae f;obtain⟨t,G,r⟩:=C3 g m m fs _ _ B;obtain⟨D,aC,z⟩:=C3 g m m fs _ _ ae;obtain⟨E,F,I⟩:=Yg g m m fs _ _ f;have s:bB (A[0]'pw).1<=bB x.1:=by rw[C];exact g.aW _ _ zt
 replace r:(λ(l:List _) (b:Nat)=>l.length<=b) t (bB x.1):=(λae f=>Nat.le_trans f ae) s r;have q:bB (A[1]'pw).1<=bB x.1:=by rw[C];exact g.aW _ _ zt
 replace z:(λ(l:List _) (b:Nat)=>l.length<=b) D (bB x.1):=(λae f=>Nat.le_trans f ae) q z;refine⟨⟨t,D,E⟩,?_,r⟩;have:=(k0 (a:=0) (n:=2) (m:=1) (k0 (a:=0) (n:=1) (m:=1) G aC) F);rwa [List.drop_zero,List.take_of_length_le aa] at this
def Yi(g:lu bB)(n):lv enc prog w base spare held bB n 22 (λl:List h9=>[.ai 3 (l.map o3)]) (λ(l:List h9) (b:Nat)=>l.length<=b/\∀c∈l,c.parents.length<=b):=λfuel s m x h=>by
 obtain⟨l,j,q⟩:=y9 (n:=n) g (k:=3) (Q:=λ(c:h9) (b:Nat)=>c.parents.length<=b) (λy a b=>λae o=>Nat.le_trans o ae) underlying22 ay aa (λ_=>rfl) (Yh g n) fuel aa m x h;exact⟨l,j,q⟩
theorem OJ:∀n:Nat,Reads enc prog w base spare held n 60 fy
 | 0,f,H,t,x,h=>by
  obtain⟨F,m,rfl,_⟩:=DataW.trod_struct underlying60 h;omega
 | n+1,f,H,t,x,h=>by
  obtain⟨F,m,rfl,_,l,hn,c⟩:=DataW.trod_struct underlying60 h;have l:t.length=6:=l.trans ay;have z:=c 0 _ rfl;have v:=c 1 _ rfl;have B:=c 2 _ rfl;have A:=c 3 _ rfl;have o:=c 4 _ rfl;have r:=c 5 _ rfl;rw[List.getElem?_eq_getElem pw] at z v B A o r;have j:Reads enc prog w base spare held m 3 (λq:Int=>[.i q]):=y8 underlying3;obtain⟨I,K⟩:=y8 (n:=m) underlying57 m fs _ _ z;obtain⟨L,aC⟩:=j m fs _ _ v;obtain⟨D,M⟩:=L6 (n:=m) (k:=1) underlying23 ay aa (λ_=>rfl) j m aa _ _ B;obtain⟨J,G⟩:=j m fs _ _ A;obtain⟨C,E⟩:=j m fs _ _ o;obtain⟨s,g⟩:=L6 (n:=n) (k:=6) underlying58 ay aa (λ_=>rfl) (OJ n) m aa _ _ r;refine⟨.mk I L D J C s,?_⟩;have g:bQ (allI w) w [.ai 6 (s.map fy)] _:=g;rw[<-oK] at g;have:=k0 (a:=0) (m:=1) (k0 (a:=0) (m:=1) (k0 (a:=0) (n:=3) (m:=1) (k0 (a:=0) (n:=2) (m:=1) (k0 (a:=0) (n:=1) (m:=1) K aC) M) G) E) g;rwa [List.drop_zero,List.take_of_length_le aa] at this
def Yj(a:lu bB)(n):lv enc prog w base spare held bB n 60 fy (λ_ _=>True):=(OJ n).b
def Yk(f:lu bB)(n):lv enc prog w base spare held bB n 62 (eR) (λ_ _=>True):=λfuel J A x h=>by
 obtain⟨G,m,rfl,H,g,hn,c⟩:=DataW.trod_struct underlying62 h;have g:A.length=9:=g.trans ay;have l:=c 0 _ rfl;have j:=c 1 _ rfl;have q:=c 2 _ rfl;have o:=c 3 _ rfl;rw[List.getElem?_eq_getElem pw] at l j q o;obtain⟨r,z,F⟩:=Ye f m m fs _ _ l;obtain⟨B,aC,D⟩:=tC f m m fs _ _ j;obtain⟨t,v,E⟩:=Yj f m m fs _ _ q;obtain⟨s,C,I⟩:=tC f m m fs _ _ o;refine⟨⟨r,B,t,s⟩,?_,trivial⟩;have:=(k0 (a:=0) (m:=1) (k0 (a:=0) (n:=2) (m:=6) (k0 (a:=0) (n:=1) (m:=1) z aC) v) C);rwa [List.drop_zero,List.take_of_length_le aa] at this
def Yl(f:lu bB)(n):lv enc prog w base spare held bB n 24 (λl:List jm=>[.ai 9 (l.map eR)]) (λ_ _=>True):=λfuel m j x h=>by
 obtain⟨l,g,_⟩:=y9 (n:=n) f (k:=9) (Q:=λ_ _=>True) (λy a b=>λ_ _=>trivial) underlying24 ay aa (λ_=>rfl) (Yk f n) fuel aa j x h;exact⟨l,g,trivial⟩
def Ym(f:lu bB)(n):lv enc prog w base spare held bB n 52 (ia) (λ_ _=>True):=λfuel H C x h=>by
 obtain⟨A,m,rfl,D,q,hn,j⟩:=DataW.trod_struct underlying52 h;have q:C.length=3:=q.trans ay;have t:=j 0 _ rfl;have ae:=j 1 _ rfl;have c:=j 2 _ rfl;rw[List.getElem?_eq_getElem pw] at t ae c;obtain⟨v,B,G⟩:=Yd f m m fs _ _ t;obtain⟨E,aC,F⟩:=tC f m m fs _ _ ae;obtain⟨r,z,s⟩:=C3 f m m fs _ _ c;have g:bB (A[2]'pw).1<=bB x.1:=by rw[D];exact f.aW _ _ zt
 replace s:(λ(l:List _) (b:Nat)=>l.length<=b) r (bB x.1):=(λae c=>Nat.le_trans c ae) g s;refine⟨⟨v,E,r⟩,?_,trivial⟩;have:=(k0 (a:=0) (n:=2) (m:=1) (k0 (a:=0) (n:=1) (m:=1) B aC) z);rwa [List.drop_zero,List.take_of_length_le aa] at this
def Yn(f:lu bB)(n):lv enc prog w base spare held bB n 25 (λl:List hi=>[.ai 3 (l.map ia)]) (λ_ _=>True):=λfuel m j x h=>by
 obtain⟨l,g,_⟩:=y9 (n:=n) f (k:=3) (Q:=λ_ _=>True) (λy a b=>λ_ _=>trivial) underlying25 ay aa (λ_=>rfl) (Ym f n) fuel aa j x h;exact⟨l,g,trivial⟩
def Yo(f:lu bB)(n):lv enc prog w base spare held bB n 27 (cM) (λ(p:Prog) (b:Nat)=>p.aE.length<=b/\∀c∈p.aE,c.parents.length<=b):=λfuel T N x h=>by
 obtain⟨B,m,rfl,G,t,hn,j⟩:=DataW.trod_struct underlying27 h;have t:N.length=6:=t.trans ay;have E:=j 0 _ rfl;have ae:=j 1 _ rfl;have g:=j 2 _ rfl;have F:=j 3 _ rfl;have v:=j 4 _ rfl;have A:=j 5 _ rfl;rw[List.getElem?_eq_getElem pw] at E ae g F v A;obtain⟨C,Q,s⟩:=Yi f m m fs _ _ E;obtain⟨R,aC,S⟩:=tC f m m fs _ _ ae;obtain⟨z,K,D⟩:=C3 f m m fs _ _ g;obtain⟨P,O,W⟩:=Yl f m m fs _ _ F;obtain⟨I,L,U⟩:=Yn f m m fs _ _ v;obtain⟨M,H,V⟩:=tC f m m fs _ _ A;have r:bB (B[0]'pw).1<=bB x.1:=by rw[G];exact f.aW _ _ zt
 replace s:(λ(l:List h9) (b:Nat)=>l.length<=b/\∀c∈l,c.parents.length<=b) C (bB x.1):=(λae g=>⟨Nat.le_trans g.1 ae,λc J=>Nat.le_trans (g.2 c J) ae⟩) r s;have q:bB (B[2]'pw).1<=bB x.1:=by rw[G];exact f.aW _ _ zt
 replace D:(λ(l:List _) (b:Nat)=>l.length<=b) z (bB x.1):=(λae g=>Nat.le_trans g ae) q D;refine⟨⟨C,R,z,P,I,M⟩,?_,s⟩;have:=(k0 (a:=0) (m:=1) (k0 (a:=0) (n:=4) (m:=1) (k0 (a:=0) (n:=3) (m:=1) (k0 (a:=0) (n:=2) (m:=1) (k0 (a:=0) (n:=1) (m:=1) Q aC) K) O) L) H);rwa [List.drop_zero,List.take_of_length_le aa] at this
end
section
variable{H:Type}{enc:TypeId×Value->H}{w:World}{v:Value}{d:DataW H}{bZ:List MemPlace}{base akr:Nat}{r:Reach}{bB:DataW H->Nat}
def Yp(j:lu bB)(h:DataW.Trod enc prog w base (λ_=>true) true 27 v d bZ):∃g:Prog,Rel (allI w) w (ab.prog g) v/\(g.aE.length<=bB d/\∀c∈g.aE,c.parents.length<=bB d):=by
 obtain⟨a,h⟩:=h;obtain⟨g,f,l⟩:=Yo j a a fs _ _ h;exact⟨g,VP f aS,l⟩
def Yq{p:Prog}{n}(hn:n<=1048576)(h:p.aE.length<=n/\∀c∈p.aE,c.parents.length<=n):p.Small:=⟨aa,λc a=>by have:=h.2 c a;omega⟩
end
def Yr{H:Type}(d:DataW H):1<=Rows.uptoBulk d:=by
 cases d with
 | lit l=>cases l <;> simp[Rows.uptoBulk]
 | _=>simp[Rows.uptoBulk]
theorem OK{H}:∀l:List (DataW H),l.length<=Rows.uptoBulkAll l
 | []=>by simp
 | d::r=>by
  have c:=Yr d;have a:=OK r;simp[Rows.uptoBulkAll,List.length_cons];omega
theorem Hh{H}:∀l:List (DataW H),∀e∈l,Rows.uptoBulk e<=Rows.uptoBulkAll l
 | d::r,e,a=>by
  simp[Rows.uptoBulkAll];rcases List.mem_cons.1 a with rfl | a
  ·omega
  ·have:=Hh r e a;omega
def OL{H}:lu (Rows.uptoBulk (H:=H)):=
 ⟨λes sp=>by have:=OK es;simp[Rows.uptoBulk];omega,λes sp e a=>by have:=Hh es e a;simp[Rows.uptoBulk];omega,λbZ e a=>by have:=Hh bZ e a;simp[Rows.uptoBulk];omega⟩
abbrev vh:Value:=.iface 207 (.agg #[])
abbrev tD:ab:=.iface 207 (.agg [])
def eT:tD.Const vh where
 is I w u h:=by
  cases h with
  | iface _ _ v h=>cases h with
   | agg _ a h=>
    have:a= #[]:=by cases a with | mk l=>cases h;rfl
    rw[this]
 rel I w:=.iface _ _ _ (.agg _ _ .nil)
def KV:Option (Option Nat)->ab
 | none=>.val .nilIface
 | some none=>.iface 176 (.agg [])
 | some (some k)=>.iface 174 (.i k)
def mL{b}(c:b=true)(H):pP prog 126 [.b b] H (some (.bk [],H)) H tD:=by
 refine aM func126 λB I f=>?_;refine ax ?_;refine bc (λaf=>?_) λaf=>?_
 ·simp[c] at af
 ·replace af:=dC af;refine aR ?_;refine gM [] H ?_;exact rfl
def l7{b}(c:b=false)(H):pP prog 126 [.b b] H none H tD:=by
 refine aM func126 λB I f=>?_;refine ax ?_;refine bc (λaf=>?_) λaf=>?_
 ·replace af:=dC af;refine aO ?_;refine ag uY ?_;refine .VS rfl rfl rfl rfl eT ?_;exact kC eT h8 Xl
 ·simp[c] at af
def OM(n):aG prog 167 [.i n] (.b (oa n)):=by
 intro H;refine aM func167 λB I a=>?_;refine gL ?_;refine aC 2 H ?_;exact⟨bq (by unfold oa;by_cases h: -1000000000<=n <;> simp[h]),rfl⟩
def Ys(l)(v):aG prog 115 [.ints l,.i v] (.i (u2 l v)):=by
 intro H;refine aM func115 λB I g=>?_;refine .eG (t:=0) rfl λgV=>?_;refine c4 ?_;refine bo (λm a=>∃k:Nat,a=⟨[(8,.i k),(7,.i l.length),(0,.ints l),(1,.i v)],H⟩/\m=l.length - k/\k<=l.length/\∀x∈l.take k,x≠v) ⟨0,rfl,rfl,aS,aS⟩ ?_;rintro m _ ⟨k,rfl,rfl,f,ck⟩;refine ax ?_;refine az (λaf=>?_) λaf=>?_
 ·refine jj ?_;refine az (λae=>?_) λae=>?_
  ·refine bR ?_;refine aC 4 H ?_;exact⟨fK (Xr aa ck ae),rfl⟩
  ·refine aP ?_;exact aW ⟨k+1,rfl,rfl,aa,M9 aa ck ae⟩
 ·refine bE ?_;refine aC 4 H ?_;exact⟨fK (Xs K8),rfl⟩
def zU(l)(v):aG prog 78 [.ints l,.i v] (.b (l.contains v)):=by
 intro H;refine aM func78 λB I a=>?_;refine ba ?_;refine ag (.call .k ((Ys _ _))) ?_;refine aT ?_;refine aC 4 H ?_;exact⟨bq (Xt _ _),rfl⟩
def Hi(g):aG prog 196 [.bm g] (.b (fX g)):=by
 intro H;refine aM func196 λB I q=>?_;refine .eG (t:=0) rfl λgV=>?_;refine dk ?_;refine az (λaf=>?_) λaf=>?_
 ·refine aP ?_;refine aC 2 H ?_;exact⟨bq (Np aa).symm,rfl⟩
 ·refine bE ?_;refine bo (λm j=>∃i:Nat,j=⟨[(12,.i i),(11,.i g.length),(10,.bm g)],H⟩/\m=g.length - i/\i<=g.length/\j7 0 (g.take i)=true) iA ?_;rintro m _ ⟨i,rfl,rfl,r,aw⟩;refine ax ?_;refine az (λae=>?_) λae=>?_
  ·have a:i<g.length:=by simpa using ae
   obtain⟨L,f⟩:∃L,L=g.getD i default:=iO;refine eb ?_;rw[<-f];refine .eG (t:=4) rfl λYt=>?_;refine ax ?_;refine az (λao=>?_) λao=>?_
   ·refine bR ?_;refine aC 2 H ?_;exact⟨bq (zE a (by rw[<-f];have: ¬L.length<=3:=aa;simp[this])).symm,rfl⟩
   ·refine bY ?_;refine bo (λm j=>∃k:Nat,j=⟨[(22,.i k),(21,.i L.length),(20,.ints L),(3,.i i),(4,.ints L),(12,.i i),(11,.i g.length),(10,.bm g)],H⟩/\m=L.length - k/\k<=L.length/\jn i [] (L.take k)=true) iA ?_;rintro m _ ⟨k,rfl,rfl,v,h⟩;refine ax ?_;refine az (λaV=>?_) λaV=>?_
    ·have c:k<L.length:=by simpa using aV
     refine zq ?_;refine gb (λaw=>.B2 rfl rfl qp rfl qp aa) ?_;refine aR ?_;refine aj.db rfl rfl rfl rfl rfl rfl (λaw=>.call (.mk' rfl rfl rfl rfl c9) ((zU _ _))) ?_;refine aF ?_;refine az (λbu=>?_) λbu=>?_
     ·refine eb ?_;refine aC 2 H ?_;exact⟨bq (zE a (by rw[<-f,Nq c x8,Bool.and_false])).symm,rfl⟩
     ·refine aP ?_;exact aW ⟨k+1,rfl,rfl,c,by rw[CK i L [] k c,h];simp_all⟩
    ·have l:k=L.length:=by omega
     rw[l,List.take_length] at h;refine bY ?_;exact aW ⟨i+1,rfl,rfl,a,by rw[CL g 0 i a,aw, <-f,Nat.zero_add,h];simp;omega⟩
  ·have o:i=g.length:=by omega
   rw[o,List.take_length] at aw;refine bE ?_;refine aC 2 H ?_;exact⟨bq (by unfold fX;rw[aw];simp;omega),rfl⟩
def Yu(g):aG prog 166 [.bm g] (.i (if fX g then 0 else 2)):=by
 intro H;refine aM func166 λB I a=>?_;refine ba ?_;refine ag (.call .k ((Hi _))) ?_;refine aF ?_;refine az (λaf=>?_) λaf=>?_
 ·refine aP ?_;refine aC 2 H ?_;exact⟨fK x8,rfl⟩
 ·refine aI ?_;refine aC 2 H ?_;exact⟨fK x8,rfl⟩
def Hj(op):aG prog 131 [.i op] (KV (ik op)):=by
 intro H;refine aM func131 λB I j=>?_;refine jI ?_;refine az (λaf=>?_) λaf=>?_
 ·refine aF ?_;refine ag uY ?_;refine ax ?_;refine aC 2 H ?_;exact⟨xd wk,rfl⟩
 ·refine .kV (λst=>∃u:Bool,st=⟨[(8,.b u),(3,.i op)],H⟩/\u=decide (op=1\/op=2\/op=3\/op=6\/op=18)) ?_ ?_
  ·refine ax ?_;refine az (λae=>?_) λae=>?_
   ·refine aR ?_;exact dh ⟨op==1,rfl,by by_cases a:op=1 <;> simp_all⟩
   ·refine ax ?_;refine az (λao=>?_) λao=>?_
    ·refine aR ?_;exact dh ⟨op==2,rfl,by by_cases a:op=2 <;> simp_all⟩
    ·refine ax ?_;refine az (λaV=>?_) λaV=>?_
     ·refine aR ?_;exact dh ⟨op==3,rfl,by by_cases a:op=3 <;> simp_all⟩
     ·refine ax ?_;refine az (λbu=>?_) λbu=>?_
      ·refine aR ?_;exact dh ⟨op==6,rfl,by by_cases a:op=6 <;> simp_all⟩
      ·refine aY ?_;exact dh ⟨op==18,rfl,by by_cases a:op=18 <;> simp_all⟩
  ·rintro _ ⟨u,rfl,h⟩;refine az (λcr=>?_) λcr=>?_
   ·refine aO ?_;refine ag uY ?_;refine ax ?_;refine aC 2 H ?_;exact⟨xd wk,rfl⟩
   ·refine .kV (λst=>∃u:Bool,st=⟨[(15,.b u),(3,.i op)],H⟩/\u=decide (op=4\/op=8\/op=17)) ?_ ?_
    ·refine ax ?_;refine az (λdK=>?_) λdK=>?_
     ·refine aR ?_;exact dh ⟨op==4,rfl,by by_cases a:op=4 <;> simp_all⟩
     ·refine ax ?_;refine az (λdA=>?_) λdA=>?_
      ·refine aR ?_;exact dh ⟨op==8,rfl,by by_cases a:op=8 <;> simp_all⟩
      ·refine aY ?_;exact dh ⟨op==17,rfl,by by_cases a:op=17 <;> simp_all⟩
    ·rintro _ ⟨u,rfl,f⟩;refine az (λdP=>?_) λdP=>?_
     ·refine aO ?_;refine ag uY ?_;refine ax ?_;refine aC 2 H ?_;exact⟨xd wk,rfl⟩
     ·refine .kV (λst=>∃u:Bool,st=⟨[(20,.b u),(3,.i op)],H⟩/\u=decide (op=7\/op=9\/op=11\/op=12\/op=13\/op=14\/op=15\/op=16)) ?_ ?_
      ·refine ax ?_;refine az (λc7=>?_) λc7=>?_
       ·refine aR ?_;exact dh ⟨op==7,rfl,by by_cases a:op=7 <;> simp_all⟩
       ·refine ax ?_;refine az (λhJ=>?_) λhJ=>?_
        ·refine aR ?_;exact dh ⟨op==9,rfl,by by_cases a:op=9 <;> simp_all⟩
        ·refine ax ?_;refine az (λh1=>?_) λh1=>?_
         ·refine aR ?_;exact dh ⟨op==11,rfl,by by_cases a:op=11 <;> simp_all⟩
         ·refine ax ?_;refine az (λjq=>?_) λjq=>?_
          ·refine aR ?_;exact dh ⟨op==12,rfl,by by_cases a:op=12 <;> simp_all⟩
          ·refine ax ?_;refine az (λkc=>?_) λkc=>?_
           ·refine aR ?_;exact dh ⟨op==13,rfl,by by_cases a:op=13 <;> simp_all⟩
           ·refine ax ?_;refine az (λlE=>?_) λlE=>?_
            ·refine aR ?_;exact dh ⟨op==14,rfl,by by_cases a:op=14 <;> simp_all⟩
            ·refine ax ?_;refine az (λl8=>?_) λl8=>?_
             ·refine aR ?_;exact dh ⟨op==15,rfl,by by_cases a:op=15 <;> simp_all⟩
             ·refine aY ?_;exact dh ⟨op==16,rfl,by by_cases a:op=16 <;> simp_all⟩
      ·rintro _ ⟨u,rfl,g⟩;refine az (λsg=>?_) λsg=>?_
       ·refine aO ?_;refine ag uY ?_;refine ax ?_;refine aC 2 H ?_;exact⟨xd wk,rfl⟩
       ·refine ax ?_;refine az (λo4=>?_) λo4=>?_
        ·refine aO ?_;refine ag uY ?_;refine ax ?_;refine aC 2 H ?_;exact⟨xd wk,rfl⟩
        ·refine ba ?_;refine aC 2 H ?_;exact⟨xd wk,rfl⟩
def number(p)(f:p.aE.length<=100)(x)(a):aG prog 130 [ab.prog p,ab.zB x,.i a] (.b (gC p x a)):=by
 intro H;refine aM func130 λB I c=>?_;refine zq ?_;refine az (λaf=>?_) λaf=>?_
 ·refine aY ?_;refine ag (ad.call .k (OM x.n)) ?_;refine ax ?_;refine aC 6 (H) ?_;exact⟨bq (by simp[gC,af]),rfl⟩
 ·refine ax ?_;refine az (λae=>?_) λae=>?_
  ·refine oX ?_;refine aC 6 (H) ?_;exact⟨bq mq,rfl⟩
  ·refine aP ?_;refine az (λao=>?_) λao=>?_
   ·refine aO ?_;refine az (λaV=>?_) λaV=>?_
    ·refine nk ?_;refine aC 6 (H) ?_;exact⟨bq mq,rfl⟩
    ·refine aP ?_;refine az (λbu=>?_) λbu=>?_
     ·refine aO ?_;refine az (λcr=>?_) λcr=>?_
      ·refine jj ?_;refine aC 6 (H) ?_;exact⟨bq mq,rfl⟩
      ·refine ax ?_;refine az (λdK=>?_) λdK=>?_
       ·refine oY ?_;refine aC 6 (H) ?_;exact⟨bq mq,rfl⟩
       ·refine jI ?_;refine aC 6 (H) ?_;exact⟨bq mq,rfl⟩
     ·refine aT ?_;refine az (λdA=>?_) λdA=>?_
      ·refine jj ?_;refine aC 6 (H) ?_;exact⟨bq mq,rfl⟩
      ·refine ax ?_;refine az (λdP=>?_) λdP=>?_
       ·refine oY ?_;refine aC 6 (H) ?_;exact⟨bq mq,rfl⟩
       ·refine jI ?_;refine aC 6 (H) ?_;exact⟨bq mq,rfl⟩
   ·refine aT ?_;refine az (λc7=>?_) λc7=>?_
    ·refine nk ?_;refine aC 6 (H) ?_;exact⟨bq mq,rfl⟩
    ·refine aP ?_;refine az (λhJ=>?_) λhJ=>?_
     ·refine aO ?_;refine az (λh1=>?_) λh1=>?_
      ·refine jj ?_;refine aC 6 (H) ?_;exact⟨bq mq,rfl⟩
      ·refine ax ?_;refine az (λjq=>?_) λjq=>?_
       ·refine oY ?_;refine aC 6 (H) ?_;exact⟨bq mq,rfl⟩
       ·refine jI ?_;refine aC 6 (H) ?_;exact⟨bq mq,rfl⟩
     ·refine aT ?_;refine az (λkc=>?_) λkc=>?_
      ·refine jj ?_;refine aC 6 (H) ?_;exact⟨bq mq,rfl⟩
      ·refine ax ?_;refine az (λlE=>?_) λlE=>?_
       ·refine oY ?_;refine aC 6 (H) ?_;exact⟨bq mq,rfl⟩
       ·refine jI ?_;refine aC 6 (H) ?_;exact⟨bq mq,rfl⟩
def Ug(n)(p)(x):aG prog 313 [.i n,ab.prog p,ab.zB x] (.i n):=by
 intro H;refine aM func313 λB I a=>?_;refine c4 ?_;refine aC 6 (H) ?_;exact⟨dO,rfl⟩
def Ue(p)(x)(f:0<=x.n)(c:x.n<p.cT.length):aG prog 314 [.agg [],ab.prog p,ab.zB x] (.i (p.cT.getD x.n.toNat default)):=by
 intro H;refine aM func314 λB I a=>?_;refine jj ?_;refine aC 6 (H) ?_;exact⟨dO,rfl⟩
def ON(l)(c:l.length<=4000000):aG prog 21 [.ints l] (.ints l):=by
 intro H;refine aM func21 λB I f=>?_;refine ba ?_;refine .uQ rfl rfl rfl rfl rfl rfl rfl gu rfl rfl λxp a=>?_;refine aO ?_;refine az (λaf=>?_) λaf=>?_
 ·refine aP ?_;refine .cg (rs:=[.tmp 2]) (H':=H) rfl eQ tq bC ?_;exact⟨by show ab.ai 1 []=ab.ai 1 _;rw[a af],rfl⟩
 ·refine ax ?_;refine ag (.BO rfl rfl rfl (an.refl _) rfl rfl (an.refl _) (sa l) cB cB) ?_;refine aY ?_;refine aC 2 (H) ?_;exact⟨dO,rfl⟩
def Yv(els):aG prog 206 [.ai 1 els] (.ai 1 els):=by
 intro H;refine aM func206 λB I a=>?_;refine bR ?_;refine ag (.Gt rfl rfl rfl rfl rfl rfl rfl) ?_;refine aY ?_;refine aC 2 (H) ?_;exact⟨dO,rfl⟩
def Yw(els):aG prog 109 [.ai 1 els] (.ai 1 els):=by
 intro H;refine aM func109 λB I a=>?_;refine bR ?_;refine ag (.Gt rfl rfl rfl rfl rfl rfl rfl) ?_;refine aY ?_;refine aC 2 (H) ?_;exact⟨dO,rfl⟩
def Yx(c)(a:c.parents.length<=4000000):aG prog 179 [ab.cls c] (.ints c.parents):=by
 intro H;refine aM func179 λB I f=>?_;refine bY ?_;refine ag (.call .k ((ON _ aa))) ?_;refine aY ?_;refine aC 2 (H) ?_;exact⟨dO,rfl⟩
def Yy(cs:List h9)(l:cs.length<=4000000)(g:∀c∈cs,c.parents.length<=4000000):aG prog 178 [.ai 3 (cs.map o3),.fn (.func 179) [] []] (ab.bm (cs.map (·.parents))):=by
 intro H;refine aM (n:=23) func178 λB I o=>?_;refine bR ?_;refine hh 5 23 1 ?_;refine aP ?_;refine bo (λm h=>∃(i:Nat) (v:Value),h=⟨[(10,.i i),(9,.i cs.length),(8,.ai 3 (cs.map o3)),(1,.fn (.func 179) [] []),(5,.as (ab.bm ((cs.take i).map (·.parents))) v)],.own 23 1 v::H⟩/\m=cs.length - i/\i<=cs.length) (⟨0,_,rfl,rfl,aa⟩) ?_;rintro m _ ⟨i,v,rfl,rfl,q⟩;refine ax ?_;refine az (λaf=>?_) λaf=>?_
 ·have a:i<cs.length:=by omega
  have f:=g _ (bI a);refine aI ?_;refine bK (λdM=>?_);refine aP ?_;refine ag (ad.call .k (Yx (cs.getD i default) f)) ?_;refine aj.cn (x:=.ai 1 [[ab.ints (cs.getD i default).parents]]) rfl rfl rfl (ad.row rfl rfl cC rfl rfl rfl rfl rfl rfl) ?_;refine aj.dJ rfl rfl rfl rfl rfl rfl rfl rfl (an.refl _) (rfl) (λ_=>df) m1 m1 (λYz=>?_);refine aI ?_;exact aW (⟨i+1,Yz,by rw[Nc a],rfl,a⟩)
 ·obtain rfl:i=cs.length:=by omega
  rw[List.take_length];refine aI ?_;refine ag (ad.s4 .k (.cons (an.e2 _ _) .nil) (Yv _)) ?_;refine aY ?_;refine aC 4 (H) ?_;exact⟨dO,rfl⟩
def graph(p)(f:p.aE.length<=4000000)(a:∀c∈p.aE,c.parents.length<=4000000):aG prog 141 [ab.prog p] (.bm (b9 p)):=by
 intro H;refine aM func141 λB I g=>?_;refine bY ?_;refine ag (.call .k (Yy p.aE f a)) ?_;refine aY ?_;refine aC 2 (H) ?_;exact⟨dO,rfl⟩
def YA(f)(s:nn f)(r:∀k∈f.kids,aG prog 134 [ab.fact k] (.i (np k))):aG prog 134 [ab.fact f] (.i (np f)):=by
 intro H;refine aM func134 λB I w=>?_;rw[CP];obtain⟨l,h,x⟩:=CQ s;refine bE ?_;refine .kV (λst=>st=⟨[(3,.i (gY f)),(1,.ptr (fy f))],H⟩) ?_ ?_
 ·refine gL ?_;refine bc (λaf=>?_) λaf=>?_
  ·have g:gY f=f.arg+1:=by unfold gY;rw[if_pos By]
   rw[g] at l h;refine ax ?_;refine .le 3 (y:=.i (gY f)) rfl (.b4 (by rw[g])) ?_;exact dh rfl
  ·have g:gY f=0:=by unfold gY;rw[if_neg By]
   refine aR ?_;refine .le 3 (y:=.i (gY f)) rfl (.b4 (by rw[g])) ?_;exact dh rfl
 ·rintro _ rfl;refine bY ?_;refine aB.eG (t:=23) rfl (λaks=>?_);refine bo (λm st=>∃j:Nat,st=⟨[(25,.i j),(24,.i f.kids.length),(23,ab.facts f.kids),(3,.i (nq (f.kids.take j) (gY f)))],H⟩/\m=f.kids.length - j/\j<=f.kids.length) (⟨0,rfl,rfl,aa⟩) ?_;rintro m _ ⟨j,rfl,rfl,v⟩;refine ax ?_;refine az (λae=>?_) λae=>?_
  ·have c:j<f.kids.length:=by omega
   have o:=bI c;have a:=GQ (f.kids.getD j default) (f.kids.take j) (gY f);rw[c2 c] at a;refine aI ?_;refine bK (λdM=>?_);refine ax ?_;refine ag (ad.call .k (r _ o)) ?_;refine ag (ad.max2 rfl rfl rfl rfl rfl rfl) ?_;refine aY ?_;refine aB.le 3 (y:=.i (nq (f.kids.take (j+1)) (gY f))) rfl (an.b4 (by rw[a,Int.max_def];split <;> split <;> omega)) ?_;refine aY ?_;exact aW (⟨j+1,rfl,rfl,aa⟩)
  ·obtain rfl:j=f.kids.length:=by omega
   rw[List.take_length];refine bR ?_;refine aC 2 (H) ?_;exact⟨cO,rfl⟩
def OO(p)(b6:p.aE.length<=1000)(a1:∀c∈p.aE,c.parents.length<=4000000/\c.av.length<=1000):aG prog 132 [ab.prog p] (.agg (cD (bS p))):=by
 intro H;refine aM func132 λB I s=>?_;refine aF ?_;refine bK (λcV=>?_);refine aT ?_;refine ag (.call .k (graph p aa (λc h=>(a1 c h).1))) ?_;refine aR ?_;refine bK (λdc=>?_);refine aT ?_;refine .pJ (b:=dc) (t:=86) 3 1 1 df rfl rfl ?_;refine aI ?_;refine bo (λm j=>∃(i:Nat) (v:Value),j=⟨[(12,.i i),(11,.i p.aE.length),(10,.ai 3 (p.aE.map o3)),(3,.p dc 0),(2,.p cV 0)],.own 3 1 v::.au dc 86 [.bm (b9 p),.as (.ints (mG p.aE i 0)) v]::.au cV 86 [.val aL,.val aL]::H⟩/\m=p.aE.length - i/\i<=p.aE.length) (⟨0,_,rfl,rfl,aa⟩) ?_;rintro m _ ⟨i,v,rfl,rfl,z⟩;refine ax ?_;refine az (λaf=>?_) λaf=>?_
 ·have a:i<p.aE.length:=by omega
  have l:=a1 _ (bI a);obtain⟨L,q⟩:∃L,L=p.aE.getD i default:=iO;rw[<-q] at l;refine ba ?_;refine bK (λb2=>?_);refine aT ?_;rw[<-q];refine aI ?_;refine bo (λm j=>∃(k:Nat) (v:Value),j=⟨[(20,.i k),(19,.i L.av.length),(4,.i i),(12,.i i),(11,.i p.aE.length),(10,.ai 3 (p.aE.map o3)),(3,.p dc 0),(2,.p cV 0)],.own 3 1 v::.au dc 86 [.bm (b9 p),.as (ab.ints (mG p.aE i k)) v]::.au cV 86 [.val aL,.val aL]::H⟩/\m=L.av.length - k/\k<=L.av.length) (⟨0,_,rfl,rfl,aa⟩) ?_;rintro m _ ⟨k,v,rfl,rfl,w⟩;refine ax ?_;refine az (λae=>?_) λae=>?_
  ·have o:k<L.av.length:=by omega
   refine ba ?_;refine aj.cn (x:=.ai 1 [[.i ((i:Int)+3)]]) rfl rfl rfl h7 ?_;refine aj.dJ rfl rfl rfl rfl rfl rfl rfl rfl (an.refl _) (rfl) (λ_=>df) ps ps (λYB=>?_);refine ba ?_;exact aW (⟨k+1,YB,by rw[M7],rfl,o⟩)
  ·obtain rfl:k=L.av.length:=by omega
   refine bY ?_;exact aW (⟨i+1,v,by rw[Nd a, <-q],rfl,a⟩)
 ·obtain rfl:i=p.aE.length:=by omega
  rw[M8];refine bR ?_;refine aZ.cg (rs:=[.cell 2 86]) (H':=H) rfl (sQ) (.cons (an.agg (.cons h8 CB)) .nil) bC ?_;exact⟨dO,rfl⟩
def OP(c:ha.length=fe.length)(a:k<ha.length)(f:ha.take k=fe.take k)(h:ha.getD k default=fe.getD k default):ha.take (k+1)=fe.take (k+1):=by
 rw[List.take_succ_eq_append_getElem a,List.take_succ_eq_append_getElem (c▸a),f];rw[List.getD_eq_getElem?_getD,List.getD_eq_getElem?_getD,List.getElem?_eq_getElem a,List.getElem?_eq_getElem (c▸a)] at h;simp at h;rw[h]
def OQ(j:k<=ha.length)(h:(ha.length:Int)<=k)(g:(ha.length:Int)=fe.length)(a:ha.take k=fe.take k):true=(ha==fe):=by
 have c:k=ha.length:=by omega
 subst c;have f:ha.length=fe.length:=by omega
 rw[List.take_length,f,List.take_length] at a;simp[a]
def OR(h:ha.getD k default≠fe.getD k default):ha≠fe:=λe=>h (by rw[e])
def Hk(a c):aG prog 29 [.ints a,.ints c] (.b (a==c)):=by
 intro H;refine aM func29 λB I o=>?_;refine .eG (t:=0) rfl λgV=>?_;refine .eG (t:=1) rfl λvi=>?_;refine eb ?_;refine az (λaf=>?_) λaf=>?_
 ·refine aP ?_;refine aC 4 H ?_;exact⟨bq (by symm;simp;intro e;subst e;simp at af),rfl⟩
 ·refine bE ?_;refine bo (λm j=>∃k:Nat,j=⟨[(13,.i k),(12,.i a.length),(0,.ints a),(1,.ints c)],H⟩/\m=a.length - k/\k<=a.length/\a.take k=c.take k) ⟨0,rfl,rfl,aS,rfl⟩ ?_;rintro m _ ⟨k,rfl,rfl,g,f⟩;refine ax ?_;refine az (λae=>?_) λae=>?_
  ·refine bE ?_;refine bP 8 26 ?_;refine dk ?_;refine az (λao=>?_) λao=>?_
   ·refine bE ?_;refine aC 4 H ?_;exact⟨bq (by symm;simp;exact OR ao),rfl⟩
   ·refine aP ?_;exact aW ⟨k+1,rfl,rfl,aa,OP aa aa f ao⟩
  ·refine bE ?_;refine aC 4 H ?_;exact⟨bq (OQ g ae af f),rfl⟩
def YC(a c):aG prog 287 [.ints a,.ints c] (.b (a==c)):=by
 intro H;refine aM func287 λB I o=>?_;refine .eG (t:=0) rfl λgV=>?_;refine .eG (t:=1) rfl λvi=>?_;refine eb ?_;refine az (λaf=>?_) λaf=>?_
 ·refine aP ?_;refine aC 4 H ?_;exact⟨bq (by symm;simp;intro e;subst e;simp at af),rfl⟩
 ·refine bE ?_;refine bo (λm j=>∃k:Nat,j=⟨[(13,.i k),(12,.i a.length),(0,.ints a),(1,.ints c)],H⟩/\m=a.length - k/\k<=a.length/\a.take k=c.take k) ⟨0,rfl,rfl,aS,rfl⟩ ?_;rintro m _ ⟨k,rfl,rfl,g,f⟩;refine ax ?_;refine az (λae=>?_) λae=>?_
  ·refine bE ?_;refine bP 8 26 ?_;refine dk ?_;refine az (λao=>?_) λao=>?_
   ·refine bE ?_;refine aC 4 H ?_;exact⟨bq (by symm;simp;exact OR ao),rfl⟩
   ·refine aP ?_;exact aW ⟨k+1,rfl,rfl,aa,OP aa aa f ao⟩
  ·refine bE ?_;refine aC 4 H ?_;exact⟨bq (OQ g ae af f),rfl⟩
end Go.Proofs.YtodccgailpkgeaaGreat

