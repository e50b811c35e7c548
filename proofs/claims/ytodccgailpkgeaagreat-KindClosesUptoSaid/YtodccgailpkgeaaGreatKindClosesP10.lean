/- A part of the proof. No condition. -/
import Derived.Test.YtodccgailpkgeaaGreatKindClosesP9
import Derived.DeepKeys4
import Derived.Test.YtodccgailpkgeaaGreatProg
import Derived.KernelRfl
import Derived.ProofKit
import Derived.Test.YtodccgailpkgeaaGreatRows
set_option linter.defProp false
set_option maxHeartbeats 1000000
set_option linter.unusedVariables false
set_option linter.unusedSimpArgs false
set_option maxRecDepth 10000
namespace Go.Eng.Fc
variable{α:Type}{W:bx}{f:Fact}{l:List Fact}{o:cY}{i:Nat}{eL:Int}
def eO(a b):(bif a then true else b)=(a || b):=by cases a <;> rfl
def p1[Inhabited α]{l:List α}{j}(h:j<l.length):l.getD j default=l[j]:=by rw[List.getD_eq_getElem?_getD,List.getElem?_eq_getElem h];rfl
def q8(h:cy W):W.parents.length<=60:=by simp[cy] at h;exact h.1.1.1
def hT[Inhabited α]{l:List α}{k}(h:k<l.length):l.getD k default∈l:=by rw[p1 h];exact List.getElem_mem h
mutual
def cW:Fact->Nat
 | .mk _ _ _ _ _ kids=>1+fk kids
def fk:List Fact->Nat
 | []=>0
 | f::r=>cW f+fk r
end
def p2(f):cW f=1+fk f.kids:=by cases f;rw[cW];rfl
def gS(W:bx)(f:Fact):Bool:=decide (1<=f.op) && decide (f.op<=7) && ((f.kids.length:Int)==kj f.op) && (if dp f then jx W f && kO W f else jw f)
mutual
def dS(W:bx):Fact->Bool
 | .mk op arg path cls n kids=>gS W (.mk op arg path cls n kids) && q9 W kids
def q9(W:bx):List Fact->Bool
 | []=>true
 | f::r=>dS W f && q9 W r
end
theorem Hj{W}:∀{l:List Fact},q9 W l=true↔∀k∈l,dS W k=true
 | []=>by simp[q9]
 | x::r=>by simp[q9,Hj (l:=r)]
def mS:dS W f=true↔gS W f=true/\∀k∈f.kids,dS W k=true:=by
 cases f;rw[dS,Bool.and_eq_true,Hj];rfl
def zY(h:gS W f)(a:dp f):f.kids= []:=by
 simp[gS,dp,Bool.and_eq_true,decide_eq_true_eq,beq_iff_eq] at h a;have:kj f.op=0:=by rw[kj,if_neg aa,if_neg aa]
 rw[this] at h;exact List.eq_nil_of_length_eq_zero aa
mutual
theorem Dd(W):∀(f:Fact) (left a:Int),(fz W f left a).1=true->dS W f=true/\(fz W f left a).2=left - cW f
 | .mk op arg path cls n kids,left,a,h=>by
  rw[fz] at h ⊢;rw[dS,cW];by_cases g:jb (.mk op arg path cls n kids) (left - 1) a=true
  ·rw[if_pos g] at h;cases h
  ·rw[if_neg g] at h ⊢;have j:gS W (.mk op arg path cls n kids)=(if dp (.mk op arg path cls n kids) then jx W (.mk op arg path cls n kids) && kO W (.mk op arg path cls n kids) else jw (.mk op arg path cls n kids)):=by
    simp[jb,Bool.not_eq_true,Bool.or_eq_false_iff,decide_eq_false_iff_not,bne_eq_false_iff_eq] at g;rw[gS];rw[show (decide (1<=(Fact.mk op arg path cls n kids).op) && decide ((Fact.mk op arg path cls n kids).op<=7) && (((Fact.mk op arg path cls n kids).kids.length:Int)==kj (Fact.mk op arg path cls n kids).op))=true by
     simp[Bool.and_eq_true,decide_eq_true_eq,beq_iff_eq];exact⟨lK,g.2⟩]
    rfl
   by_cases c:dp (.mk op arg path cls n kids)=true
   ·rw[if_pos c] at h ⊢;rw[if_pos c] at j;have o:(jx W (.mk op arg path cls n kids) && kO W (.mk op arg path cls n kids))=true:=h;have hn:gS W (.mk op arg path cls n kids)=true:=j.trans o;have l:kids= []:=zY hn c;subst l;refine⟨tc,by simp[fk]⟩
   ·rw[if_neg c] at h ⊢;rw[if_neg c] at j;by_cases m:jw (.mk op arg path cls n kids)=true
    ·rw[if_pos m] at h ⊢;have:=OK W kids (left - 1) (a - 1) h;refine⟨by rw[j,m,this.1];rfl,by rw[this.2];omega⟩
    ·rw[if_neg m] at h;cases h
theorem OK(W):∀(l:List Fact) (left c:Int),(en W l left c).1=true->q9 W l=true/\(en W l left c).2=left - fk l
 | [],left,c,h=>by rw[en,q9,fk];simp
 | k::r,left,c,h=>by
  rw[en] at h ⊢;rw[q9,fk];by_cases f:(fz W k left c).1=true
  ·rw[if_pos f] at h ⊢;have a:=Dd W k left c f;have b:=OK W r _ c h;exact⟨by rw[a.1,b.1];rfl,by rw[b.2,a.2];omega⟩
  ·rw[if_neg f] at h;exact absurd h f
end
def tH(h:lL W f):dS W f=true/\cW f<=24:=by
 have a:=Dd W f 24 12 h;have c:=(GS W f 24 12).2 h;exact⟨a.1,aa⟩
def jg(W:bx)(a b:Int):Bool:=((mN W).getD a.toNat 0).testBit b.toNat
def YC{j}(h:j<l.length):fk (l.take (j+1))=fk (l.take j)+cW (l.getD j default):=by
 induction l generalizing j with
 | nil=>simp at h
 | cons x r a=>
  cases j with
  | zero=>simp[fk]
  | succ j=>
   rw[List.take_succ_cons,List.take_succ_cons,fk,fk,a gU];simp[List.getD_cons_succ];omega
def YD(j):fk (l.take j)<=fk l:=by
 induction l generalizing j with
 | nil=>simp[fk]
 | cons x r a=>
  cases j with
  | zero=>simp[fk]
  | succ j=>rw[List.take_succ_cons,fk,fk];have:=a j;omega
def gy(W:bx)(c b:Nat):Bool:=((mN W).getD c 0).testBit b
theorem OL(U:du)(b):∀(l:al) (s:Nat),(l.foldl (λs (p:Int)=>s ||| U.getD p.toNat 0) s).testBit b=(s.testBit b || l.any λp=>(U.getD p.toNat 0).testBit b)
 | [],s=>by simp
 | p::r,s=>by rw[List.foldl_cons,OL U b r,Nat.testBit_or,List.any_cons,Bool.or_assoc]
def OM(U)(i)(l)(b):(pd U i l).testBit b=(b==0 || b==3+i || l.any λp=>(U.getD p.toNat 0).testBit b):=by
 rw[pd,OL,Nat.testBit_or,Nat.testBit_two_pow];congr 2
 ·rcases b with _ | b
  ·rfl
  ·rw[Nat.testBit_succ];simp
 ·rw[Bool.eq_iff_iff,decide_eq_true_iff,beq_iff_eq];exact eq_comm
def xo(l:List α)(i j)(x y:α):(l.set i x).getD j y=if i=j/\i<l.length then x else l.getD j y:=by
 simp[List.getD_eq_getElem?_getD,List.getElem?_set];by_cases h:i=j
 ·by_cases a:j<l.length
  ·simp[h,a]
  ·simp[h,a]
 ·simp[h]
theorem sl:∀(l:List al) (i:Nat) (U:du) (j:Nat),j<3+i->(hB l i U).getD j 0=U.getD j 0
 | [],i,U,j,h=>by rw[hB]
 | x::r,i,U,j,h=>by
  rw[hB,sl r (i+1) _ j aa,xo,if_neg aa]
theorem zZ(i):∀(l a:al),lf i a l=true->∀p∈l,3<=p/\p<3+i
 | [],_,_,p,c=>by cases c
 | x::r,a,h,p,c=>by
  rw[lf,Bool.and_eq_true,Bool.not_eq_true'] at h;rcases List.mem_cons.1 c with rfl | c
  ·have:=h.1;simp[Bool.or_eq_false_iff,decide_eq_false_iff_not] at this;omega
  ·exact zZ i r _ h.2 p c
theorem Hk:∀(l:List al) (i k:Nat),iJ i l=true->k<l.length->lf (i+k) [] (l.getD k default)=true
 | [],i,k,_,a=>by simp at a
 | x::r,i,0,h,_=>by rw[iJ,Bool.and_eq_true] at h;exact h.1
 | x::r,i,k+1,h,a=>by
  rw[iJ,Bool.and_eq_true] at h;have:=Hk r (i+1) k h.2 (by simpa using a);rw[show i+(k+1)=i+1+k from by omega];exact this
def z1(h:cy W):iJ 0 W.parents=true:=by simp[cy,Bool.and_eq_true] at h;exact h.1.2
def p3(h:cy W){i}(a:i<W.parents.length):∀p∈W.parents.getD i default,3<=p/\p<3+i:=by
 have:=Hk W.parents 0 i (z1 h) a;rw[Nat.zero_add] at this;exact zZ i _ _ this
def tI{l:List α}{p q}(h:∀x∈l,p x=q x):l.any p=l.any q:=by
 induction l with
 | nil=>rfl
 | cons x r a=>rw[List.any_cons,List.any_cons,h x dB,a λy c=>h y (.tail _ c)]
theorem z6:∀(l:List al) (i:Nat) (U:du) (k:Nat),3+i+l.length<=U.length->iJ i l=true->k<l.length->∀b,((hB l i U).getD (3+(i+k)) 0).testBit b=(b==0 || b==3+(i+k) || (l.getD k default).any λp=>((hB l i U).getD p.toNat 0).testBit b)
 | [],i,U,k,a,_,c,b=>by simp at c
 | x::r,i,U,0,a,h,c,b=>by
  rw[iJ,Bool.and_eq_true] at h;rw[hB,sl r (i+1) _ _ aa,xo,if_pos ⟨aa,by simp at a;omega⟩,OM];show _=(b==0 || b==3+(i+0) || x.any _);rw[Nat.add_zero];congr 1;refine tI λp f=>?_;have:=zZ i x [] h.1 p f;rw[sl r (i+1) _ _ aa,xo,if_neg aa]
 | x::r,i,U,k+1,a,h,c,b=>by
  rw[iJ,Bool.and_eq_true] at h;have:=z6 r (i+1) (U.set (3+i) (pd U i x)) k (by simp at a ⊢;omega) h.2 (by simpa using c) b;rw[hB,show i+(k+1)=i+1+k from by omega];exact this
def ou(h:cy W){i}(a:i<W.parents.length)(b):gy W (3+i) b=(b==0 || b==3+i || (W.parents.getD i default).any λp=>gy W p.toNat b):=by
 have:=z6 W.parents 0 ([1,3,5]++List.replicate 60 0) i (by have:=q8 h;simp;omega) (z1 h) a b;rw[Nat.zero_add] at this;exact this
def ra{c}(a:c<3)(b):gy W c b=(b==0 || b==c):=by
 rw[gy,mN,sl _ _ _ _ aa];have:c=0\/c=1\/c=2:=by omega
 rcases this with rfl | rfl | rfl
 ·show Nat.testBit 1 b=_;rcases b with _ | b
  ·rfl
  ·rw[Nat.testBit_succ];simp
 ·show Nat.testBit 3 b=_;rcases b with _ | _ | b
  ·rfl
  ·rfl
  ·rw[Nat.testBit_succ,Nat.testBit_succ];simp
 ·show Nat.testBit 5 b=_;rcases b with _ | _ | _ | b
  ·rfl
  ·rfl
  ·rfl
  ·rw[Nat.testBit_succ,Nat.testBit_succ,Nat.testBit_succ];simp
def Hl(h:cy W){c}(f:c<3+W.parents.length):gy W c 0=true:=by
 by_cases a:c<3
 ·rw[ra a];rfl
 ·rw[show c=3+(c - 3) from by omega,ou h aa];rfl
def um(h:cy W){c}(f:c<3+W.parents.length):gy W c c=true:=by
 by_cases a:c<3
 ·rw[ra a];simp
 ·have e:c=3+(c - 3):=by omega
  have:=ou h (i:=c - 3) aa c;rw[<-e] at this;rw[this];simp
theorem xp{W}(h:cy W):∀(n c:Nat),c<=n->c<3+W.parents.length->∀b,gy W c b=true->b<=c/\(b=0\/b=c\/3<=b)
 | n,c,f,m,b,a=>by
  by_cases g:c<3
  ·rw[ra g] at a;simp at a;omega
  ·have e:c=3+(c - 3):=by omega
   rw[e,ou h aa] at a;simp[Bool.or_eq_true,beq_iff_eq,List.any_eq_true] at a;rcases a with (a | a) | ⟨p,j,a⟩
   ·omega
   ·omega
   ·have l:=p3 h aa p j
    match n,f with
    | 0,f=>omega
    | n+1,f=>
     have:=xp h n p.toNat aa aa b a;omega
theorem Hm{W}(h:cy W):∀(n a:Nat),a<=n->a<3+W.parents.length->∀b c,gy W a b=true->gy W b c=true->gy W a c=true
 | n,a,j,m,b,c,g,f=>by
  by_cases o:a<3
  ·rw[ra o] at g;simp[Bool.or_eq_true,beq_iff_eq] at g;rcases g with rfl | rfl
   ·rw[ra aa] at f;simp at f;subst f;exact Hl h m
   ·exact f
  ·have e:a=3+(a - 3):=by omega
   rw[e,ou h aa] at g ⊢;simp only[Bool.or_eq_true,beq_iff_eq,List.any_eq_true] at g ⊢;rcases g with (rfl | rfl) | ⟨p,l,g⟩
   ·rw[ra aa] at f;simp at f;exact .inl (.inl f)
   ·rw[ou h aa] at f;simpa only[Bool.or_eq_true,beq_iff_eq,List.any_eq_true] using f
   ·have q:=p3 h aa p l
    match n,j with
    | 0,j=>omega
    | n+1,j=>exact .inr ⟨p,l,Hm h n p.toNat aa aa b c g f⟩
def Hn{a b}:jg W a b=gy W a.toNat b.toNat:=rfl
def ov(o:cY)(i:Nat):al->cY
 | []=>o
 | p::r=>ov (o.set p.toNat (o.getD p.toNat false || o.getD i false)) i r
def rb(W:bx):Nat->cY->cY
 | 0,o=>o
 | k+1,o=>rb W k (ov o (3+k) (W.parents.getD k default))
def vg(W:bx)(c:Nat):cY:=rb W (c - 2) ((List.replicate (3+W.parents.length) false).set c true)
theorem Ho(i):∀(l:al) (o:cY),(ov o i l).length=o.length
 | [],o=>rfl
 | p::r,o=>by rw[ov,Ho i r,List.length_set]
theorem ON(W):∀(k:Nat) (o:cY),(rb W k o).length=o.length
 | 0,o=>rfl
 | k+1,o=>by rw[rb,ON W k,Ho]
theorem OO(i:Nat):∀(l:al) (o:cY) (b:Nat),(∀p∈l,0<=p/\p<i)->i<o.length->(ov o i l).getD b false=(o.getD b false || (o.getD i false && l.contains (b:Int)))
 | [],o,b,_,_=>by rw[ov];simp
 | p::r,o,b,h,f=>by
  have j:=h p dB;rw[ov,OO i r _ b (λq g=>h q (.tail _ g)) (by rw[List.length_set];exact f),xo,xo,if_neg (c:=p.toNat=i/\_) aa,List.contains_cons];by_cases a:p.toNat=b
  ·rw[if_pos ⟨a,aa⟩,show ((b:Int)==p)=true from by rw[beq_iff_eq];omega,a];cases o.getD b false <;> cases o.getD i false <;> simp
  ·rw[if_neg (λe=>a e.1),show ((b:Int)==p)=false from by rw[beq_eq_false_iff_ne];omega];simp
theorem OP{W}(h:cy W):∀(k:Nat) (o:cY),k<=W.parents.length->o.length=3+W.parents.length->∀b,0<b->(rb W k o).getD b false=(o.getD b false || (List.range k).any λi=>o.getD (3+i) false && gy W (3+i) b)
 | 0,o,_,_,b,_=>by simp[rb]
 | k+1,o,r,m,b,q=>by
  have bV:=p3 h (i:=k) aa;have l:=λx=>OO (3+k) (W.parents.getD k default) o x (λp j=>by have:=bV p j;omega) aa;rw[rb,OP h k _ aa (by rw[Ho];exact m) b q,l,List.range_succ,List.any_append,List.any_cons,List.any_nil,Bool.or_false];rw[ou h aa,show (b==0)=false from by rw[beq_eq_false_iff_ne];omega,Bool.false_or];rw[Bool.eq_iff_iff];simp only[Bool.or_eq_true,Bool.and_eq_true,List.any_eq_true,List.mem_range,beq_iff_eq,l,List.contains_iff_mem];constructor
  ·rintro ((a | ⟨a,ak⟩) | ⟨i,g,a | ⟨a,ak⟩,c⟩)
   ·exact .inl a
   ·exact .inr (.inr ⟨a,.inr ⟨(b:Int),ak,Lf⟩⟩)
   ·exact .inr (.inl ⟨i,g,a,c⟩)
   ·exact .inr (.inr ⟨a,.inr ⟨_,ak,by rw[Int.toNat_natCast];exact c⟩⟩)
  ·rintro (a | ⟨i,g,a,c⟩ | ⟨a,ak | ⟨p,f,c⟩⟩)
   ·exact .inl (.inl a)
   ·exact .inr ⟨i,g,.inl a,c⟩
   ·subst ak;exact .inl (.inl a)
   ·have:=bV p f;refine .inr ⟨p.toNat - 3,aa,.inr ⟨a,?_⟩,?_⟩
    ·rw[show ((3+(p.toNat - 3):Nat):Int)=p from by omega];exact f
    ·rw[show 3+(p.toNat - 3)=p.toNat from by omega];exact c
def OQ(W)(c):(vg W c).length=3+W.parents.length:=by rw[vg,ON];simp
def YE(h:cy W){c}(l:3<=c)(g:c<3+W.parents.length){b}(j:0<b):(vg W c).getD b false=gy W c b:=by
 have f:∀x,((List.replicate (3+W.parents.length) false).set c true).getD x false=(c==x):=λx=>by
  rw[xo];by_cases e:c=x
  ·rw[if_pos ⟨e,by simpa using g⟩];simp[e]
  ·rw[if_neg (λq=>e q.1)];have:(c==x)=false:=by rw[beq_eq_false_iff_ne];exact e
   rw[this,List.getD_eq_getElem?_getD,List.getElem?_replicate];split <;> rfl
 rw[vg,OP h (c - 2) _ aa aT b j,f,Bool.eq_iff_iff];simp only[Bool.or_eq_true,Bool.and_eq_true,List.any_eq_true,List.mem_range,beq_iff_eq,f];constructor
 ·rintro (rfl | ⟨i,m,e,a⟩)
  ·exact um h g
  ·rw[e];exact a
 ·intro a;exact .inr ⟨c - 3,aa,aa,by rw[show 3+(c - 3)=c from by omega];exact a⟩
abbrev kn(o:cY):bl:=o.map λx=>ab.b x
def OR(o):kn o=(o.map λx=>[.b x]).flatten++[]:=by
 induction o with
 | nil=>rfl
 | cons x r a=>simpa using a
def xq(h:i<o.length):(kn o)[0+i*1]? =some (.b (o.getD i false)):=by
 rw[Nat.zero_add,Nat.mul_one,List.getElem?_map,List.getD_eq_getElem?_getD,List.getElem?_eq_getElem h];rfl
def sm{o o'}{x}(h:i<o.length)(e:o.set i x=o'):(kn o).take (0+i*1)++[.b x]++(kn o).drop (0+i*1+1)=kn o':=by
 subst e;rw[Nat.zero_add,Nat.mul_one,List.set_eq_take_append_cons_drop,if_pos h];simp
def YF{i j}{l:al}(h:j<l.length):ov o i (l.drop j)=ov (o.set (l.getD j default).toNat (bif o.getD (l.getD j default).toNat false then true else o.getD i false)) i (l.drop (j+1)):=by
 rw[List.drop_eq_getElem_cons h,ov,p1 h,eO]
def sn(h:i<o.length):Nat.ble (0+i*1+1) (kn o).length=true:=by rw[Nat.ble_eq];simp;omega
def OS(n):List.replicate n (.val (.bool false))=kn (List.replicate n false):=by rw[kn,List.map_replicate]
def YG{l:al}(h:i<l.length)(a:pc W (l.getD i default)=false):l.all (pc W)=false:=by
 rw[List.all_eq_false];exact⟨l.getD i default,hT h,by rw[a];simp⟩
mutual
def ko:Fact->Nat
 | .mk _ _ _ _ _ kids=>kR kids+1
def kR:List Fact->Nat
 | []=>0
 | k::r=>max (ko k) (kR r)
end
def YH(f):ko f=kR f.kids+1:=by cases f;rw[ko];rfl
theorem OT(x):∀l:List Fact,kR (l++[x])=max (kR l) (ko x)
 | []=>by simp[kR]
 | k::r=>by rw[List.cons_append,kR,kR,OT x r,Nat.max_assoc]
mutual
theorem OU:∀f:Fact,ko f<=cW f
 | .mk _ _ _ _ _ kids=>by rw[ko,cW];have:=OV kids;omega
theorem OV:∀l:List Fact,kR l<=fk l
 | []=>by simp[kR]
 | k::r=>by rw[kR,fk];have:=OU k;have:=OV r;omega
end
def OW{f k}(h:k∈f.kids):cW k<cW f:=by
 have:∀l:List Fact,k∈l->cW k<=fk l:=by
  intro l
  induction l with
  | nil=>intro h;cases h
  | cons y r a=>intro h;rw[fk];rcases List.mem_cons.1 h with rfl | h;omega;have:=a h;omega
 have:=this f.kids h;rw[p2 f];omega
def vh(W:bx)(f:Fact)(eL:Int):Prop:=1<=f.op/\f.op<=7/\eL=kj f.op/\(dp f=true->kO W f=true)
def YI(c:f.op=2)(a:(bif f.n !=0 then true else !jr W f.cls)=false):vh W f 0:=by
 rw[eO] at a;simp[Bool.or_eq_false_iff,bne_eq_false_iff_eq,Bool.not_eq_false'] at a;exact⟨aa,aa,by rw[c];rfl,λ_=>by simp[kO,c,a]⟩
def YJ(c:f.op=2)(a:(bif f.n !=0 then true else !jr W f.cls)=true):gS W f=false:=by
 rw[eO] at a;have g:((f.n==0) && jr W f.cls)=false:=by
  simp[Bool.or_eq_true,bne_iff_ne,Bool.not_eq_true'] at a;rw[Bool.and_eq_false_iff,beq_eq_false_iff_ne];exact a
 have h:dp f=true:=by simp[dp,c]
 rw[gS,if_pos h,kO,if_pos c,g];simp
def OX(c:f.op=3\/f.op=4)(a:(bif bif f.cls !=0 then true else decide (f.n< -1000000000) then true else decide (1000000000<f.n))=false):vh W f 0:=by
 rw[eO,eO] at a;simp[Bool.or_eq_false_iff,bne_eq_false_iff_eq,decide_eq_false_iff_not] at a;refine⟨aa,aa,?_,λ_=>?_⟩
 ·rcases c with e | e <;> rw[e] <;> rfl
 ·rw[kO,if_neg aa];simp[Bool.and_eq_true,beq_iff_eq,decide_eq_true_eq];omega
def OY(h:f.op=3\/f.op=4)(a:(bif bif f.cls !=0 then true else decide (f.n< -1000000000) then true else decide (1000000000<f.n))=true):gS W f=false:=by
 rw[eO,eO] at a;simp[Bool.or_eq_true,bne_iff_ne,decide_eq_true_eq] at a;have c:kO W f=false:=by
  rw[kO,if_neg aa];simp[Bool.and_eq_false_iff,beq_eq_false_iff_ne,decide_eq_false_iff_not];omega
 have g:dp f=true:=by simp[dp,Bool.and_eq_true,decide_eq_true_eq];omega
 rw[gS,if_pos g,c];simp
def De(h:f.op=1\/f.op=5\/f.op=6\/f.op=7)(a:eL=kj f.op):vh W f eL:=⟨aa,aa,a,λbq=>by simp[dp,Bool.and_eq_true,decide_eq_true_eq] at bq;omega⟩
def YK(h:f.op≠1/\f.op≠2/\f.op≠3/\f.op≠4/\f.op≠5/\f.op≠6/\f.op≠7):gS W f=false:=by
 have:(decide (1<=f.op) && decide (f.op<=7))=false:=by simp[Bool.and_eq_false_iff,decide_eq_false_iff_not];omega
 rw[gS,this];simp
def YL(h:jw f):jx W f=true:=by
 simp only[jw,Bool.not_eq_true',Bool.or_eq_false_iff,bne_eq_false_iff_eq,decide_eq_false_iff_not] at h;have a:f.path= []:=List.eq_nil_of_length_eq_zero aa;simp[jx,h.1.1.1,a,pe]
def OZ(h:vh W f eL):gS W f=((f.kids.length:Int)==eL && jx W f && (dp f || jw f)):=by
 obtain⟨g,c,rfl,j⟩:=h;rw[gS,decide_eq_true g,decide_eq_true c,Bool.true_and,Bool.true_and,Bool.and_assoc];congr 1;by_cases a:dp f=true
 ·rw[if_pos a,j a,a];simp
 ·rw[if_neg a,Bool.eq_false_iff.2 a,Bool.false_or];cases bV:jw f with
  | false=>simp
  | true=>rw[YL bV];rfl
def xr(h:gS W f=false):dS W f=false:=by
 cases hw:dS W f with
 | false=>rfl
 | true=>rw[(mS.1 hw).1] at h;cases h
def YM(a:i<f.kids.length)(h:dS W (f.kids.getD i default)=false):dS W f=false:=by
 cases hw:dS W f with
 | false=>rfl
 | true=>rw[(mS.1 hw).2 _ (hT a)] at h;cases h
def YN(h:gS W f)(a:f.kids.all (dS W)=true):dS W f=true:=mS.2 ⟨h,List.all_eq_true.1 a⟩
def YO(h:vh W f eL):(f.op==2 || f.op==3 || f.op==4)=dp f:=by
 rw[dp,Bool.eq_iff_iff];simp[Bool.or_eq_true,beq_iff_eq,Bool.and_eq_true,decide_eq_true_eq];omega
def O0:(bif bif bif (f.kids.length:Int) !=eL then true else decide (f.arg<0) then true else decide (3<=f.arg) then true else !pe W f.path)= !((f.kids.length:Int)==eL && jx W f):=by
 rw[eO,eO,eO,jx,bne];show (((_ || decide (f.arg<0)) || decide (3<=f.arg)) || _)= !(_ && !((decide (f.arg<0) || decide (3<=f.arg)) || _));generalize ((f.kids.length:Int)==eL)=a;generalize decide (f.arg<0)=b;generalize decide (3<=f.arg)=c;generalize pe W f.path=d;cases a <;> cases b <;> cases c <;> cases d <;> rfl
def YP:(bif bif bif f.arg !=0 then true else decide (0<(f.path.length:Int)) then true else f.cls !=0 then true else f.n !=0)= !jw f:=by
 rw[eO,eO,eO,jw,Bool.not_not]
def O1(a:vh W f eL)(c:((f.kids.length:Int)==eL && jx W f)=true):(bif !(f.op==2 || f.op==3 || f.op==4) then bif bif bif f.arg !=0 then true else decide (0<(f.path.length:Int)) then true else f.cls !=0 then true else f.n !=0 else false)= !gS W f:=by
 rw[YP,YO a,OZ a,c];cases dp f <;> cases jw f <;> rfl
mutual
theorem O2(W):∀(f:Fact) (left a:Int),dS W f=true->(cW f:Int)<=left->(ko f:Int)<=a->fz W f left a=(true,left - cW f)
 | .mk op arg path cls n kids,left,a,h,l,q=>by
  have j:=mS.1 h;rw[cW] at l ⊢;rw[ko] at q;rw[fz];have o:jb (.mk op arg path cls n kids) (left - 1) a=false:=by
   have c:=j.1;simp[gS,Bool.and_eq_true,decide_eq_true_eq,beq_iff_eq] at c;simp[jb,Bool.or_eq_false_iff,decide_eq_false_iff_not,bne_eq_false_iff_eq,beq_eq_false_iff_ne];refine⟨⟨⟨lK,aa⟩,aa⟩,c.1.2⟩
  rw[if_neg (by rw[o];simp)];have c:=j.1;rw[gS,Bool.and_eq_true] at c;by_cases g:dp (.mk op arg path cls n kids)=true
  ·have m:kids= []:=zY j.1 g;rw[if_pos g] at c ⊢;rw[c.2,m];simp[fk]
  ·rw[if_neg g] at c ⊢;rw[if_pos c.2];rw[O3 W kids (left - 1) (a - 1) (by rw[dS,Bool.and_eq_true] at h;exact h.2) aa aa];congr 1;omega
theorem O3(W):∀(l:List Fact) (left a:Int),q9 W l=true->(fk l:Int)<=left->(kR l:Int)<=a->en W l left a=(true,left - fk l)
 | [],left,a,_,_,_=>by rw[en,fk];simp
 | k::r,left,a,h,f,c=>by
  rw[q9,Bool.and_eq_true] at h;rw[fk] at f ⊢;rw[kR] at c;rw[en,O2 W k left a h.1 aa aa,if_pos rfl,O3 W r _ a h.2 aa aa];congr 1;omega
end
mutual
theorem O4(W):∀(f:Fact) (left a:Int),0<=a->(fz W f left a).1=true->(ko f:Int)<=a
 | .mk op arg path cls n kids,left,a,q,h=>by
  have o:=(Dd W _ _ _ h).1;rw[fz] at h;rw[ko];by_cases c:jb (.mk op arg path cls n kids) (left - 1) a=true
  ·rw[if_pos c] at h;cases h
  ·rw[if_neg c] at h;have l:1<=a:=by
    simp[jb,Bool.not_eq_true,Bool.or_eq_false_iff,beq_eq_false_iff_ne] at c;omega
   by_cases g:dp (.mk op arg path cls n kids)=true
   ·have m:kids= []:=zY (mS.1 o).1 g;subst m;simp[kR];omega
   ·rw[if_neg g] at h;by_cases j:jw (.mk op arg path cls n kids)=true
    ·rw[if_pos j] at h;have:=O5 W kids (left - 1) (a - 1) aa h;omega
    ·rw[if_neg j] at h;cases h
theorem O5(W):∀(l:List Fact) (left c:Int),0<=c->(en W l left c).1=true->(kR l:Int)<=c
 | [],left,c,g,_=>by rw[kR];omega
 | k::r,left,c,g,h=>by
  rw[en] at h;rw[kR];by_cases f:(fz W k left c).1=true
  ·rw[if_pos f] at h;have a:=O4 W k left c g f;have b:=O5 W r _ c g h;omega
  ·rw[if_neg f] at h;exact absurd h f
end
def YQ(W)(f):(decide (cW f<=24) && decide (ko f<=12) && dS W f)=lL W f:=by
 rw[Bool.eq_iff_iff];simp[Bool.and_eq_true,decide_eq_true_eq];constructor
 ·rintro⟨⟨a,c⟩,g⟩;rw[lL,O2 W f 24 12 g aa aa]
 ·intro h;have a:=tH h;have c:=O4 W f 24 12 aa h;exact⟨⟨a.2,aa⟩,a.1⟩
end Go.Eng.Fc

namespace Go.Eng.dO
open Go.Eng.Fc
structure cv where
 bC:cY
 params:List al
 nodes:al
 aw:al
abbrev ab.dy(l:cY):ab:=.aj 1 (l.map λb=>[ab.b b])
abbrev jU(t:cv):bl:=[ab.dy t.bC,ab.bp t.params,ab.ints t.nodes,ab.ints t.aw]
abbrev ab.dI(t:cv):ab:=.agg (jU t)
def aG(p:Prog):Nat:=3+p.aF.length
def cq(m:Nat)(k:Int):Bool:=decide (0<=k) && decide (k%2=0) && decide (k<2^m)
def p4(p:Prog)(m:Nat)(t:cv)(i:Nat):Bool:=((t.params.getD i default).length:Int)==p.c2.getD (p.methods.getD i default).gen.toNat default && (t.params.getD i default).all (cq m)
def h5(p:Prog)(t:cv):Bool:=
 decide (t.bC.length=p.methods.length) && decide (t.params.length=p.methods.length) && decide (t.nodes.length=p.nodes.length) && decide ((t.aw.length:Int)=p.aw) &&
 (List.range t.params.length).all (p4 p (aG p) t) && t.nodes.all (cq (aG p)) && t.aw.all (cq (aG p))
def ij(p:Prog)(t:cv):Bool:=(bu p).isSome && h5 p t
def dK(p:Prog)(c:Nat)(s:Int):Bool:=decide (3<=c) && (cw p c).contains s
def nF(p:Prog)(t:cv)(s:Int)(k:Nat×Bool):Nat×Bool:=
 (if(List.range (aG p)).any (λc=>k.1.testBit c && dK p c s) then (t.aw.getD s.toNat default).toNat else 0,k.2 || (List.range (aG p)).any λc=>k.1.testBit c && !dK p c s)
def kp(p:Prog)(t:cv)(c:Int)(path:al):Nat×Bool:=path.foldl (λk s=>nF p t s k) (2^c.toNat,false)
mutual
def cX(p:Prog)(t:cv)(l:al):Fact->Bool×Bool
 | .mk op arg path cls n kids=>
  if op=1 then (true,false)
  else if op=5 then ((so p t l kids).getD 0 default).swap
  else if op=6 then
   let x:=(so p t l kids).getD 0 default;let y:=(so p t l kids).getD 1 default
   (x.1 && y.1,x.1 && y.2 || x.2 && y.1 || x.2 && y.2)
  else if op=7 then
   let x:=(so p t l kids).getD 0 default;let y:=(so p t l kids).getD 1 default
   (x.1 && y.1 || x.1 && y.2 || x.2 && y.1,x.2 && y.2)
  else
   let k:=kp p t (l.getD arg.toNat default) path
   if op=2 then ((List.range (aG p)).any (λc=>k.1.testBit c && jg (bR p) c cls),k.2 || (List.range (aG p)).any λc=>k.1.testBit c && !jg (bR p) c cls)
   else (k.1.testBit 1,k.2 || decide (k.1≠0))
def so(p:Prog)(t:cv)(l:al):List Fact->List (Bool×Bool)
 | []=>[]
 | f::r=>cX p t l f::so p t l r
end
theorem O6(p)(t)(l):∀r:List Fact,so p t l r=r.map (cX p t l)
 | []=>rfl
 | f::r=>by rw[so,O6 p t l r];rfl
end Go.Eng.dO

namespace Go.Proofs.YtodccgailpkgeaaGreat
open Go.Proofs.Tryz
open Go.Eng
open Go.Eng.Fc
open Go.Eng.dO
open Go.ChangeShapes Go.WideShapes
variable{hc ff:al}{k:Nat}
def laidOut:laidOutB prog=true:=by kernel_rfl
instance:cQ prog 3 (false,1):=⟨ax⟩
instance:cQ prog 4 (false,1):=⟨ax⟩
instance:cQ prog 22 (false,1):=⟨ax⟩
instance:cQ prog 23 (false,1):=⟨ax⟩
instance:cQ prog 24 (false,1):=⟨ax⟩
instance:cQ prog 25 (false,1):=⟨ax⟩
instance:cQ prog 27 (true,6):=⟨ax⟩
instance:cQ prog 28 (false,1):=⟨ax⟩
instance:cQ prog 29 (false,1):=⟨ax⟩
instance:cQ prog 31 (true,4):=⟨ax⟩
instance:cQ prog 50 (false,1):=⟨ax⟩
instance:cQ prog 52 (true,3):=⟨ax⟩
instance:cQ prog 53 (false,1):=⟨ax⟩
instance:cQ prog 55 (true,3):=⟨ax⟩
instance:cQ prog 56 (false,1):=⟨ax⟩
instance:cQ prog 57 (false,1):=⟨ax⟩
instance:cQ prog 58 (false,1):=⟨ax⟩
instance:cQ prog 60 (true,6):=⟨ax⟩
instance:cQ prog 62 (true,9):=⟨ax⟩
instance:cQ prog 65 (false,1):=⟨ax⟩
instance:cQ prog 75 (false,1):=⟨ax⟩
instance:cQ prog 86 (true,2):=⟨ax⟩
instance:cQ prog 87 (false,1):=⟨ax⟩
instance:cQ prog 88 (false,1):=⟨ax⟩
instance:cQ prog 89 (false,1):=⟨ax⟩
instance:cQ prog 90 (false,1):=⟨ax⟩
instance:cQ prog 96 (false,1):=⟨ax⟩
instance:cQ prog 101 (true,2):=⟨ax⟩
instance:cQ prog 104 (false,1):=⟨ax⟩
instance:cQ prog 128 (false,1):=⟨ax⟩
instance:cQ prog 142 (true,9):=⟨ax⟩
instance:cQ prog 146 (false,1):=⟨ax⟩
instance:cQ prog 169 (true,2):=⟨ax⟩
instance:cQ prog 180 (false,1):=⟨ax⟩
instance:cQ prog 183 (false,1):=⟨ax⟩
instance:cQ prog 184 (false,1):=⟨ax⟩
instance:cQ prog 190 (false,1):=⟨ax⟩
instance:cQ prog 197 (false,1):=⟨ax⟩
instance:cQ prog 198 (true,2):=⟨ax⟩
instance:cQ prog 205 (true,2):=⟨ax⟩
instance:cQ prog 207 (true,0):=⟨ax⟩
instance:cQ prog 213 (false,1):=⟨ax⟩
instance:cQ prog 221 (false,1):=⟨ax⟩
instance:cQ prog 222 (false,1):=⟨ax⟩
instance:cQ prog 230 (false,1):=⟨ax⟩
instance:cQ prog 248 (true,1):=⟨ax⟩
instance:cQ prog 260 (true,6):=⟨ax⟩
instance:cQ prog 281 (false,1):=⟨ax⟩
instance:cQ prog 299 (false,1):=⟨ax⟩
instance:cQ prog 300 (false,1):=⟨ax⟩
instance:cQ prog 301 (false,1):=⟨ax⟩
instance:cQ prog 303 (true,7):=⟨ax⟩
instance:cQ prog 305 (true,0):=⟨ax⟩
instance:cQ prog 307 (false,1):=⟨ax⟩
instance:cQ prog 312 (false,1):=⟨ax⟩
instance:cQ prog 318 (true,4):=⟨ax⟩
instance:cK prog 27 0 0:=⟨ax⟩
instance:cK prog 27 1 1:=⟨ax⟩
instance:cK prog 27 2 2:=⟨ax⟩
instance:cK prog 27 3 3:=⟨ax⟩
instance:cK prog 27 4 4:=⟨ax⟩
instance:cK prog 27 5 5:=⟨ax⟩
instance:cK prog 31 0 0:=⟨ax⟩
instance:cK prog 31 1 1:=⟨ax⟩
instance:cK prog 31 2 2:=⟨ax⟩
instance:cK prog 31 3 3:=⟨ax⟩
instance:cK prog 52 0 0:=⟨ax⟩
instance:cK prog 52 1 1:=⟨ax⟩
instance:cK prog 52 2 2:=⟨ax⟩
instance:cK prog 55 0 0:=⟨ax⟩
instance:cK prog 55 1 1:=⟨ax⟩
instance:cK prog 55 2 2:=⟨ax⟩
instance:cK prog 60 0 0:=⟨ax⟩
instance:cK prog 60 1 1:=⟨ax⟩
instance:cK prog 60 2 2:=⟨ax⟩
instance:cK prog 60 3 3:=⟨ax⟩
instance:cK prog 60 4 4:=⟨ax⟩
instance:cK prog 60 5 5:=⟨ax⟩
instance:cK prog 62 0 0:=⟨ax⟩
instance:cK prog 62 1 1:=⟨ax⟩
instance:cK prog 62 2 2:=⟨ax⟩
instance:cK prog 62 3 8:=⟨ax⟩
instance:cK prog 86 0 0:=⟨ax⟩
instance:cK prog 86 1 1:=⟨ax⟩
instance:cK prog 92 0 0:=⟨ax⟩
instance:cK prog 92 1 4:=⟨ax⟩
instance:cK prog 92 3 12:=⟨ax⟩
instance:cK prog 92 4 13:=⟨ax⟩
instance:cK prog 92 5 14:=⟨ax⟩
instance:cK prog 92 6 15:=⟨ax⟩
instance:cK prog 92 7 16:=⟨ax⟩
instance:cK prog 92 8 17:=⟨ax⟩
instance:cK prog 101 0 0:=⟨ax⟩
instance:cK prog 101 1 1:=⟨ax⟩
instance:cK prog 142 0 0:=⟨ax⟩
instance:cK prog 142 1 1:=⟨ax⟩
instance:cK prog 142 2 4:=⟨ax⟩
instance:cK prog 142 3 7:=⟨ax⟩
instance:cK prog 142 4 8:=⟨ax⟩
instance:cK prog 152 0 0:=⟨ax⟩
instance:cK prog 152 1 6:=⟨ax⟩
instance:cK prog 152 2 10:=⟨ax⟩
instance:cK prog 169 0 0:=⟨ax⟩
instance:cK prog 169 1 1:=⟨ax⟩
instance:cK prog 187 0 0:=⟨ax⟩
instance:cK prog 187 1 2:=⟨ax⟩
instance:cK prog 205 0 0:=⟨ax⟩
instance:cK prog 205 1 1:=⟨ax⟩
instance:cK prog 224 0 0:=⟨ax⟩
instance:cK prog 224 1 1:=⟨ax⟩
instance:cK prog 224 2 2:=⟨ax⟩
instance:cK prog 256 0 0:=⟨ax⟩
instance:cK prog 256 1 6:=⟨ax⟩
instance:cK prog 256 2 8:=⟨ax⟩
instance:cK prog 260 0 0:=⟨ax⟩
instance:cK prog 260 1 2:=⟨ax⟩
instance:cK prog 260 2 3:=⟨ax⟩
instance:cK prog 260 3 4:=⟨ax⟩
instance:cK prog 260 4 5:=⟨ax⟩
instance:cK prog 303 0 0:=⟨ax⟩
instance:cK prog 303 1 6:=⟨ax⟩
instance:cK prog 314 0 0:=⟨ax⟩
instance:cK prog 314 1 1:=⟨ax⟩
instance:cK prog 318 1 1:=⟨ax⟩
instance:cK prog 318 2 2:=⟨ax⟩
instance:cK prog 324 0 0:=⟨ax⟩
instance:cK prog 324 1 1:=⟨ax⟩
instance:cK prog 324 2 2:=⟨ax⟩
instance:cK prog 326 0 0:=⟨ax⟩
instance:cK prog 326 1 3:=⟨ax⟩
instance:cK prog 326 2 4:=⟨ax⟩
instance:cK prog 326 3 5:=⟨ax⟩
instance:cK prog 326 4 6:=⟨ax⟩
instance:cK prog 326 5 7:=⟨ax⟩
instance:eE prog 22 3:=⟨ax⟩
instance:eE prog 23 1:=⟨ax⟩
instance:eE prog 24 9:=⟨ax⟩
instance:eE prog 25 3:=⟨ax⟩
instance:eE prog 28 1:=⟨ax⟩
instance:eE prog 29 1:=⟨ax⟩
instance:eE prog 53 2:=⟨ax⟩
instance:eE prog 58 6:=⟨ax⟩
instance:eE prog 87 1:=⟨ax⟩
instance:eE prog 88 1:=⟨ax⟩
instance:eE prog 221 1:=⟨ax⟩
instance:eE prog 236 1:=⟨ax⟩
instance:eE prog 299 7:=⟨ax⟩
instance:uE prog 140 (3,1):=⟨ax⟩
instance:uE prog 185 (63,1):=⟨ax⟩
instance:uE prog 198 (2,1):=⟨ax⟩
instance:uE prog 248 (1,1):=⟨ax⟩
instance:gp prog 3 [aY]:=⟨ax⟩
instance:gp prog 4 [.bool false]:=⟨ax⟩
instance:gp prog 23 [aX]:=⟨ax⟩
instance:gp prog 27 [aX,aY,aX,aX,aX,aY]:=⟨ax⟩
instance:gp prog 31 [aX,aX,aX,aX]:=⟨ax⟩
instance:gp prog 52 [aY,aY,aX]:=⟨ax⟩
instance:gp prog 55 [aX,aX,aX]:=⟨ax⟩
instance:gp prog 60 [aY,aY,aX,aY,aY,aX]:=⟨ax⟩
instance:gp prog 62 [aY,aY,aY,aY,aX,aY,aY,aX,aY]:=⟨ax⟩
instance:gp prog 65 [.nilFunc]:=⟨ax⟩
instance:gp prog 75 [.pointer none]:=⟨ax⟩
instance:gp prog 86 [aX,aX]:=⟨ax⟩
instance:gp prog 101 [aY,aY]:=⟨ax⟩
instance:gp prog 104 [.int .u8 0]:=⟨ax⟩
instance:gp prog 142 [aY,aY,aY,aX,aY,aY,aY,aX,aY]:=⟨ax⟩
instance:gp prog 169 [aY,aY]:=⟨ax⟩
instance:gp prog 190 [.map none]:=⟨ax⟩
instance:gp prog 198 [aY,aY]:=⟨ax⟩
instance:gp prog 205 [aY,.bool false]:=⟨ax⟩
instance:gp prog 207 []:=⟨ax⟩
instance:gp prog 213 [.nilFunc]:=⟨ax⟩
instance:gp prog 248 [c0]:=⟨ax⟩
instance:gp prog 260 [aX,aX,aX,aY,aX,.bool false]:=⟨ax⟩
instance:gp prog 281 [c0]:=⟨ax⟩
instance:gp prog 301 [.nilFunc]:=⟨ax⟩
instance:gp prog 303 [aY,aY,aX,aY,aY,aX,.bool false]:=⟨ax⟩
instance:gp prog 305 []:=⟨ax⟩
instance:gp prog 318 [aY,aY,aY,aY]:=⟨ax⟩
instance:Fs prog 4:=⟨ax⟩
instance:rT prog 3 .i64:=⟨ax⟩
instance:rT prog 5 .u8:=⟨ax⟩
instance:rT prog 45 .u16:=⟨ax⟩
instance:rT prog 183 .u64:=⟨ax⟩
instance:rT prog 210 .u64:=⟨ax⟩
instance:rT prog 239 .u32:=⟨ax⟩
instance:rT prog 281 .u64:=⟨ax⟩
def YR:Go.Maps.Keyed prog 318:=Go.Maps.Keyed.of_law (deep_law_laid laidOut (m:=3) aa (of_decide_eq_true ax) ax ax)
instance:y9 prog 312 (318,321):=⟨ax,YR,ax⟩
instance:hv prog 27 ([aX,aY,aX,aX,aX,aY],[(0,1),(1,1),(2,1),(3,1),(4,1),(5,1)]):=⟨ax⟩
instance:hv prog 31 ([aX,aX,aX,aX],[(0,1),(1,1),(2,1),(3,1)]):=⟨ax⟩
instance:hv prog 52 ([aY,aY,aX],[(0,1),(1,1),(2,1)]):=⟨ax⟩
instance:hv prog 55 ([aX,aX,aX],[(0,1),(1,1),(2,1)]):=⟨ax⟩
instance:hv prog 60 ([aY,aY,aX,aY,aY,aX],[(0,1),(1,1),(2,1),(3,1),(4,1),(5,1)]):=⟨ax⟩
instance:hv prog 62 ([aY,aY,aY,aY,aX,aY,aY,aX,aY],[(0,1),(1,1),(2,6),(8,1)]):=⟨ax⟩
instance:hv prog 86 ([aX,aX],[(0,1),(1,1)]):=⟨ax⟩
instance:hv prog 92 ([aX,aX,aX,aX,aX,aY,aX,aX,aX,aY,aX,aX,aX,aX,aX,.map none,.map none,.bool false],[(0,4),(4,6),(10,2),(12,1),(13,1),(14,1),(15,1),(16,1),(17,1)]):=⟨ax⟩
instance:hv prog 101 ([aY,aY],[(0,1),(1,1)]):=⟨ax⟩
instance:hv prog 142 ([aY,aY,aY,aX,aY,aY,aY,aX,aY],[(0,1),(1,3),(4,3),(7,1),(8,1)]):=⟨ax⟩
instance:hv prog 152 ([aX,aY,aX,aX,aX,aY,aX,aX,aX,aX,aX],[(0,6),(6,4),(10,1)]):=⟨ax⟩
instance:hv prog 169 ([aY,aY],[(0,1),(1,1)]):=⟨ax⟩
instance:hv prog 176 ([],[]):=⟨ax⟩
instance:hv prog 187 ([aX,aX,c0,c0,c0,c0,c0,c0,c0,c0,c0,c0,c0,c0,c0,c0,c0,c0,c0,c0,c0,c0,c0,c0,c0,c0,c0,c0,c0,c0,c0,c0,c0,c0,c0,c0,c0,c0,c0,c0,c0,c0,c0,c0,c0,c0,c0,c0,c0,c0,c0,c0,c0,c0,c0,c0,c0,c0,c0,c0,c0,c0,c0,c0,c0],[(0,2),(2,63)]):=⟨ax⟩
instance:hv prog 198 ([aY,aY],[(0,1),(1,1)]):=⟨ax⟩
instance:hv prog 205 ([aY,.bool false],[(0,1),(1,1)]):=⟨ax⟩
instance:hv prog 207 ([],[]):=⟨ax⟩
instance:hv prog 224 ([aX,aX,.map none],[(0,1),(1,1),(2,1)]):=⟨ax⟩
instance:hv prog 248 ([c0],[(0,1)]):=⟨ax⟩
instance:hv prog 256 ([aX,aY,aX,aX,aX,aY,aX,aX,.map none],[(0,6),(6,2),(8,1)]):=⟨ax⟩
instance:hv prog 260 ([aX,aX,aX,aY,aX,.bool false],[(0,2),(2,1),(3,1),(4,1),(5,1)]):=⟨ax⟩
instance:hv prog 303 ([aY,aY,aX,aY,aY,aX,.bool false],[(0,6),(6,1)]):=⟨ax⟩
instance:hv prog 305 ([],[]):=⟨ax⟩
instance:hv prog 314 ([.pointer none,.map none],[(0,1),(1,1)]):=⟨ax⟩
instance:hv prog 318 ([aY,aY,aY,aY],[(0,1),(1,1),(2,2)]):=⟨ax⟩
instance:hv prog 324 ([aY,aY,aX],[(0,1),(1,1),(2,1)]):=⟨ax⟩
instance:hv prog 326 ([aY,aY,aX,c0,c0,.bool false,.bool false,aX],[(0,3),(3,1),(4,1),(5,1),(6,1),(7,1)]):=⟨ax⟩
instance:j9 prog 22 (3,[aX,aX,aX]):=⟨ax⟩
instance:j9 prog 23 (1,[aY]):=⟨ax⟩
instance:j9 prog 24 (9,[aY,aY,aY,aY,aX,aY,aY,aX,aY]):=⟨ax⟩
instance:j9 prog 25 (3,[aY,aY,aX]):=⟨ax⟩
instance:j9 prog 28 (1,[.bool false]):=⟨ax⟩
instance:j9 prog 29 (1,[aX]):=⟨ax⟩
instance:j9 prog 53 (2,[aY,aY]):=⟨ax⟩
instance:j9 prog 58 (6,[aY,aY,aX,aY,aY,aX]):=⟨ax⟩
instance:j9 prog 87 (1,[aX]):=⟨ax⟩
instance:j9 prog 88 (1,[.map none]):=⟨ax⟩
instance:j9 prog 221 (1,[c0]):=⟨ax⟩
instance:j9 prog 236 (1,[aX]):=⟨ax⟩
instance:j9 prog 299 (7,[aY,aY,aX,aY,aY,aX,.bool false]):=⟨ax⟩
instance:fi prog 22 (55,3,72):=⟨ax⟩
instance:fi prog 23 (3,1,8):=⟨ax⟩
instance:fi prog 24 (62,9,104):=⟨ax⟩
instance:fi prog 25 (52,3,40):=⟨ax⟩
instance:fi prog 28 (4,1,1):=⟨ax⟩
instance:fi prog 29 (23,1,24):=⟨ax⟩
instance:fi prog 53 (101,2,16):=⟨ax⟩
instance:fi prog 58 (60,6,80):=⟨ax⟩
instance:fi prog 87 (28,1,24):=⟨ax⟩
instance:fi prog 88 (128,1,8):=⟨ax⟩
instance:fi prog 221 (248,1,8):=⟨ax⟩
instance:fi prog 236 (58,1,24):=⟨ax⟩
instance:fi prog 299 (303,7,88):=⟨ax⟩
def mixed:prog.follows .mixedOrders=true:=by kernel_rfl
section
variable{H:Type}{enc:TypeId×Value->H}{w:World}{base:Nat}{spare:Nat->Bool}{held:Bool}{bs:DataW H->Nat}
def tJ(a:iX bs)(n):ju enc prog w base spare held bs n 3 (λq:Int=>[.i q]) (λ_ _=>True):=(zf underlying3).b
def z7(f:iX bs)(n):ju enc prog w base spare held bs n 23 (λl:al=>[.ints l]) (λ(l:List _) (b:Nat)=>l.length<=b):=λfuel o j x h=>by
 obtain⟨l,g,m⟩:=uS (n:=n) f (k:=1) (Q:=λ_ _=>True) (λy a b=>λ_ _=>trivial) underlying23 ax aa (λ_=>rfl) (tJ f n) fuel aa j x h;exact⟨l,g,m.1⟩
def YS(a:iX bs)(n):ju enc prog w base spare held bs n 50 (λq:Int=>[.i q]) (λ_ _=>True):=(zf underlying50).b
def YT(a:iX bs)(n):ju enc prog w base spare held bs n 56 (λq:Int=>[.i q]) (λ_ _=>True):=(zf underlying56).b
def YU(l:iX bs)(n):ju enc prog w base spare held bs n 101 (q5) (λ_ _=>True):=λfuel B r x h=>by
 obtain⟨z,m,rfl,A,c,hn,f⟩:=DataW.trod_struct underlying101 h;have c:r.length=2:=c.trans ax;have j:=f 0 _ rfl;have g:=f 1 _ rfl;rw[List.getElem?_eq_getElem oS] at j g;obtain⟨o,q,v⟩:=tJ l m m ft _ _ j;obtain⟨s,aB,t⟩:=tJ l m m ft _ _ g;refine⟨⟨o,s⟩,?_,trivial⟩;have:=(jQ (a:=0) (n:=1) (m:=1) q aB);rwa [List.drop_zero,List.take_of_length_le aa] at this
def YV(f:iX bs)(n):ju enc prog w base spare held bs n 53 (λl:List (Int×Int)=>[.aj 2 (l.map q5)]) (λ_ _=>True):=λfuel m j x h=>by
 obtain⟨l,g,_⟩:=uS (n:=n) f (k:=2) (Q:=λ_ _=>True) (λy a b=>λ_ _=>trivial) underlying53 ax aa (λ_=>rfl) (YU f n) fuel aa j x h;exact⟨l,g,trivial⟩
def YW(g:iX bs)(n):ju enc prog w base spare held bs n 55 (pf) (λ(c:ih) (b:Nat)=>c.parents.length<=b):=λfuel J H x h=>by
 obtain⟨A,m,rfl,C,v,hn,o⟩:=DataW.trod_struct underlying55 h;have v:H.length=3:=v.trans ax;have B:=o 0 _ rfl;have ae:=o 1 _ rfl;have f:=o 2 _ rfl;rw[List.getElem?_eq_getElem oS] at B ae f;obtain⟨t,G,r⟩:=z7 g m m ft _ _ B;obtain⟨D,aB,z⟩:=z7 g m m ft _ _ ae;obtain⟨E,F,I⟩:=YV g m m ft _ _ f;have s:bs (A[0]'oS).1<=bs x.1:=by rw[C];exact g.aU _ _ zB
 replace r:(λ(l:List _) (b:Nat)=>l.length<=b) t (bs x.1):=(λae f=>Nat.le_trans f ae) s r;have q:bs (A[1]'oS).1<=bs x.1:=by rw[C];exact g.aU _ _ zB
 replace z:(λ(l:List _) (b:Nat)=>l.length<=b) D (bs x.1):=(λae f=>Nat.le_trans f ae) q z;refine⟨⟨t,D,E⟩,?_,r⟩;have:=(jQ (a:=0) (n:=2) (m:=1) (jQ (a:=0) (n:=1) (m:=1) G aB) F);rwa [List.drop_zero,List.take_of_length_le aa] at this
def YX(g:iX bs)(n):ju enc prog w base spare held bs n 22 (λl:List ih=>[.aj 3 (l.map pf)]) (λ(l:List ih) (b:Nat)=>l.length<=b/\∀c∈l,c.parents.length<=b):=λfuel s m x h=>by
 obtain⟨l,j,q⟩:=uS (n:=n) g (k:=3) (Q:=λ(c:ih) (b:Nat)=>c.parents.length<=b) (λy a b=>λae o=>Nat.le_trans o ae) underlying22 ax aa (λ_=>rfl) (YW g n) fuel aa m x h;exact⟨l,j,q⟩
theorem O7:∀n:Nat,Reads enc prog w base spare held n 60 fy
 | 0,f,H,t,x,h=>by
  obtain⟨F,m,rfl,_⟩:=DataW.trod_struct underlying60 h;omega
 | n+1,f,H,t,x,h=>by
  obtain⟨F,m,rfl,_,l,hn,c⟩:=DataW.trod_struct underlying60 h;have l:t.length=6:=l.trans ax;have z:=c 0 _ rfl;have v:=c 1 _ rfl;have B:=c 2 _ rfl;have A:=c 3 _ rfl;have o:=c 4 _ rfl;have r:=c 5 _ rfl;rw[List.getElem?_eq_getElem oS] at z v B A o r;have j:Reads enc prog w base spare held m 3 (λq:Int=>[.i q]):=zf underlying3;obtain⟨I,K⟩:=zf (n:=m) underlying57 m ft _ _ z;obtain⟨L,aB⟩:=j m ft _ _ v;obtain⟨D,M⟩:=Ms (n:=m) (k:=1) underlying23 ax aa (λ_=>rfl) j m aa _ _ B;obtain⟨J,G⟩:=j m ft _ _ A;obtain⟨C,E⟩:=j m ft _ _ o;obtain⟨s,g⟩:=Ms (n:=n) (k:=6) underlying58 ax aa (λ_=>rfl) (O7 n) m aa _ _ r;refine⟨.mk I L D J C s,?_⟩;have g:bU (allI w) w [.aj 6 (s.map fy)] _:=g;rw[<-oU] at g;have:=jQ (a:=0) (m:=1) (jQ (a:=0) (m:=1) (jQ (a:=0) (n:=3) (m:=1) (jQ (a:=0) (n:=2) (m:=1) (jQ (a:=0) (n:=1) (m:=1) K aB) M) G) E) g;rwa [List.drop_zero,List.take_of_length_le aa] at this
def YY(a:iX bs)(n):ju enc prog w base spare held bs n 60 fy (λ_ _=>True):=(O7 n).b
def YZ(f:iX bs)(n):ju enc prog w base spare held bs n 62 (eS) (λ_ _=>True):=λfuel J A x h=>by
 obtain⟨G,m,rfl,H,g,hn,c⟩:=DataW.trod_struct underlying62 h;have g:A.length=9:=g.trans ax;have l:=c 0 _ rfl;have j:=c 1 _ rfl;have q:=c 2 _ rfl;have o:=c 3 _ rfl;rw[List.getElem?_eq_getElem oS] at l j q o;obtain⟨r,z,F⟩:=YT f m m ft _ _ l;obtain⟨B,aB,D⟩:=tJ f m m ft _ _ j;obtain⟨t,v,E⟩:=YY f m m ft _ _ q;obtain⟨s,C,I⟩:=tJ f m m ft _ _ o;refine⟨⟨r,B,t,s⟩,?_,trivial⟩;have:=(jQ (a:=0) (m:=1) (jQ (a:=0) (n:=2) (m:=6) (jQ (a:=0) (n:=1) (m:=1) z aB) v) C);rwa [List.drop_zero,List.take_of_length_le aa] at this
def Y0(f:iX bs)(n):ju enc prog w base spare held bs n 24 (λl:List hC=>[.aj 9 (l.map eS)]) (λ_ _=>True):=λfuel m j x h=>by
 obtain⟨l,g,_⟩:=uS (n:=n) f (k:=9) (Q:=λ_ _=>True) (λy a b=>λ_ _=>trivial) underlying24 ax aa (λ_=>rfl) (YZ f n) fuel aa j x h;exact⟨l,g,trivial⟩
def Y1(f:iX bs)(n):ju enc prog w base spare held bs n 52 (hU) (λ_ _=>True):=λfuel H C x h=>by
 obtain⟨A,m,rfl,D,q,hn,j⟩:=DataW.trod_struct underlying52 h;have q:C.length=3:=q.trans ax;have t:=j 0 _ rfl;have ae:=j 1 _ rfl;have c:=j 2 _ rfl;rw[List.getElem?_eq_getElem oS] at t ae c;obtain⟨v,B,G⟩:=YS f m m ft _ _ t;obtain⟨E,aB,F⟩:=tJ f m m ft _ _ ae;obtain⟨r,z,s⟩:=z7 f m m ft _ _ c;have g:bs (A[2]'oS).1<=bs x.1:=by rw[D];exact f.aU _ _ zB
 replace s:(λ(l:List _) (b:Nat)=>l.length<=b) r (bs x.1):=(λae c=>Nat.le_trans c ae) g s;refine⟨⟨v,E,r⟩,?_,trivial⟩;have:=(jQ (a:=0) (n:=2) (m:=1) (jQ (a:=0) (n:=1) (m:=1) B aB) z);rwa [List.drop_zero,List.take_of_length_le aa] at this
def Y2(f:iX bs)(n):ju enc prog w base spare held bs n 25 (λl:List gR=>[.aj 3 (l.map hU)]) (λ_ _=>True):=λfuel m j x h=>by
 obtain⟨l,g,_⟩:=uS (n:=n) f (k:=3) (Q:=λ_ _=>True) (λy a b=>λ_ _=>trivial) underlying25 ax aa (λ_=>rfl) (Y1 f n) fuel aa j x h;exact⟨l,g,trivial⟩
def Y3(f:iX bs)(n):ju enc prog w base spare held bs n 27 (cH) (λ(p:Prog) (b:Nat)=>p.aF.length<=b/\∀c∈p.aF,c.parents.length<=b):=λfuel T N x h=>by
 obtain⟨B,m,rfl,G,t,hn,j⟩:=DataW.trod_struct underlying27 h;have t:N.length=6:=t.trans ax;have E:=j 0 _ rfl;have ae:=j 1 _ rfl;have g:=j 2 _ rfl;have F:=j 3 _ rfl;have v:=j 4 _ rfl;have A:=j 5 _ rfl;rw[List.getElem?_eq_getElem oS] at E ae g F v A;obtain⟨C,Q,s⟩:=YX f m m ft _ _ E;obtain⟨R,aB,S⟩:=tJ f m m ft _ _ ae;obtain⟨z,K,D⟩:=z7 f m m ft _ _ g;obtain⟨P,O,W⟩:=Y0 f m m ft _ _ F;obtain⟨I,L,U⟩:=Y2 f m m ft _ _ v;obtain⟨M,H,V⟩:=tJ f m m ft _ _ A;have r:bs (B[0]'oS).1<=bs x.1:=by rw[G];exact f.aU _ _ zB
 replace s:(λ(l:List ih) (b:Nat)=>l.length<=b/\∀c∈l,c.parents.length<=b) C (bs x.1):=(λae g=>⟨Nat.le_trans g.1 ae,λc J=>Nat.le_trans (g.2 c J) ae⟩) r s;have q:bs (B[2]'oS).1<=bs x.1:=by rw[G];exact f.aU _ _ zB
 replace D:(λ(l:List _) (b:Nat)=>l.length<=b) z (bs x.1):=(λae g=>Nat.le_trans g ae) q D;refine⟨⟨C,R,z,P,I,M⟩,?_,s⟩;have:=(jQ (a:=0) (m:=1) (jQ (a:=0) (n:=4) (m:=1) (jQ (a:=0) (n:=3) (m:=1) (jQ (a:=0) (n:=2) (m:=1) (jQ (a:=0) (n:=1) (m:=1) Q aB) K) O) L) H);rwa [List.drop_zero,List.take_of_length_le aa] at this
def Y4(eD:iX bs)(n:Nat):ju enc prog w base spare held bs n 4 (λq:Bool=>[ab.b q]) (λ_ _=>True):=λfuel _ cs x h=>by
 obtain⟨q,rfl,_⟩:=DataW.trod_bool underlying4 h;exact⟨q,.cons _ _ _ _ (.val _) .nil,trivial⟩
def Y5(eD:iX bs)(n:Nat):ju enc prog w base spare held bs n 28 (λl:cY=>[ab.dy l]) (λ_ _=>True):=λfuel b7 cs x h=>by
 obtain⟨l,bq,_⟩:=uS (n:=n) eD (k:=1) (Q:=λ_ _=>True) (λy a b=>λ_ _=>trivial) underlying28 ax aa (λ_=>rfl) (Y4 eD n) fuel aa cs x h;exact⟨l,bq,trivial⟩
def Hp(eD:iX bs)(n:Nat):ju enc prog w base spare held bs n 23 (λl:al=>[ab.ints l]) (λ_ _=>True):=λfuel b7 cs x h=>let ⟨l,bq,_⟩:=z7 eD n fuel b7 cs x h;⟨l,bq,trivial⟩
def Y6(eD:iX bs)(n:Nat):ju enc prog w base spare held bs n 29 (λl:List al=>[ab.bp l]) (λ_ _=>True):=λfuel b7 cs x h=>by
 obtain⟨l,bq,_⟩:=uS (n:=n) eD (k:=1) (Q:=λ_ _=>True) (λy a b=>λ_ _=>trivial) underlying29 ax aa (λ_=>rfl) (Hp eD n) fuel aa cs x h;exact⟨l,bq,trivial⟩
def Y7(eD:iX bs)(n:Nat):ju enc prog w base spare held bs n 31 (jU) (λ_ _=>True):=λfuel b7 cs x h=>by
 obtain⟨xs,m,rfl,aK,bq,hn,av⟩:=DataW.trod_struct underlying31 h;have bq:cs.length=4:=bq.trans ax;have af:=av 0 _ rfl;have ae:=av 1 _ rfl;have ak:=av 2 _ rfl;have aL:=av 3 _ rfl;rw[List.getElem?_eq_getElem oS] at af ae ak aL;obtain⟨lE,Hq,Hr⟩:=Y5 eD m m (Nat.le_refl _) _ _ af;obtain⟨Cz,aB,gI⟩:=Y6 eD m m (Nat.le_refl _) _ _ ae;obtain⟨Y8,fN,fF⟩:=Hp eD m m (Nat.le_refl _) _ _ ak;obtain⟨Y9,rW,fc⟩:=Hp eD m m (Nat.le_refl _) _ _ aL;refine⟨⟨lE,Cz,Y8,Y9⟩,?_,trivial⟩;have:=(jQ (a:=0) (n:=3) (m:=1) (jQ (a:=0) (n:=2) (m:=1) (jQ (a:=0) (n:=1) (m:=1) Hq aB) fN) rW);rwa [List.drop_zero,List.take_of_length_le aa] at this
end
section
variable{H:Type}{enc:TypeId×Value->H}{w:World}{v:Value}{d:DataW H}{b5:List MemPlace}{base alf:Nat}{r:Reach}{bs:DataW H->Nat}
def Za(j:iX bs)(h:DataW.Trod enc prog w base (λ_=>true) true 27 v d b5):∃g:Prog,Rel (allI w) w (ab.prog g) v/\(g.aF.length<=bs d/\∀c∈g.aF,c.parents.length<=bs d):=by
 obtain⟨a,h⟩:=h;obtain⟨g,f,l⟩:=Y3 j a a ft _ _ h;exact⟨g,Mt f aT,l⟩
def Zb{p:Prog}{n}(hn:n<=1048576)(h:p.aF.length<=n/\∀c∈p.aF,c.parents.length<=n):p.Small:=⟨aa,λc a=>by have:=h.2 c a;omega⟩
def Zc(eD:iX bs)(h:DataW.Trod enc prog w base (λ_=>true) true 31 v d b5):∃g:cv,Rel (allI w) w (ab.dI g) v:=by
 obtain⟨fuel,h⟩:=h;obtain⟨g,av,_⟩:=Y7 eD fuel fuel (Nat.le_refl _) _ _ h;exact⟨g,Mt av aT⟩
end
def Zd{H:Type}(d:DataW H):1<=Rows.uptoBulk d:=by
 cases d with
 | lit l=>cases l <;> simp[Rows.uptoBulk]
 | _=>simp[Rows.uptoBulk]
theorem O8{H}:∀l:List (DataW H),l.length<=Rows.uptoBulkAll l
 | []=>by simp
 | d::r=>by
  have c:=Zd d;have a:=O8 r;simp[Rows.uptoBulkAll,List.length_cons];omega
theorem Ht{H}:∀l:List (DataW H),∀e∈l,Rows.uptoBulk e<=Rows.uptoBulkAll l
 | d::r,e,a=>by
  simp[Rows.uptoBulkAll];rcases List.mem_cons.1 a with rfl | a
  ·omega
  ·have:=Ht r e a;omega
def Hu{H}:iX (Rows.uptoBulk (H:=H)):=
 ⟨λes sp=>by have:=O8 es;simp[Rows.uptoBulk];omega,λes sp e a=>by have:=Ht es e a;simp[Rows.uptoBulk];omega,λb5 e a=>by have:=Ht b5 e a;simp[Rows.uptoBulk];omega⟩
abbrev vi:Value:=.iface 207 (.agg #[])
abbrev tK:ab:=.iface 207 (.agg [])
def eU:tK.Const vi where
 is I w u h:=by
  cases h with
  | iface _ _ v h=>cases h with
   | agg _ a h=>
    have:a= #[]:=by cases a with | mk l=>cases h;rfl
    rw[this]
 rel I w:=.iface _ _ _ (.agg _ _ .nil)
def Lg:Option (Option Nat)->ab
 | none=>.val .nilIface
 | some none=>.iface 176 (.agg [])
 | some (some k)=>.iface 174 (.i k)
def mT{b}(c:b=true)(H):pT prog 126 [.b b] H (some (.bj [],H)) H tK:=by
 refine aM func126 λB I f=>?_;refine ay ?_;refine bc (λaf=>?_) λaf=>?_
 ·simp[c] at af
 ·replace af:=dA af;refine aR ?_;refine gQ [] H ?_;exact rfl
def mh{b}(c:b=false)(H):pT prog 126 [.b b] H none H tK:=by
 refine aM func126 λB I f=>?_;refine ay ?_;refine bc (λaf=>?_) λaf=>?_
 ·replace af:=dA af;refine aQ ?_;refine ag uZ ?_;refine .Ww rfl rfl rfl rfl eU ?_;exact kL eU ig XZ
 ·simp[c] at af
def O9(n):aI prog 167 [.i n] (.b (om n)):=by
 intro H;refine aM func167 λB I a=>?_;refine gv ?_;refine aB 2 H ?_;exact⟨bn (by unfold om;by_cases h: -1000000000<=n <;> simp[h]),rfl⟩
def Ze(l)(v):aI prog 115 [.ints l,.i v] (.i (u3 l v)):=by
 intro H;refine aM func115 λB I g=>?_;refine .ez (t:=0) rfl λgP=>?_;refine c6 ?_;refine bm (λm a=>∃k:Nat,a=⟨[(8,.i k),(7,.i l.length),(0,.ints l),(1,.i v)],H⟩/\m=l.length - k/\k<=l.length/\∀x∈l.take k,x≠v) ⟨0,rfl,rfl,aT,aT⟩ ?_;rintro m _ ⟨k,rfl,rfl,f,bV⟩;refine ay ?_;refine az (λaf=>?_) λaf=>?_
 ·refine iY ?_;refine az (λae=>?_) λae=>?_
  ·refine bS ?_;refine aB 4 H ?_;exact⟨fJ (X5 aa bV ae),rfl⟩
  ·refine aP ?_;exact aU ⟨k+1,rfl,rfl,aa,Nz aa bV ae⟩
 ·refine bA ?_;refine aB 4 H ?_;exact⟨fJ (X6 Lt),rfl⟩
def z8(l)(v):aI prog 78 [.ints l,.i v] (.b (l.contains v)):=by
 intro H;refine aM func78 λB I a=>?_;refine a8 ?_;refine ag (.call .k ((Ze _ _))) ?_;refine aS ?_;refine aB 4 H ?_;exact⟨bn (X7 _ _),rfl⟩
def Hv(g):aI prog 196 [.bp g] (.b (fZ g)):=by
 intro H;refine aM func196 λB I q=>?_;refine .ez (t:=0) rfl λgP=>?_;refine di ?_;refine az (λaf=>?_) λaf=>?_
 ·refine aP ?_;refine aB 2 H ?_;exact⟨bn (NO aa).symm,rfl⟩
 ·refine bA ?_;refine bm (λm j=>∃i:Nat,j=⟨[(12,.i i),(11,.i g.length),(10,.bp g)],H⟩/\m=g.length - i/\i<=g.length/\kk 0 (g.take i)=true) iI ?_;rintro m _ ⟨i,rfl,rfl,r,av⟩;refine ay ?_;refine az (λae=>?_) λae=>?_
  ·have a:i<g.length:=by simpa using ae
   obtain⟨L,f⟩:∃L,L=g.getD i default:=iZ;refine dW ?_;rw[<-f];refine .ez (t:=4) rfl λZf=>?_;refine ay ?_;refine az (λak=>?_) λak=>?_
   ·refine bS ?_;refine aB 2 H ?_;exact⟨bn (zM a (by rw[<-f];have: ¬L.length<=3:=aa;simp[this])).symm,rfl⟩
   ·refine bQ ?_;refine bm (λm j=>∃k:Nat,j=⟨[(22,.i k),(21,.i L.length),(20,.ints L),(3,.i i),(4,.ints L),(12,.i i),(11,.i g.length),(10,.bp g)],H⟩/\m=L.length - k/\k<=L.length/\jy i [] (L.take k)=true) iI ?_;rintro m _ ⟨k,rfl,rfl,v,h⟩;refine ay ?_;refine az (λaL=>?_) λaL=>?_
    ·have c:k<L.length:=by simpa using aL
     refine xa ?_;refine gw (λav=>.Ce rfl rfl qz rfl qz aa) ?_;refine aR ?_;refine ai.cG rfl rfl rfl rfl rfl rfl (λav=>.call (.mk' rfl rfl rfl rfl cU) ((z8 _ _))) ?_;refine aH ?_;refine az (λbo=>?_) λbo=>?_
     ·refine dW ?_;refine aB 2 H ?_;exact⟨bn (zM a (by rw[<-f,NP c yh,Bool.and_false])).symm,rfl⟩
     ·refine aP ?_;exact aU ⟨k+1,rfl,rfl,c,by rw[CW i L [] k c,h];simp_all⟩
    ·have l:k=L.length:=by omega
     rw[l,List.take_length] at h;refine bQ ?_;exact aU ⟨i+1,rfl,rfl,a,by rw[CX g 0 i a,av, <-f,Nat.zero_add,h];simp;omega⟩
  ·have o:i=g.length:=by omega
   rw[o,List.take_length] at av;refine bA ?_;refine aB 2 H ?_;exact⟨bn (by unfold fZ;rw[av];simp;omega),rfl⟩
def Zg(g):aI prog 166 [.bp g] (.i (if fZ g then 0 else 2)):=by
 intro H;refine aM func166 λB I a=>?_;refine a8 ?_;refine ag (.call .k ((Hv _))) ?_;refine aH ?_;refine az (λaf=>?_) λaf=>?_
 ·refine aP ?_;refine aB 2 H ?_;exact⟨fJ yh,rfl⟩
 ·refine aJ ?_;refine aB 2 H ?_;exact⟨fJ yh,rfl⟩
def Hw(op):aI prog 131 [.i op] (Lg (iw op)):=by
 intro H;refine aM func131 λB I j=>?_;refine jR ?_;refine az (λaf=>?_) λaf=>?_
 ·refine aH ?_;refine ag uZ ?_;refine ay ?_;refine aB 2 H ?_;exact⟨xg wq,rfl⟩
 ·refine .k7 (λst=>∃u:Bool,st=⟨[(8,.b u),(3,.i op)],H⟩/\u=decide (op=1\/op=2\/op=3\/op=6\/op=18)) ?_ ?_
  ·refine ay ?_;refine az (λae=>?_) λae=>?_
   ·refine aR ?_;exact dm ⟨op==1,rfl,by by_cases a:op=1 <;> simp_all⟩
   ·refine ay ?_;refine az (λak=>?_) λak=>?_
    ·refine aR ?_;exact dm ⟨op==2,rfl,by by_cases a:op=2 <;> simp_all⟩
    ·refine ay ?_;refine az (λaL=>?_) λaL=>?_
     ·refine aR ?_;exact dm ⟨op==3,rfl,by by_cases a:op=3 <;> simp_all⟩
     ·refine ay ?_;refine az (λbo=>?_) λbo=>?_
      ·refine aR ?_;exact dm ⟨op==6,rfl,by by_cases a:op=6 <;> simp_all⟩
      ·refine aV ?_;exact dm ⟨op==18,rfl,by by_cases a:op=18 <;> simp_all⟩
  ·rintro _ ⟨u,rfl,h⟩;refine az (λcm=>?_) λcm=>?_
   ·refine aQ ?_;refine ag uZ ?_;refine ay ?_;refine aB 2 H ?_;exact⟨xg wq,rfl⟩
   ·refine .k7 (λst=>∃u:Bool,st=⟨[(15,.b u),(3,.i op)],H⟩/\u=decide (op=4\/op=8\/op=17)) ?_ ?_
    ·refine ay ?_;refine az (λdx=>?_) λdx=>?_
     ·refine aR ?_;exact dm ⟨op==4,rfl,by by_cases a:op=4 <;> simp_all⟩
     ·refine ay ?_;refine az (λdF=>?_) λdF=>?_
      ·refine aR ?_;exact dm ⟨op==8,rfl,by by_cases a:op=8 <;> simp_all⟩
      ·refine aV ?_;exact dm ⟨op==17,rfl,by by_cases a:op=17 <;> simp_all⟩
    ·rintro _ ⟨u,rfl,f⟩;refine az (λde=>?_) λde=>?_
     ·refine aQ ?_;refine ag uZ ?_;refine ay ?_;refine aB 2 H ?_;exact⟨xg wq,rfl⟩
     ·refine .k7 (λst=>∃u:Bool,st=⟨[(20,.b u),(3,.i op)],H⟩/\u=decide (op=7\/op=9\/op=11\/op=12\/op=13\/op=14\/op=15\/op=16)) ?_ ?_
      ·refine ay ?_;refine az (λdc=>?_) λdc=>?_
       ·refine aR ?_;exact dm ⟨op==7,rfl,by by_cases a:op=7 <;> simp_all⟩
       ·refine ay ?_;refine az (λhM=>?_) λhM=>?_
        ·refine aR ?_;exact dm ⟨op==9,rfl,by by_cases a:op=9 <;> simp_all⟩
        ·refine ay ?_;refine az (λh6=>?_) λh6=>?_
         ·refine aR ?_;exact dm ⟨op==11,rfl,by by_cases a:op=11 <;> simp_all⟩
         ·refine ay ?_;refine az (λjA=>?_) λjA=>?_
          ·refine aR ?_;exact dm ⟨op==12,rfl,by by_cases a:op=12 <;> simp_all⟩
          ·refine ay ?_;refine az (λkq=>?_) λkq=>?_
           ·refine aR ?_;exact dm ⟨op==13,rfl,by by_cases a:op=13 <;> simp_all⟩
           ·refine ay ?_;refine az (λlP=>?_) λlP=>?_
            ·refine aR ?_;exact dm ⟨op==14,rfl,by by_cases a:op=14 <;> simp_all⟩
            ·refine ay ?_;refine az (λmi=>?_) λmi=>?_
             ·refine aR ?_;exact dm ⟨op==15,rfl,by by_cases a:op=15 <;> simp_all⟩
             ·refine aV ?_;exact dm ⟨op==16,rfl,by by_cases a:op=16 <;> simp_all⟩
      ·rintro _ ⟨u,rfl,g⟩;refine az (λsq=>?_) λsq=>?_
       ·refine aQ ?_;refine ag uZ ?_;refine ay ?_;refine aB 2 H ?_;exact⟨xg wq,rfl⟩
       ·refine ay ?_;refine az (λpg=>?_) λpg=>?_
        ·refine aQ ?_;refine ag uZ ?_;refine ay ?_;refine aB 2 H ?_;exact⟨xg wq,rfl⟩
        ·refine a8 ?_;refine aB 2 H ?_;exact⟨xg wq,rfl⟩
def number(p)(f:p.aF.length<=100)(x)(a):aI prog 130 [ab.prog p,ab.zJ x,.i a] (.b (fW p x a)):=by
 intro H;refine aM func130 λB I c=>?_;refine xa ?_;refine az (λaf=>?_) λaf=>?_
 ·refine aV ?_;refine ag (ad.call .k (O9 x.n)) ?_;refine ay ?_;refine aB 6 (H) ?_;exact⟨bn (by simp[fW,af]),rfl⟩
 ·refine ay ?_;refine az (λae=>?_) λae=>?_
  ·refine o8 ?_;refine aB 6 (H) ?_;exact⟨bn mD,rfl⟩
  ·refine aP ?_;refine az (λak=>?_) λak=>?_
   ·refine aQ ?_;refine az (λaL=>?_) λaL=>?_
    ·refine nz ?_;refine aB 6 (H) ?_;exact⟨bn mD,rfl⟩
    ·refine aP ?_;refine az (λbo=>?_) λbo=>?_
     ·refine aQ ?_;refine az (λcm=>?_) λcm=>?_
      ·refine iY ?_;refine aB 6 (H) ?_;exact⟨bn mD,rfl⟩
      ·refine ay ?_;refine az (λdx=>?_) λdx=>?_
       ·refine o9 ?_;refine aB 6 (H) ?_;exact⟨bn mD,rfl⟩
       ·refine jR ?_;refine aB 6 (H) ?_;exact⟨bn mD,rfl⟩
     ·refine aS ?_;refine az (λdF=>?_) λdF=>?_
      ·refine iY ?_;refine aB 6 (H) ?_;exact⟨bn mD,rfl⟩
      ·refine ay ?_;refine az (λde=>?_) λde=>?_
       ·refine o9 ?_;refine aB 6 (H) ?_;exact⟨bn mD,rfl⟩
       ·refine jR ?_;refine aB 6 (H) ?_;exact⟨bn mD,rfl⟩
   ·refine aS ?_;refine az (λdc=>?_) λdc=>?_
    ·refine nz ?_;refine aB 6 (H) ?_;exact⟨bn mD,rfl⟩
    ·refine aP ?_;refine az (λhM=>?_) λhM=>?_
     ·refine aQ ?_;refine az (λh6=>?_) λh6=>?_
      ·refine iY ?_;refine aB 6 (H) ?_;exact⟨bn mD,rfl⟩
      ·refine ay ?_;refine az (λjA=>?_) λjA=>?_
       ·refine o9 ?_;refine aB 6 (H) ?_;exact⟨bn mD,rfl⟩
       ·refine jR ?_;refine aB 6 (H) ?_;exact⟨bn mD,rfl⟩
     ·refine aS ?_;refine az (λkq=>?_) λkq=>?_
      ·refine iY ?_;refine aB 6 (H) ?_;exact⟨bn mD,rfl⟩
      ·refine ay ?_;refine az (λlP=>?_) λlP=>?_
       ·refine o9 ?_;refine aB 6 (H) ?_;exact⟨bn mD,rfl⟩
       ·refine jR ?_;refine aB 6 (H) ?_;exact⟨bn mD,rfl⟩
def UU(n)(p)(x):aI prog 313 [.i n,ab.prog p,ab.zJ x] (.i n):=by
 intro H;refine aM func313 λB I a=>?_;refine c6 ?_;refine aB 6 (H) ?_;exact⟨dP,rfl⟩
def US(p)(x)(f:0<=x.n)(c:x.n<p.c2.length):aI prog 314 [.agg [],ab.prog p,ab.zJ x] (.i (p.c2.getD x.n.toNat default)):=by
 intro H;refine aM func314 λB I a=>?_;refine iY ?_;refine aB 6 (H) ?_;exact⟨dP,rfl⟩
def Pa(l)(c:l.length<=4000000):aI prog 21 [.ints l] (.ints l):=by
 intro H;refine aM func21 λB I f=>?_;refine a8 ?_;refine .uQ rfl rfl rfl rfl rfl rfl rfl gx rfl rfl λxt a=>?_;refine aQ ?_;refine az (λaf=>?_) λaf=>?_
 ·refine aP ?_;refine .cl (rs:=[.tmp 2]) (H':=H) rfl eR tA bE ?_;exact⟨by show ab.aj 1 []=ab.aj 1 _;rw[a af],rfl⟩
 ·refine ay ?_;refine ag (.B0 rfl rfl rfl (aq.refl _) rfl rfl (aq.refl _) (si l) cF cF) ?_;refine aV ?_;refine aB 2 (H) ?_;exact⟨dP,rfl⟩
def Zh(els):aI prog 206 [.aj 1 els] (.aj 1 els):=by
 intro H;refine aM func206 λB I a=>?_;refine bS ?_;refine ag (.GB rfl rfl rfl rfl rfl rfl rfl) ?_;refine aV ?_;refine aB 2 (H) ?_;exact⟨dP,rfl⟩
def Zi(els):aI prog 109 [.aj 1 els] (.aj 1 els):=by
 intro H;refine aM func109 λB I a=>?_;refine bS ?_;refine ag (.GB rfl rfl rfl rfl rfl rfl rfl) ?_;refine aV ?_;refine aB 2 (H) ?_;exact⟨dP,rfl⟩
def Zj(c)(a:c.parents.length<=4000000):aI prog 179 [ab.cls c] (.ints c.parents):=by
 intro H;refine aM func179 λB I f=>?_;refine bQ ?_;refine ag (.call .k ((Pa _ aa))) ?_;refine aV ?_;refine aB 2 (H) ?_;exact⟨dP,rfl⟩
def Zk(cs:List ih)(l:cs.length<=4000000)(g:∀c∈cs,c.parents.length<=4000000):aI prog 178 [.aj 3 (cs.map pf),.fn (.func 179) [] []] (ab.bp (cs.map (·.parents))):=by
 intro H;refine aM (n:=23) func178 λB I o=>?_;refine bS ?_;refine hi 5 23 1 ?_;refine aP ?_;refine bm (λm h=>∃(i:Nat) (v:Value),h=⟨[(10,.i i),(9,.i cs.length),(8,.aj 3 (cs.map pf)),(1,.fn (.func 179) [] []),(5,.as (ab.bp ((cs.take i).map (·.parents))) v)],.own 23 1 v::H⟩/\m=cs.length - i/\i<=cs.length) (⟨0,_,rfl,rfl,aa⟩) ?_;rintro m _ ⟨i,v,rfl,rfl,q⟩;refine ay ?_;refine az (λaf=>?_) λaf=>?_
 ·have a:i<cs.length:=by omega
  have f:=g _ (bH a);refine aJ ?_;refine bT (λdN=>?_);refine aP ?_;refine ag (ad.call .k (Zj (cs.getD i default) f)) ?_;refine ai.cc (x:=.aj 1 [[ab.ints (cs.getD i default).parents]]) rfl rfl rfl (ad.row rfl rfl cD rfl rfl rfl rfl rfl rfl) ?_;refine ai.dJ rfl rfl rfl rfl rfl rfl rfl rfl (aq.refl _) (rfl) (λ_=>dt) nc nc (λZl=>?_);refine aJ ?_;exact aU (⟨i+1,Zl,by rw[NC a],rfl,a⟩)
 ·obtain rfl:i=cs.length:=by omega
  rw[List.take_length];refine aJ ?_;refine ag (ad.tf .k (.cons (aq.eY _ _) .nil) (Zh _)) ?_;refine aV ?_;refine aB 4 (H) ?_;exact⟨dP,rfl⟩
def graph(p)(f:p.aF.length<=4000000)(a:∀c∈p.aF,c.parents.length<=4000000):aI prog 141 [ab.prog p] (.bp (ca p)):=by
 intro H;refine aM func141 λB I g=>?_;refine bQ ?_;refine ag (.call .k (Zk p.aF f a)) ?_;refine aV ?_;refine aB 2 (H) ?_;exact⟨dP,rfl⟩
def Zm(f)(s:nB f)(r:∀k∈f.kids,aI prog 134 [ab.fact k] (.i (nC k))):aI prog 134 [ab.fact f] (.i (nC f)):=by
 intro H;refine aM func134 λB I w=>?_;rw[C2];obtain⟨l,h,x⟩:=C3 s;refine bA ?_;refine .k7 (λst=>st=⟨[(3,.i (ha f)),(1,.ptr (fy f))],H⟩) ?_ ?_
 ·refine gv ?_;refine bc (λaf=>?_) λaf=>?_
  ·have g:ha f=f.arg+1:=by unfold ha;rw[if_pos BJ]
   rw[g] at l h;refine ay ?_;refine .le 3 (y:=.i (ha f)) rfl (.b6 (by rw[g])) ?_;exact dm rfl
  ·have g:ha f=0:=by unfold ha;rw[if_neg BJ]
   refine aR ?_;refine .le 3 (y:=.i (ha f)) rfl (.b6 (by rw[g])) ?_;exact dm rfl
 ·rintro _ rfl;refine bQ ?_;refine aA.ez (t:=23) rfl (λalg=>?_);refine bm (λm st=>∃j:Nat,st=⟨[(25,.i j),(24,.i f.kids.length),(23,ab.facts f.kids),(3,.i (nD (f.kids.take j) (ha f)))],H⟩/\m=f.kids.length - j/\j<=f.kids.length) (⟨0,rfl,rfl,aa⟩) ?_;rintro m _ ⟨j,rfl,rfl,v⟩;refine ay ?_;refine az (λae=>?_) λae=>?_
  ·have c:j<f.kids.length:=by omega
   have o:=bH c;have a:=GZ (f.kids.getD j default) (f.kids.take j) (ha f);rw[c3 c] at a;refine aJ ?_;refine bT (λdN=>?_);refine ay ?_;refine ag (ad.call .k (r _ o)) ?_;refine ag (ad.max2 rfl rfl rfl rfl rfl rfl) ?_;refine aV ?_;refine aA.le 3 (y:=.i (nD (f.kids.take (j+1)) (ha f))) rfl (aq.b6 (by rw[a,Int.max_def];split <;> split <;> omega)) ?_;refine aV ?_;exact aU (⟨j+1,rfl,rfl,aa⟩)
  ·obtain rfl:j=f.kids.length:=by omega
   rw[List.take_length];refine bS ?_;refine aB 2 (H) ?_;exact⟨cM,rfl⟩
def Pb(p)(b4:p.aF.length<=1000)(a1:∀c∈p.aF,c.parents.length<=4000000/\c.aw.length<=1000):aI prog 132 [ab.prog p] (.agg (cB (bR p))):=by
 intro H;refine aM func132 λB I s=>?_;refine aH ?_;refine bT (λdg=>?_);refine aS ?_;refine ag (.call .k (graph p aa (λc h=>(a1 c h).1))) ?_;refine aR ?_;refine bT (λda=>?_);refine aS ?_;refine .qM (b:=da) (t:=86) 3 1 1 dt rfl rfl ?_;refine aJ ?_;refine bm (λm j=>∃(i:Nat) (v:Value),j=⟨[(12,.i i),(11,.i p.aF.length),(10,.aj 3 (p.aF.map pf)),(3,.p da 0),(2,.p dg 0)],.own 3 1 v::.au da 86 [.bp (ca p),.as (.ints (mO p.aF i 0)) v]::.au dg 86 [.val aX,.val aX]::H⟩/\m=p.aF.length - i/\i<=p.aF.length) (⟨0,_,rfl,rfl,aa⟩) ?_;rintro m _ ⟨i,v,rfl,rfl,z⟩;refine ay ?_;refine az (λaf=>?_) λaf=>?_
 ·have a:i<p.aF.length:=by omega
  have l:=a1 _ (bH a);obtain⟨L,q⟩:∃L,L=p.aF.getD i default:=iZ;rw[<-q] at l;refine a8 ?_;refine bT (λb2=>?_);refine aS ?_;rw[<-q];refine aJ ?_;refine bm (λm j=>∃(k:Nat) (v:Value),j=⟨[(20,.i k),(19,.i L.aw.length),(4,.i i),(12,.i i),(11,.i p.aF.length),(10,.aj 3 (p.aF.map pf)),(3,.p da 0),(2,.p dg 0)],.own 3 1 v::.au da 86 [.bp (ca p),.as (ab.ints (mO p.aF i k)) v]::.au dg 86 [.val aX,.val aX]::H⟩/\m=L.aw.length - k/\k<=L.aw.length) (⟨0,_,rfl,rfl,aa⟩) ?_;rintro m _ ⟨k,v,rfl,rfl,w⟩;refine ay ?_;refine az (λae=>?_) λae=>?_
  ·have o:k<L.aw.length:=by omega
   refine a8 ?_;refine ai.cc (x:=.aj 1 [[.i ((i:Int)+3)]]) rfl rfl rfl ie ?_;refine ai.dJ rfl rfl rfl rfl rfl rfl rfl rfl (aq.refl _) (rfl) (λ_=>dt) pC pC (λZn=>?_);refine a8 ?_;exact aU (⟨k+1,Zn,by rw[Nx],rfl,o⟩)
  ·obtain rfl:k=L.aw.length:=by omega
   refine bQ ?_;exact aU (⟨i+1,v,by rw[ND a, <-q],rfl,a⟩)
 ·obtain rfl:i=p.aF.length:=by omega
  rw[Ny];refine bS ?_;refine aZ.cl (rs:=[.cell 2 86]) (H':=H) rfl (s4) (.cons (aq.agg (.cons ig CN)) .nil) bE ?_;exact⟨dP,rfl⟩
def Pc(c:hc.length=ff.length)(a:k<hc.length)(f:hc.take k=ff.take k)(h:hc.getD k default=ff.getD k default):hc.take (k+1)=ff.take (k+1):=by
 rw[List.take_succ_eq_append_getElem a,List.take_succ_eq_append_getElem (c▸a),f];rw[List.getD_eq_getElem?_getD,List.getD_eq_getElem?_getD,List.getElem?_eq_getElem a,List.getElem?_eq_getElem (c▸a)] at h;simp at h;rw[h]
def Pd(j:k<=hc.length)(h:(hc.length:Int)<=k)(g:(hc.length:Int)=ff.length)(a:hc.take k=ff.take k):true=(hc==ff):=by
 have c:k=hc.length:=by omega
 subst c;have f:hc.length=ff.length:=by omega
 rw[List.take_length,f,List.take_length] at a;simp[a]
def Pe(h:hc.getD k default≠ff.getD k default):hc≠ff:=λe=>h (by rw[e])
def Hy(a c):aI prog 29 [.ints a,.ints c] (.b (a==c)):=by
 intro H;refine aM func29 λB I o=>?_;refine .ez (t:=0) rfl λgP=>?_;refine .ez (t:=1) rfl λvj=>?_;refine dW ?_;refine az (λaf=>?_) λaf=>?_
 ·refine aP ?_;refine aB 4 H ?_;exact⟨bn (by symm;simp;intro e;subst e;simp at af),rfl⟩
 ·refine bA ?_;refine bm (λm j=>∃k:Nat,j=⟨[(13,.i k),(12,.i a.length),(0,.ints a),(1,.ints c)],H⟩/\m=a.length - k/\k<=a.length/\a.take k=c.take k) ⟨0,rfl,rfl,aT,rfl⟩ ?_;rintro m _ ⟨k,rfl,rfl,g,f⟩;refine ay ?_;refine az (λae=>?_) λae=>?_
  ·refine bA ?_;refine b0 8 26 ?_;refine di ?_;refine az (λak=>?_) λak=>?_
   ·refine bA ?_;refine aB 4 H ?_;exact⟨bn (by symm;simp;exact Pe ak),rfl⟩
   ·refine aP ?_;exact aU ⟨k+1,rfl,rfl,aa,Pc aa aa f ak⟩
  ·refine bA ?_;refine aB 4 H ?_;exact⟨bn (Pd g ae af f),rfl⟩
def Zo(a c):aI prog 287 [.ints a,.ints c] (.b (a==c)):=by
 intro H;refine aM func287 λB I o=>?_;refine .ez (t:=0) rfl λgP=>?_;refine .ez (t:=1) rfl λvj=>?_;refine dW ?_;refine az (λaf=>?_) λaf=>?_
 ·refine aP ?_;refine aB 4 H ?_;exact⟨bn (by symm;simp;intro e;subst e;simp at af),rfl⟩
 ·refine bA ?_;refine bm (λm j=>∃k:Nat,j=⟨[(13,.i k),(12,.i a.length),(0,.ints a),(1,.ints c)],H⟩/\m=a.length - k/\k<=a.length/\a.take k=c.take k) ⟨0,rfl,rfl,aT,rfl⟩ ?_;rintro m _ ⟨k,rfl,rfl,g,f⟩;refine ay ?_;refine az (λae=>?_) λae=>?_
  ·refine bA ?_;refine b0 8 26 ?_;refine di ?_;refine az (λak=>?_) λak=>?_
   ·refine bA ?_;refine aB 4 H ?_;exact⟨bn (by symm;simp;exact Pe ak),rfl⟩
   ·refine aP ?_;exact aU ⟨k+1,rfl,rfl,aa,Pc aa aa f ak⟩
  ·refine bA ?_;refine aB 4 H ?_;exact⟨bn (Pd g ae af f),rfl⟩
end Go.Proofs.YtodccgailpkgeaaGreat

