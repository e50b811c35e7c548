/- Part 10 of the proof: contracts of functions of the program and what they need. No condition beyond those that each theorem names. -/
import Derived.Test.YtodccgailpkgeaaGreatKindLeastP9
import Derived.DeepKeys4
import Derived.Test.YtodccgailpkgeaaGreatProg
import Derived.KernelRfl
import Derived.ProofKit
import Derived.Test.YtodccgailpkgeaaGreatRows
set_option maxHeartbeats 1000000
set_option linter.unusedVariables false
set_option linter.unusedSimpArgs false
set_option maxRecDepth 10000
namespace Go.Eng.Fc
variable{α:Type}{W:bb}{f:Fact}{l:List Fact}{o:List Bool}{i:Nat}{fc:Int}
theorem e7(a b:Bool):(bif a then true else b)=(a || b):=by cases a <;> rfl
theorem wm[Inhabited α]{l:List α}{j:Nat}(h:j<l.length):l.getD j default=l[j]:=by rw[List.getD_eq_getElem?_getD,List.getElem?_eq_getElem h];rfl
theorem wo(h:dm W=true):W.parents.length<=60:=by simp[dm] at h;exact h.1.1.1
theorem hT[Inhabited α]{l:List α}{k:Nat}(h:k<l.length):l.getD k default∈l:=by rw[wm h];exact List.getElem_mem h
mutual
def ej:Fact->Nat
 | .mk _ _ _ _ _ kids=>1+gf kids
def gf:List Fact->Nat
 | []=>0
 | f::r=>ej f+gf r
end
theorem wq(f:Fact):ej f=1+gf f.kids:=by cases f;rw[ej];rfl
def fz(W:bb)(f:Fact):Bool:=decide (1<=f.op) && decide (f.op<=7) && ((f.kids.length:Int)==kZ f.op) && (if dO f then iK W f && kj W f else iX f)
mutual
def eT(W:bb):Fact->Bool
 | .mk op arg path cls n kids=>fz W (.mk op arg path cls n kids) && rS W kids
def rS(W:bb):List Fact->Bool
 | []=>true
 | f::r=>eT W f && rS W r
end
theorem Iu{W:bb}:∀{l:List Fact},rS W l=true↔∀k∈l,eT W k=true
 | []=>by simp[rS]
 | x::r=>by simp[rS,Iu (l:=r)]
theorem na:eT W f=true↔fz W f=true/\∀k∈f.kids,eT W k=true:=by
 cases f;rw[eT,Bool.and_eq_true,Iu];rfl
theorem A9(h:fz W f=true)(ax:dO f=true):f.kids= []:=by
 simp only[fz,dO,Bool.and_eq_true,decide_eq_true_eq,beq_iff_eq] at h ax;have:kZ f.op=0:=by rw[kZ,if_neg ad,if_neg ad]
 rw[this] at h;exact List.eq_nil_of_length_eq_zero ad
mutual
theorem D2(W:bb):∀(f:Fact) (left deep:Int),(gA W f left deep).1=true->eT W f=true/\(gA W f left deep).2=left - ej f
 | .mk op arg path cls n kids,left,deep,h=>by
  rw[gA] at h ⊢;rw[eT,ej];by_cases ab:ki (.mk op arg path cls n kids) (left - 1) deep=true
  ·rw[if_pos ab] at h;cases h
  ·rw[if_neg ab] at h ⊢;have ao:fz W (.mk op arg path cls n kids)=(if dO (.mk op arg path cls n kids) then iK W (.mk op arg path cls n kids) && kj W (.mk op arg path cls n kids) else iX (.mk op arg path cls n kids)):=by
    simp only[ki,Bool.not_eq_true,Bool.or_eq_false_iff,decide_eq_false_iff_not,bne_eq_false_iff_eq] at ab;rw[fz];rw[show (decide (1<=(Fact.mk op arg path cls n kids).op) && decide ((Fact.mk op arg path cls n kids).op<=7) && (((Fact.mk op arg path cls n kids).kids.length:Int)==kZ (Fact.mk op arg path cls n kids).op))=true by
     simp only[Bool.and_eq_true,decide_eq_true_eq,beq_iff_eq];exact⟨⟨ad,ad⟩,ab.2⟩]
    rfl
   by_cases ae:dO (.mk op arg path cls n kids)=true
   ·rw[if_pos ae] at h ⊢;rw[if_pos ae] at ao;have cf:(iK W (.mk op arg path cls n kids) && kj W (.mk op arg path cls n kids))=true:=h;have hn:fz W (.mk op arg path cls n kids)=true:=ao.trans cf;have iS:kids= []:=A9 hn ae;subst iS;refine⟨vg,by simp[gf]⟩
   ·rw[if_neg ae] at h ⊢;rw[if_neg ae] at ao;by_cases aD:iX (.mk op arg path cls n kids)=true
    ·rw[if_pos aD] at h ⊢;have:=PW W kids (left - 1) (deep - 1) h;refine⟨by rw[ao,aD,this.1];rfl,by rw[this.2];omega⟩
    ·rw[if_neg aD] at h;cases h
theorem PW(W:bb):∀(l:List Fact) (left deep:Int),(eS W l left deep).1=true->rS W l=true/\(eS W l left deep).2=left - gf l
 | [],left,deep,h=>by rw[eS,rS,gf];simp
 | k::r,left,deep,h=>by
  rw[eS] at h ⊢;rw[rS,gf];by_cases ab:(gA W k left deep).1=true
  ·rw[if_pos ab] at h ⊢;have a:=D2 W k left deep ab;have b:=PW W r _ deep h;exact⟨by rw[a.1,b.1];rfl,by rw[b.2,a.2];omega⟩
  ·rw[if_neg ab] at h;exact absurd h ab
end
theorem yx(h:mD W f=true):eT W f=true/\ej f<=24:=by
 have ab:=D2 W f 24 12 h;have ae:=(HZ W f 24 12).2 h;exact⟨ab.1,ad⟩
def kG(W:bb)(a b:Int):Bool:=((nP W).getD a.toNat 0).testBit b.toNat
theorem Y4{j:Nat}(h:j<l.length):gf (l.take (j+1))=gf (l.take j)+ej (l.getD j default):=by
 induction l generalizing j with
 | nil=>simp at h
 | cons x r bm=>
  cases j with
  | zero=>simp[gf]
  | succ j=>
   rw[List.take_succ_cons,List.take_succ_cons,gf,gf,bm h3];simp only[List.getD_cons_succ];omega
theorem Y5(j:Nat):gf (l.take j)<=gf l:=by
 induction l generalizing j with
 | nil=>simp[gf]
 | cons x r bm=>
  cases j with
  | zero=>simp[gf]
  | succ j=>rw[List.take_succ_cons,gf,gf];have:=bm j;omega
def hi(W:bb)(c b:Nat):Bool:=((nP W).getD c 0).testBit b
theorem PX(U:List Nat)(b:Nat):∀(l:List Int) (s:Nat),(l.foldl (λs (p:Int)=>s ||| U.getD p.toNat 0) s).testBit b=(s.testBit b || l.any λp=>(U.getD p.toNat 0).testBit b)
 | [],s=>by simp
 | p::r,s=>by rw[List.foldl_cons,PX U b r,Nat.testBit_or,List.any_cons,Bool.or_assoc]
theorem PY(U:List Nat)(i:Nat)(l:List Int)(b:Nat):(p9 U i l).testBit b=(b==0 || b==3+i || l.any λp=>(U.getD p.toNat 0).testBit b):=by
 rw[p9,PX,Nat.testBit_or,Nat.testBit_two_pow];congr 2
 ·rcases b with _ | b
  ·rfl
  ·rw[Nat.testBit_succ];simp
 ·rw[Bool.eq_iff_iff,decide_eq_true_iff,beq_iff_eq];exact eq_comm
theorem yy(l:List α)(i j:Nat)(x y:α):(l.set i x).getD j y=if i=j/\i<l.length then x else l.getD j y:=by
 simp only[List.getD_eq_getElem?_getD,List.getElem?_set];by_cases h:i=j
 ·by_cases ae:j<l.length
  ·simp[h,ae]
  ·simp[h,ae]
 ·simp[h]
theorem s8:∀(l:List (List Int)) (i:Nat) (U:List Nat) (j:Nat),j<3+i->(iy l i U).getD j 0=U.getD j 0
 | [],i,U,j,h=>by rw[iy]
 | x::r,i,U,j,h=>by
  rw[iy,s8 r (i+1) _ j ad,yy,if_neg ad]
theorem Ba(i:Nat):∀(l seen:List Int),mb i seen l=true->∀p∈l,3<=p/\p<3+i
 | [],_,_,p,aB=>by cases aB
 | x::r,seen,h,p,aB=>by
  rw[mb,Bool.and_eq_true,Bool.not_eq_true'] at h;rcases List.mem_cons.1 aB with rfl | aB
  ·have:=h.1;simp only[Bool.or_eq_false_iff,decide_eq_false_iff_not] at this;omega
  ·exact Ba i r _ h.2 p aB
theorem Iv:∀(l:List (List Int)) (i k:Nat),jR i l=true->k<l.length->mb (i+k) [] (l.getD k default)=true
 | [],i,k,_,ao=>by simp at ao
 | x::r,i,0,h,_=>by rw[jR,Bool.and_eq_true] at h;exact h.1
 | x::r,i,k+1,h,ao=>by
  rw[jR,Bool.and_eq_true] at h;have:=Iv r (i+1) k h.2 (by simpa using ao);rw[show i+(k+1)=i+1+k from by omega];exact this
theorem Bb(h:dm W=true):jR 0 W.parents=true:=by simp only[dm,Bool.and_eq_true] at h;exact h.1.2
theorem uF(h:dm W=true){i:Nat}(av:i<W.parents.length):∀p∈W.parents.getD i default,3<=p/\p<3+i:=by
 have:=Iv W.parents 0 i (Bb h) av;rw[Nat.zero_add] at this;exact Ba i _ _ this
theorem PZ{l:List α}{p q:α->Bool}(h:∀x∈l,p x=q x):l.any p=l.any q:=by
 induction l with
 | nil=>rfl
 | cons x r bm=>rw[List.any_cons,List.any_cons,h x (.head _),bm λy hy=>h y (.tail _ hy)]
theorem Bc:∀(l:List (List Int)) (i:Nat) (U:List Nat) (k:Nat),3+i+l.length<=U.length->jR i l=true->k<l.length->∀b,((iy l i U).getD (3+(i+k)) 0).testBit b=(b==0 || b==3+(i+k) || (l.getD k default).any λp=>((iy l i U).getD p.toNat 0).testBit b)
 | [],i,U,k,ax,_,ao,b=>by simp at ao
 | x::r,i,U,0,ax,h,ao,b=>by
  rw[jR,Bool.and_eq_true] at h;rw[iy,s8 r (i+1) _ _ ad,yy,if_pos ⟨ad,by simp at ax;omega⟩,PY];show _=(b==0 || b==3+(i+0) || x.any _);rw[Nat.add_zero];congr 1;refine PZ λp aB=>?_;have:=Ba i x [] h.1 p aB;rw[s8 r (i+1) _ _ ad,yy,if_neg ad]
 | x::r,i,U,k+1,ax,h,ao,b=>by
  rw[jR,Bool.and_eq_true] at h;have:=Bc r (i+1) (U.set (3+i) (p9 U i x)) k (by simp at ax ⊢;omega) h.2 (by simpa using ao) b;rw[iy,show i+(k+1)=i+1+k from by omega];exact this
theorem qb(h:dm W=true){i:Nat}(av:i<W.parents.length)(b:Nat):hi W (3+i) b=(b==0 || b==3+i || (W.parents.getD i default).any λp=>hi W p.toNat b):=by
 have:=Bc W.parents 0 ([1,3,5]++List.replicate 60 0) i (by have:=wo h;simp;omega) (Bb h) av b;rw[Nat.zero_add] at this;exact this
theorem rT{c:Nat}(ak:c<3)(b:Nat):hi W c b=(b==0 || b==c):=by
 rw[hi,nP,s8 _ _ _ _ ad];have:c=0\/c=1\/c=2:=by omega
 rcases this with rfl | rfl | rfl
 ·show Nat.testBit 1 b=_;rcases b with _ | b
  ·rfl
  ·rw[Nat.testBit_succ];simp
 ·show Nat.testBit 3 b=_;rcases b with _ | _ | b
  ·rfl
  ·rfl
  ·rw[Nat.testBit_succ,Nat.testBit_succ];simp
 ·show Nat.testBit 5 b=_;rcases b with _ | _ | _ | b
  ·rfl
  ·rfl
  ·rfl
  ·rw[Nat.testBit_succ,Nat.testBit_succ,Nat.testBit_succ];simp
theorem Iw(h:dm W=true){c:Nat}(ak:c<3+W.parents.length):hi W c 0=true:=by
 by_cases aD:c<3
 ·rw[rT aD];rfl
 ·rw[show c=3+(c - 3) from by omega,qb h ad];rfl
theorem tJ(h:dm W=true){c:Nat}(ak:c<3+W.parents.length):hi W c c=true:=by
 by_cases aD:c<3
 ·rw[rT aD];simp
 ·have e:c=3+(c - 3):=by omega
  have:=qb h (i:=c - 3) ad c;rw[<-e] at this;rw[this];simp
theorem Ix{W:bb}(h:dm W=true):∀(n c:Nat),c<=n->c<3+W.parents.length->∀b,hi W c b=true->b<=c/\(b=0\/b=c\/3<=b)
 | n,c,hn,ak,b,aw=>by
  by_cases aD:c<3
  ·rw[rT aD] at aw;simp at aw;omega
  ·have e:c=3+(c - 3):=by omega
   rw[e,qb h ad] at aw;simp only[Bool.or_eq_true,beq_iff_eq,List.any_eq_true] at aw;rcases aw with (aw | aw) | ⟨p,aB,aw⟩
   ·omega
   ·omega
   ·have ax:=uF h ad p aB
    match n,hn with
    | 0,hn=>omega
    | n+1,hn=>
     have:=Ix h n p.toNat ad ad b aw;omega
theorem P0{W:bb}(h:dm W=true):∀(n a:Nat),a<=n->a<3+W.parents.length->∀b c,hi W a b=true->hi W b c=true->hi W a c=true
 | n,a,hn,bN,b,c,ab,ae=>by
  by_cases aD:a<3
  ·rw[rT aD] at ab;simp only[Bool.or_eq_true,beq_iff_eq] at ab;rcases ab with rfl | rfl
   ·rw[rT ad] at ae;simp at ae;subst ae;exact Iw h bN
   ·exact ae
  ·have e:a=3+(a - 3):=by omega
   rw[e,qb h ad] at ab ⊢;simp only[Bool.or_eq_true,beq_iff_eq,List.any_eq_true] at ab ⊢;rcases ab with (rfl | rfl) | ⟨p,aB,ab⟩
   ·rw[rT ad] at ae;simp at ae;exact .inl (.inl ae)
   ·rw[qb h ad] at ae;simpa only[Bool.or_eq_true,beq_iff_eq,List.any_eq_true] using ae
   ·have ax:=uF h ad p aB
    match n,hn with
    | 0,hn=>omega
    | n+1,hn=>exact .inr ⟨p,aB,P0 h n p.toNat ad ad b c ab ae⟩
theorem D3{a b:Int}:kG W a b=hi W a.toNat b.toNat:=rfl
def nc(o:List Bool)(i:Nat):List Int->List Bool
 | []=>o
 | p::r=>nc (o.set p.toNat (o.getD p.toNat false || o.getD i false)) i r
def rU(W:bb):Nat->List Bool->List Bool
 | 0,o=>o
 | k+1,o=>rU W k (nc o (3+k) (W.parents.getD k default))
def s9(W:bb)(c:Nat):List Bool:=rU W (c - 2) ((List.replicate (3+W.parents.length) false).set c true)
theorem Iy(i:Nat):∀(l:List Int) (o:List Bool),(nc o i l).length=o.length
 | [],o=>rfl
 | p::r,o=>by rw[nc,Iy i r,List.length_set]
theorem P1(W:bb):∀(k:Nat) (o:List Bool),(rU W k o).length=o.length
 | 0,o=>rfl
 | k+1,o=>by rw[rU,P1 W k,Iy]
theorem D4(i:Nat):∀(l:List Int) (o:List Bool) (b:Nat),(∀p∈l,0<=p/\p<i)->i<o.length->(nc o i l).getD b false=(o.getD b false || (o.getD i false && l.contains (b:Int)))
 | [],o,b,_,_=>by rw[nc];simp
 | p::r,o,b,h,av=>by
  have aB:=h p (.head _);rw[nc,D4 i r _ b (λq bd=>h q (.tail _ bd)) (by rw[List.length_set];exact av),yy,yy,if_neg (c:=p.toNat=i/\_) ad,List.contains_cons];by_cases aw:p.toNat=b
  ·rw[if_pos ⟨aw,ad⟩,show ((b:Int)==p)=true from by rw[beq_iff_eq];omega,aw];cases o.getD b false <;> cases o.getD i false <;> simp
  ·rw[if_neg (λe=>aw e.1),show ((b:Int)==p)=false from by rw[beq_eq_false_iff_ne];omega];simp
theorem Iz{W:bb}(h:dm W=true):∀(k:Nat) (o:List Bool),k<=W.parents.length->o.length=3+W.parents.length->∀b,0<b->(rU W k o).getD b false=(o.getD b false || (List.range k).any λi=>o.getD (3+i) false && hi W (3+i) b)
 | 0,o,_,_,b,_=>by simp[rU]
 | k+1,o,ao,ax,b,aw=>by
  have aB:=uF h (i:=k) ad;have al:=λx=>D4 (3+k) (W.parents.getD k default) o x (λp uh=>by have:=aB p uh;omega) ad;rw[rU,Iz h k _ ad (by rw[Iy];exact ax) b aw,al,List.range_succ,List.any_append,List.any_cons,List.any_nil,Bool.or_false];rw[qb h ad,show (b==0)=false from by rw[beq_eq_false_iff_ne];omega,Bool.false_or];rw[Bool.eq_iff_iff];simp only[Bool.or_eq_true,Bool.and_eq_true,List.any_eq_true,List.mem_range,beq_iff_eq,al,List.contains_iff_mem];constructor
  ·rintro ((ab | ⟨ab,ae⟩) | ⟨i,av,ab | ⟨ab,ae⟩,aD⟩)
   ·exact .inl ab
   ·exact .inr (.inr ⟨ab,.inr ⟨(b:Int),ae,Vz⟩⟩)
   ·exact .inr (.inl ⟨i,av,ab,aD⟩)
   ·exact .inr (.inr ⟨ab,.inr ⟨_,ae,by rw[Int.toNat_natCast];exact aD⟩⟩)
  ·rintro (ab | ⟨i,av,ab,aD⟩ | ⟨ab,ae | ⟨p,ta,aD⟩⟩)
   ·exact .inl (.inl ab)
   ·exact .inr ⟨i,av,.inl ab,aD⟩
   ·subst ae;exact .inl (.inl ab)
   ·have:=aB p ta;refine .inr ⟨p.toNat - 3,ad,.inr ⟨ab,?_⟩,?_⟩
    ·rw[show ((3+(p.toNat - 3):Nat):Int)=p from by omega];exact ta
    ·rw[show 3+(p.toNat - 3)=p.toNat from by omega];exact aD
theorem P2(W:bb)(c:Nat):(s9 W c).length=3+W.parents.length:=by rw[s9,P1];simp
theorem P3(h:dm W=true){c:Nat}(aD:3<=c)(ak:c<3+W.parents.length){b:Nat}(aw:0<b):(s9 W c).getD b false=hi W c b:=by
 have al:∀x,((List.replicate (3+W.parents.length) false).set c true).getD x false=(c==x):=λx=>by
  rw[yy];by_cases e:c=x
  ·rw[if_pos ⟨e,by simpa using ak⟩];simp[e]
  ·rw[if_neg (λq=>e q.1)];have:(c==x)=false:=by rw[beq_eq_false_iff_ne];exact e
   rw[this,List.getD_eq_getElem?_getD,List.getElem?_replicate];split <;> rfl
 rw[s9,Iz h (c - 2) _ ad bj b aw,al,Bool.eq_iff_iff];simp only[Bool.or_eq_true,Bool.and_eq_true,List.any_eq_true,List.mem_range,beq_iff_eq,al];constructor
 ·rintro (rfl | ⟨i,av,e,ab⟩)
  ·exact tJ h ak
  ·rw[e];exact ab
 ·intro ab;exact .inr ⟨c - 3,ad,ad,by rw[show 3+(c - 3)=c from by omega];exact ab⟩
abbrev rV(o:List Bool):List aa:=o.map λx=>aa.b x
theorem Y6(o:List Bool):rV o=(o.map λx=>[aa.b x]).flatten++[]:=by
 induction o with
 | nil=>rfl
 | cons x r bm=>simpa using bm
theorem P4(h:i<o.length):(rV o)[0+i*1]? =some (aa.b (o.getD i false)):=by
 rw[Nat.zero_add,Nat.mul_one,List.getElem?_map,List.getD_eq_getElem?_getD,List.getElem?_eq_getElem h];rfl
theorem P5{o o':List Bool}{x:Bool}(h:i<o.length)(e:o.set i x=o'):(rV o).take (0+i*1)++[aa.b x]++(rV o).drop (0+i*1+1)=rV o':=by
 subst e;rw[Nat.zero_add,Nat.mul_one,List.set_eq_take_append_cons_drop,if_pos h];simp
theorem Y7{i j:Nat}{l:List Int}(h:j<l.length):nc o i (l.drop j)=nc (o.set (l.getD j default).toNat (bif o.getD (l.getD j default).toNat false then true else o.getD i false)) i (l.drop (j+1)):=by
 rw[List.drop_eq_getElem_cons h,nc,wm h,e7]
theorem P6(h:i<o.length):Nat.ble (0+i*1+1) (rV o).length=true:=by rw[Nat.ble_eq];simp;omega
theorem Y8(n:Nat):List.replicate n (aa.val (.bool false))=rV (List.replicate n false):=by rw[rV,List.map_replicate]
theorem P7{l:List Int}(h:i<l.length)(aH:nO W (l.getD i default)=false):l.all (nO W)=false:=by
 rw[List.all_eq_false];exact⟨l.getD i default,hT h,by rw[aH];simp⟩
mutual
def lj:Fact->Nat
 | .mk _ _ _ _ _ kids=>lP kids+1
def lP:List Fact->Nat
 | []=>0
 | k::r=>max (lj k) (lP r)
end
theorem Y9(f:Fact):lj f=lP f.kids+1:=by cases f;rw[lj];rfl
theorem P8(x:Fact):∀l:List Fact,lP (l++[x])=max (lP l) (lj x)
 | []=>by simp[lP]
 | k::r=>by rw[List.cons_append,lP,lP,P8 x r,Nat.max_assoc]
mutual
theorem P9:∀f:Fact,lj f<=ej f
 | .mk _ _ _ _ _ kids=>by rw[lj,ej];have:=Qa kids;omega
theorem Qa:∀l:List Fact,lP l<=gf l
 | []=>by simp[lP]
 | k::r=>by rw[lP,gf];have:=P9 k;have:=Qa r;omega
end
theorem Za{f k:Fact}(h:k∈f.kids):ej k<ej f:=by
 have:∀l:List Fact,k∈l->ej k<=gf l:=by
  intro l
  induction l with
  | nil=>intro h;cases h
  | cons y r bm=>intro h;rw[gf];rcases List.mem_cons.1 h with rfl | h;omega;have:=bm h;omega
 have:=this f.kids h;rw[wq f];omega
def pr(W:bb)(f:Fact)(fc:Int):Prop:=1<=f.op/\f.op<=7/\fc=kZ f.op/\(dO f=true->kj W f=true)
theorem Qb(ai:f.op=2)(ab:(bif f.n !=0 then true else !jZ W f.cls)=false):pr W f 0:=by
 rw[e7] at ab;simp only[Bool.or_eq_false_iff,bne_eq_false_iff_eq,Bool.not_eq_false'] at ab;exact⟨ad,ad,by rw[ai];rfl,λ_=>by simp[kj,ai,ab]⟩
theorem Qc(ai:f.op=2)(ab:(bif f.n !=0 then true else !jZ W f.cls)=true):fz W f=false:=by
 rw[e7] at ab;have ae:((f.n==0) && jZ W f.cls)=false:=by
  simp only[Bool.or_eq_true,bne_iff_ne,Bool.not_eq_true'] at ab;rw[Bool.and_eq_false_iff,beq_eq_false_iff_ne];exact ab
 have ax:dO f=true:=by simp[dO,ai]
 rw[fz,if_pos ax,kj,if_pos ai,ae];simp
theorem IA(ai:f.op=3\/f.op=4)(ab:(bif bif f.cls !=0 then true else decide (f.n< -1000000000) then true else decide (1000000000<f.n))=false):pr W f 0:=by
 rw[e7,e7] at ab;simp only[Bool.or_eq_false_iff,bne_eq_false_iff_eq,decide_eq_false_iff_not] at ab;refine⟨ad,ad,?_,λ_=>?_⟩
 ·rcases ai with e | e <;> rw[e] <;> rfl
 ·rw[kj,if_neg ad];simp only[Bool.and_eq_true,beq_iff_eq,decide_eq_true_eq];omega
theorem IB(ai:f.op=3\/f.op=4)(ab:(bif bif f.cls !=0 then true else decide (f.n< -1000000000) then true else decide (1000000000<f.n))=true):fz W f=false:=by
 rw[e7,e7] at ab;simp only[Bool.or_eq_true,bne_iff_ne,decide_eq_true_eq] at ab;have ae:kj W f=false:=by
  rw[kj,if_neg ad];simp only[Bool.and_eq_false_iff,beq_eq_false_iff_ne,decide_eq_false_iff_not];omega
 have ax:dO f=true:=by simp only[dO,Bool.and_eq_true,decide_eq_true_eq];omega
 rw[fz,if_pos ax,ae];simp
theorem Bd(h:f.op=1\/f.op=5\/f.op=6\/f.op=7)(ao:fc=kZ f.op):pr W f fc:=⟨ad,ad,ao,λax=>by simp only[dO,Bool.and_eq_true,decide_eq_true_eq] at ax;omega⟩
theorem Qd(h:f.op≠1/\f.op≠2/\f.op≠3/\f.op≠4/\f.op≠5/\f.op≠6/\f.op≠7):fz W f=false:=by
 have:(decide (1<=f.op) && decide (f.op<=7))=false:=by simp only[Bool.and_eq_false_iff,decide_eq_false_iff_not];omega
 rw[fz,this];simp
theorem IC(h:iX f=true):iK W f=true:=by
 simp only[iX,Bool.not_eq_true',Bool.or_eq_false_iff,bne_eq_false_iff_eq,decide_eq_false_iff_not] at h;have aB:f.path= []:=List.eq_nil_of_length_eq_zero ad;simp[iK,h.1.1.1,aB,nQ]
theorem D5(h:pr W f fc):fz W f=((f.kids.length:Int)==fc && iK W f && (dO f || iX f)):=by
 obtain⟨ab,ae,rfl,aV⟩:=h;rw[fz,decide_eq_true ab,decide_eq_true ae,Bool.true_and,Bool.true_and,Bool.and_assoc];congr 1;by_cases ax:dO f=true
 ·rw[if_pos ax,aV ax,ax];simp
 ·rw[if_neg ax,Bool.eq_false_iff.2 ax,Bool.false_or];cases aB:iX f with
  | false=>simp
  | true=>rw[IC aB];rfl
theorem wu(h:fz W f=false):eT W f=false:=by
 cases hw:eT W f with
 | false=>rfl
 | true=>rw[(na.1 hw).1] at h;cases h
theorem Qe(av:i<f.kids.length)(h:eT W (f.kids.getD i default)=false):eT W f=false:=by
 cases hw:eT W f with
 | false=>rfl
 | true=>rw[(na.1 hw).2 _ (hT av)] at h;cases h
theorem Qf(h:fz W f=true)(ao:f.kids.all (eT W)=true):eT W f=true:=na.2 ⟨h,List.all_eq_true.1 ao⟩
theorem ID(h:pr W f fc):(f.op==2 || f.op==3 || f.op==4)=dO f:=by
 rw[dO,Bool.eq_iff_iff];simp only[Bool.or_eq_true,beq_iff_eq,Bool.and_eq_true,decide_eq_true_eq];omega
theorem IE:(bif bif bif (f.kids.length:Int) !=fc then true else decide (f.arg<0) then true else decide (3<=f.arg) then true else !nQ W f.path)= !((f.kids.length:Int)==fc && iK W f):=by
 rw[e7,e7,e7,iK,bne];show (((_ || decide (f.arg<0)) || decide (3<=f.arg)) || _)= !(_ && !((decide (f.arg<0) || decide (3<=f.arg)) || _));generalize ((f.kids.length:Int)==fc)=a;generalize decide (f.arg<0)=b;generalize decide (3<=f.arg)=c;generalize nQ W f.path=d;cases a <;> cases b <;> cases c <;> cases d <;> rfl
theorem Qg:(bif bif bif f.arg !=0 then true else decide (0<(f.path.length:Int)) then true else f.cls !=0 then true else f.n !=0)= !iX f:=by
 rw[e7,e7,e7,iX,Bool.not_not]
theorem IF(jV:pr W f fc)(uG:((f.kids.length:Int)==fc && iK W f)=true):(bif !(f.op==2 || f.op==3 || f.op==4) then bif bif bif f.arg !=0 then true else decide (0<(f.path.length:Int)) then true else f.cls !=0 then true else f.n !=0 else false)= !fz W f:=by
 rw[Qg,ID jV,D5 jV,uG];cases dO f <;> cases iX f <;> rfl
mutual
theorem Qh(W:bb):∀(f:Fact) (left deep:Int),eT W f=true->(ej f:Int)<=left->(lj f:Int)<=deep->gA W f left deep=(true,left - ej f)
 | .mk op arg path cls n kids,left,deep,h,ab,ae=>by
  have hw:=na.1 h;rw[ej] at ab ⊢;rw[lj] at ae;rw[gA];have aw:ki (.mk op arg path cls n kids) (left - 1) deep=false:=by
   have ai:=hw.1;simp only[fz,Bool.and_eq_true,decide_eq_true_eq,beq_iff_eq] at ai;simp only[ki,Bool.or_eq_false_iff,decide_eq_false_iff_not,bne_eq_false_iff_eq,beq_eq_false_iff_ne];refine⟨⟨⟨⟨ad,ad⟩,ad⟩,ad⟩,ai.1.2⟩
  rw[if_neg (by rw[aw];simp)];have ai:=hw.1;rw[fz,Bool.and_eq_true] at ai;by_cases ax:dO (.mk op arg path cls n kids)=true
  ·have ao:kids= []:=A9 hw.1 ax;rw[if_pos ax] at ai ⊢;rw[ai.2,ao];simp[gf]
  ·rw[if_neg ax] at ai ⊢;rw[if_pos ai.2];rw[Qi W kids (left - 1) (deep - 1) (by rw[eT,Bool.and_eq_true] at h;exact h.2) ad ad];congr 1;omega
theorem Qi(W:bb):∀(l:List Fact) (left deep:Int),rS W l=true->(gf l:Int)<=left->(lP l:Int)<=deep->eS W l left deep=(true,left - gf l)
 | [],left,deep,_,_,_=>by rw[eS,gf];simp
 | k::r,left,deep,h,ab,ae=>by
  rw[rS,Bool.and_eq_true] at h;rw[gf] at ab ⊢;rw[lP] at ae;rw[eS,Qh W k left deep h.1 ad ad,if_pos rfl,Qi W r _ deep h.2 ad ad];congr 1;omega
end
mutual
theorem Qj(W:bb):∀(f:Fact) (left deep:Int),0<=deep->(gA W f left deep).1=true->(lj f:Int)<=deep
 | .mk op arg path cls n kids,left,deep,aN,h=>by
  have hw:=(D2 W _ _ _ h).1;rw[gA] at h;rw[lj];by_cases aw:ki (.mk op arg path cls n kids) (left - 1) deep=true
  ·rw[if_pos aw] at h;cases h
  ·rw[if_neg aw] at h;have Be:1<=deep:=by
    simp only[ki,Bool.not_eq_true,Bool.or_eq_false_iff,beq_eq_false_iff_ne] at aw;omega
   by_cases ax:dO (.mk op arg path cls n kids)=true
   ·have ao:kids= []:=A9 (na.1 hw).1 ax;subst ao;simp[lP];omega
   ·rw[if_neg ax] at h;by_cases aB:iX (.mk op arg path cls n kids)=true
    ·rw[if_pos aB] at h;have:=Qk W kids (left - 1) (deep - 1) ad h;omega
    ·rw[if_neg aB] at h;cases h
theorem Qk(W:bb):∀(l:List Fact) (left deep:Int),0<=deep->(eS W l left deep).1=true->(lP l:Int)<=deep
 | [],left,deep,aN,_=>by rw[lP];omega
 | k::r,left,deep,aN,h=>by
  rw[eS] at h;rw[lP];by_cases ab:(gA W k left deep).1=true
  ·rw[if_pos ab] at h;have a:=Qj W k left deep aN ab;have b:=Qk W r _ deep aN h;omega
  ·rw[if_neg ab] at h;exact absurd h ab
end
theorem Zb(W:bb)(f:Fact):(decide (ej f<=24) && decide (lj f<=12) && eT W f)=mD W f:=by
 rw[Bool.eq_iff_iff];simp only[Bool.and_eq_true,decide_eq_true_eq];constructor
 ·rintro⟨⟨ab,ae⟩,aD⟩;rw[mD,Qh W f 24 12 aD ad ad]
 ·intro h;have ab:=yx h;have ae:=Qj W f 24 12 ad h;exact⟨⟨ab.2,ad⟩,ab.1⟩
end Go.Eng.Fc

namespace Go.Eng.ei
open Go.Eng.Fc
structure bG where
 bP:List Bool
 params:List (List Int)
 nodes:List Int
 aJ:List Int
abbrev aa.da(l:List Bool):aa:=.aF 1 (l.map λb=>[aa.b b])
abbrev lQ(t:bG):List aa:=[aa.da t.bP,aa.bD t.params,aa.ints t.nodes,aa.ints t.aJ]
abbrev aa.ef(t:bG):aa:=.agg (lQ t)
def a7(p:Prog):Nat:=3+p.aY.length
def cr(m:Nat)(k:Int):Bool:=decide (0<=k) && decide (k%2=0) && decide (k<2^m)
def q2(p:Prog)(m:Nat)(t:bG)(i:Nat):Bool:=((t.params.getD i default).length:Int)==p.du.getD (p.methods.getD i default).gen.toNat default && (t.params.getD i default).all (cr m)
def jG(p:Prog)(t:bG):Bool:=
 decide (t.bP.length=p.methods.length) && decide (t.params.length=p.methods.length) && decide (t.nodes.length=p.nodes.length) && decide ((t.aJ.length:Int)=p.aJ) &&
 (List.range t.params.length).all (q2 p (a7 p) t) && t.nodes.all (cr (a7 p)) && t.aJ.all (cr (a7 p))
def lk(p:Prog)(t:bG):Bool:=(bK p).isSome && jG p t
def fT(p:Prog)(c:Nat)(s:Int):Bool:=decide (3<=c) && (ez p c).contains s
def lR(p:Prog)(t:bG)(s:Int)(k:Nat×Bool):Nat×Bool:=
 (if(List.range (a7 p)).any (λc=>k.1.testBit c && fT p c s) then (t.aJ.getD s.toNat default).toNat else 0,k.2 || (List.range (a7 p)).any λc=>k.1.testBit c && !fT p c s)
def ll(p:Prog)(t:bG)(c:Int)(path:List Int):Nat×Bool:=path.foldl (λk s=>lR p t s k) (2^c.toNat,false)
mutual
def e1(p:Prog)(t:bG)(l:List Int):Fact->Bool×Bool
 | .mk op arg path cls n kids=>
  if op=1 then (true,false)
  else if op=5 then ((mH p t l kids).getD 0 default).swap
  else if op=6 then
   let x:=(mH p t l kids).getD 0 default;let y:=(mH p t l kids).getD 1 default
   (x.1 && y.1,x.1 && y.2 || x.2 && y.1 || x.2 && y.2)
  else if op=7 then
   let x:=(mH p t l kids).getD 0 default;let y:=(mH p t l kids).getD 1 default
   (x.1 && y.1 || x.1 && y.2 || x.2 && y.1,x.2 && y.2)
  else
   let k:=ll p t (l.getD arg.toNat default) path
   if op=2 then ((List.range (a7 p)).any (λc=>k.1.testBit c && kG (cH p) c cls),k.2 || (List.range (a7 p)).any λc=>k.1.testBit c && !kG (cH p) c cls)
   else (k.1.testBit 1,k.2 || decide (k.1≠0))
def mH(p:Prog)(t:bG)(l:List Int):List Fact->List (Bool×Bool)
 | []=>[]
 | f::r=>e1 p t l f::mH p t l r
end
theorem Ql(p:Prog)(t:bG)(l:List Int):∀r:List Fact,mH p t l r=r.map (e1 p t l)
 | []=>rfl
 | f::r=>by rw[mH,Ql p t l r];rfl
end Go.Eng.ei

namespace Go.Proofs.YtodccgailpkgeaaGreat
open Go.Eng
open Go.Eng.Fc
open Go.Eng.ei
open Go.ChangeShapes Go.WideShapes
variable{dU cF:List Int}{k:Nat}
theorem laidOut:laidOutB Tryz.prog=true:=by kernel_rfl
instance:dy Tryz.prog 3 (false,1):=⟨aM⟩
instance:dy Tryz.prog 4 (false,1):=⟨aM⟩
instance:dy Tryz.prog 22 (false,1):=⟨aM⟩
instance:dy Tryz.prog 23 (false,1):=⟨aM⟩
instance:dy Tryz.prog 24 (false,1):=⟨aM⟩
instance:dy Tryz.prog 25 (false,1):=⟨aM⟩
instance:dy Tryz.prog 27 (true,6):=⟨aM⟩
instance:dy Tryz.prog 28 (false,1):=⟨aM⟩
instance:dy Tryz.prog 29 (false,1):=⟨aM⟩
instance:dy Tryz.prog 31 (true,4):=⟨aM⟩
instance:dy Tryz.prog 50 (false,1):=⟨aM⟩
instance:dy Tryz.prog 52 (true,3):=⟨aM⟩
instance:dy Tryz.prog 53 (false,1):=⟨aM⟩
instance:dy Tryz.prog 55 (true,3):=⟨aM⟩
instance:dy Tryz.prog 56 (false,1):=⟨aM⟩
instance:dy Tryz.prog 57 (false,1):=⟨aM⟩
instance:dy Tryz.prog 58 (false,1):=⟨aM⟩
instance:dy Tryz.prog 60 (true,6):=⟨aM⟩
instance:dy Tryz.prog 62 (true,9):=⟨aM⟩
instance:dy Tryz.prog 65 (false,1):=⟨aM⟩
instance:dy Tryz.prog 75 (false,1):=⟨aM⟩
instance:dy Tryz.prog 86 (true,2):=⟨aM⟩
instance:dy Tryz.prog 87 (false,1):=⟨aM⟩
instance:dy Tryz.prog 88 (false,1):=⟨aM⟩
instance:dy Tryz.prog 89 (false,1):=⟨aM⟩
instance:dy Tryz.prog 90 (false,1):=⟨aM⟩
instance:dy Tryz.prog 96 (false,1):=⟨aM⟩
instance:dy Tryz.prog 101 (true,2):=⟨aM⟩
instance:dy Tryz.prog 104 (false,1):=⟨aM⟩
instance:dy Tryz.prog 128 (false,1):=⟨aM⟩
instance:dy Tryz.prog 142 (true,9):=⟨aM⟩
instance:dy Tryz.prog 146 (false,1):=⟨aM⟩
instance:dy Tryz.prog 169 (true,2):=⟨aM⟩
instance:dy Tryz.prog 180 (false,1):=⟨aM⟩
instance:dy Tryz.prog 183 (false,1):=⟨aM⟩
instance:dy Tryz.prog 184 (false,1):=⟨aM⟩
instance:dy Tryz.prog 190 (false,1):=⟨aM⟩
instance:dy Tryz.prog 197 (false,1):=⟨aM⟩
instance:dy Tryz.prog 198 (true,2):=⟨aM⟩
instance:dy Tryz.prog 205 (true,2):=⟨aM⟩
instance:dy Tryz.prog 207 (true,0):=⟨aM⟩
instance:dy Tryz.prog 213 (false,1):=⟨aM⟩
instance:dy Tryz.prog 221 (false,1):=⟨aM⟩
instance:dy Tryz.prog 222 (false,1):=⟨aM⟩
instance:dy Tryz.prog 230 (false,1):=⟨aM⟩
instance:dy Tryz.prog 248 (true,1):=⟨aM⟩
instance:dy Tryz.prog 260 (true,6):=⟨aM⟩
instance:dy Tryz.prog 281 (false,1):=⟨aM⟩
instance:dy Tryz.prog 299 (false,1):=⟨aM⟩
instance:dy Tryz.prog 300 (false,1):=⟨aM⟩
instance:dy Tryz.prog 301 (false,1):=⟨aM⟩
instance:dy Tryz.prog 303 (true,7):=⟨aM⟩
instance:dy Tryz.prog 305 (true,0):=⟨aM⟩
instance:dy Tryz.prog 307 (false,1):=⟨aM⟩
instance:dy Tryz.prog 312 (false,1):=⟨aM⟩
instance:dy Tryz.prog 318 (true,4):=⟨aM⟩
instance:c9 Tryz.prog 27 0 0:=⟨aM⟩
instance:c9 Tryz.prog 27 1 1:=⟨aM⟩
instance:c9 Tryz.prog 27 2 2:=⟨aM⟩
instance:c9 Tryz.prog 27 3 3:=⟨aM⟩
instance:c9 Tryz.prog 27 4 4:=⟨aM⟩
instance:c9 Tryz.prog 27 5 5:=⟨aM⟩
instance:c9 Tryz.prog 31 0 0:=⟨aM⟩
instance:c9 Tryz.prog 31 1 1:=⟨aM⟩
instance:c9 Tryz.prog 31 2 2:=⟨aM⟩
instance:c9 Tryz.prog 31 3 3:=⟨aM⟩
instance:c9 Tryz.prog 52 0 0:=⟨aM⟩
instance:c9 Tryz.prog 52 1 1:=⟨aM⟩
instance:c9 Tryz.prog 52 2 2:=⟨aM⟩
instance:c9 Tryz.prog 55 0 0:=⟨aM⟩
instance:c9 Tryz.prog 55 1 1:=⟨aM⟩
instance:c9 Tryz.prog 55 2 2:=⟨aM⟩
instance:c9 Tryz.prog 60 0 0:=⟨aM⟩
instance:c9 Tryz.prog 60 1 1:=⟨aM⟩
instance:c9 Tryz.prog 60 2 2:=⟨aM⟩
instance:c9 Tryz.prog 60 3 3:=⟨aM⟩
instance:c9 Tryz.prog 60 4 4:=⟨aM⟩
instance:c9 Tryz.prog 60 5 5:=⟨aM⟩
instance:c9 Tryz.prog 62 0 0:=⟨aM⟩
instance:c9 Tryz.prog 62 1 1:=⟨aM⟩
instance:c9 Tryz.prog 62 2 2:=⟨aM⟩
instance:c9 Tryz.prog 62 3 8:=⟨aM⟩
instance:c9 Tryz.prog 86 0 0:=⟨aM⟩
instance:c9 Tryz.prog 86 1 1:=⟨aM⟩
instance:c9 Tryz.prog 92 0 0:=⟨aM⟩
instance:c9 Tryz.prog 92 1 4:=⟨aM⟩
instance:c9 Tryz.prog 92 3 12:=⟨aM⟩
instance:c9 Tryz.prog 92 4 13:=⟨aM⟩
instance:c9 Tryz.prog 92 5 14:=⟨aM⟩
instance:c9 Tryz.prog 92 6 15:=⟨aM⟩
instance:c9 Tryz.prog 92 7 16:=⟨aM⟩
instance:c9 Tryz.prog 92 8 17:=⟨aM⟩
instance:c9 Tryz.prog 101 0 0:=⟨aM⟩
instance:c9 Tryz.prog 101 1 1:=⟨aM⟩
instance:c9 Tryz.prog 142 0 0:=⟨aM⟩
instance:c9 Tryz.prog 142 1 1:=⟨aM⟩
instance:c9 Tryz.prog 142 2 4:=⟨aM⟩
instance:c9 Tryz.prog 142 3 7:=⟨aM⟩
instance:c9 Tryz.prog 142 4 8:=⟨aM⟩
instance:c9 Tryz.prog 152 0 0:=⟨aM⟩
instance:c9 Tryz.prog 152 1 6:=⟨aM⟩
instance:c9 Tryz.prog 152 2 10:=⟨aM⟩
instance:c9 Tryz.prog 169 0 0:=⟨aM⟩
instance:c9 Tryz.prog 169 1 1:=⟨aM⟩
instance:c9 Tryz.prog 187 0 0:=⟨aM⟩
instance:c9 Tryz.prog 187 1 2:=⟨aM⟩
instance:c9 Tryz.prog 205 0 0:=⟨aM⟩
instance:c9 Tryz.prog 205 1 1:=⟨aM⟩
instance:c9 Tryz.prog 224 0 0:=⟨aM⟩
instance:c9 Tryz.prog 224 1 1:=⟨aM⟩
instance:c9 Tryz.prog 224 2 2:=⟨aM⟩
instance:c9 Tryz.prog 256 0 0:=⟨aM⟩
instance:c9 Tryz.prog 256 1 6:=⟨aM⟩
instance:c9 Tryz.prog 256 2 8:=⟨aM⟩
instance:c9 Tryz.prog 260 0 0:=⟨aM⟩
instance:c9 Tryz.prog 260 1 2:=⟨aM⟩
instance:c9 Tryz.prog 260 2 3:=⟨aM⟩
instance:c9 Tryz.prog 260 3 4:=⟨aM⟩
instance:c9 Tryz.prog 260 4 5:=⟨aM⟩
instance:c9 Tryz.prog 303 0 0:=⟨aM⟩
instance:c9 Tryz.prog 303 1 6:=⟨aM⟩
instance:c9 Tryz.prog 314 0 0:=⟨aM⟩
instance:c9 Tryz.prog 314 1 1:=⟨aM⟩
instance:c9 Tryz.prog 318 1 1:=⟨aM⟩
instance:c9 Tryz.prog 318 2 2:=⟨aM⟩
instance:c9 Tryz.prog 324 0 0:=⟨aM⟩
instance:c9 Tryz.prog 324 1 1:=⟨aM⟩
instance:c9 Tryz.prog 324 2 2:=⟨aM⟩
instance:c9 Tryz.prog 326 0 0:=⟨aM⟩
instance:c9 Tryz.prog 326 1 3:=⟨aM⟩
instance:c9 Tryz.prog 326 2 4:=⟨aM⟩
instance:c9 Tryz.prog 326 3 5:=⟨aM⟩
instance:c9 Tryz.prog 326 4 6:=⟨aM⟩
instance:c9 Tryz.prog 326 5 7:=⟨aM⟩
instance:ft Tryz.prog 22 3:=⟨aM⟩
instance:ft Tryz.prog 23 1:=⟨aM⟩
instance:ft Tryz.prog 24 9:=⟨aM⟩
instance:ft Tryz.prog 25 3:=⟨aM⟩
instance:ft Tryz.prog 28 1:=⟨aM⟩
instance:ft Tryz.prog 29 1:=⟨aM⟩
instance:ft Tryz.prog 53 2:=⟨aM⟩
instance:ft Tryz.prog 58 6:=⟨aM⟩
instance:ft Tryz.prog 87 1:=⟨aM⟩
instance:ft Tryz.prog 88 1:=⟨aM⟩
instance:ft Tryz.prog 221 1:=⟨aM⟩
instance:ft Tryz.prog 236 1:=⟨aM⟩
instance:ft Tryz.prog 299 7:=⟨aM⟩
instance:vu Tryz.prog 140 (3,1):=⟨aM⟩
instance:vu Tryz.prog 185 (63,1):=⟨aM⟩
instance:vu Tryz.prog 198 (2,1):=⟨aM⟩
instance:vu Tryz.prog 248 (1,1):=⟨aM⟩
instance:hr Tryz.prog 3 [.int .i64 0]:=⟨aM⟩
instance:hr Tryz.prog 4 [.bool false]:=⟨aM⟩
instance:hr Tryz.prog 23 [.slice none 0 0]:=⟨aM⟩
instance:hr Tryz.prog 27 [.slice none 0 0,.int .i64 0,.slice none 0 0,.slice none 0 0,.slice none 0 0,.int .i64 0]:=⟨aM⟩
instance:hr Tryz.prog 31 [.slice none 0 0,.slice none 0 0,.slice none 0 0,.slice none 0 0]:=⟨aM⟩
instance:hr Tryz.prog 52 [.int .i64 0,.int .i64 0,.slice none 0 0]:=⟨aM⟩
instance:hr Tryz.prog 55 [.slice none 0 0,.slice none 0 0,.slice none 0 0]:=⟨aM⟩
instance:hr Tryz.prog 60 [.int .i64 0,.int .i64 0,.slice none 0 0,.int .i64 0,.int .i64 0,.slice none 0 0]:=⟨aM⟩
instance:hr Tryz.prog 62 [.int .i64 0,.int .i64 0,.int .i64 0,.int .i64 0,.slice none 0 0,.int .i64 0,.int .i64 0,.slice none 0 0,.int .i64 0]:=⟨aM⟩
instance:hr Tryz.prog 65 [.nilFunc]:=⟨aM⟩
instance:hr Tryz.prog 75 [.pointer none]:=⟨aM⟩
instance:hr Tryz.prog 86 [.slice none 0 0,.slice none 0 0]:=⟨aM⟩
instance:hr Tryz.prog 101 [.int .i64 0,.int .i64 0]:=⟨aM⟩
instance:hr Tryz.prog 104 [.int .u8 0]:=⟨aM⟩
instance:hr Tryz.prog 142 [.int .i64 0,.int .i64 0,.int .i64 0,.slice none 0 0,.int .i64 0,.int .i64 0,.int .i64 0,.slice none 0 0,.int .i64 0]:=⟨aM⟩
instance:hr Tryz.prog 169 [.int .i64 0,.int .i64 0]:=⟨aM⟩
instance:hr Tryz.prog 190 [.map none]:=⟨aM⟩
instance:hr Tryz.prog 198 [.int .i64 0,.int .i64 0]:=⟨aM⟩
instance:hr Tryz.prog 205 [.int .i64 0,.bool false]:=⟨aM⟩
instance:hr Tryz.prog 207 []:=⟨aM⟩
instance:hr Tryz.prog 213 [.nilFunc]:=⟨aM⟩
instance:hr Tryz.prog 248 [.int .u64 0]:=⟨aM⟩
instance:hr Tryz.prog 260 [.slice none 0 0,.slice none 0 0,.slice none 0 0,.int .i64 0,.slice none 0 0,.bool false]:=⟨aM⟩
instance:hr Tryz.prog 281 [.int .u64 0]:=⟨aM⟩
instance:hr Tryz.prog 301 [.nilFunc]:=⟨aM⟩
instance:hr Tryz.prog 303 [.int .i64 0,.int .i64 0,.slice none 0 0,.int .i64 0,.int .i64 0,.slice none 0 0,.bool false]:=⟨aM⟩
instance:hr Tryz.prog 305 []:=⟨aM⟩
instance:hr Tryz.prog 318 [.int .i64 0,.int .i64 0,.int .i64 0,.int .i64 0]:=⟨aM⟩
instance:Gi Tryz.prog 4:=⟨aM⟩
instance:sC Tryz.prog 3 .i64:=⟨aM⟩
instance:sC Tryz.prog 5 .u8:=⟨aM⟩
instance:sC Tryz.prog 45 .u16:=⟨aM⟩
instance:sC Tryz.prog 183 .u64:=⟨aM⟩
instance:sC Tryz.prog 210 .u64:=⟨aM⟩
instance:sC Tryz.prog 239 .u32:=⟨aM⟩
instance:sC Tryz.prog 281 .u64:=⟨aM⟩
theorem akF:Go.Maps.Keyed Tryz.prog 198:=Go.Maps.Keyed.of_law (deep_law_laid laidOut (m:=3) ad (of_decide_eq_true aM) aM aM)
theorem Zc:Go.Maps.Keyed Tryz.prog 318:=Go.Maps.Keyed.of_law (deep_law_laid laidOut (m:=3) ad (of_decide_eq_true aM) aM aM)
instance:Af Tryz.prog 312 (318,321):=⟨aM,Zc,aM⟩
instance:h7 Tryz.prog 27 ([.slice none 0 0,.int .i64 0,.slice none 0 0,.slice none 0 0,.slice none 0 0,.int .i64 0],[(0,1),(1,1),(2,1),(3,1),(4,1),(5,1)]):=⟨aM⟩
instance:h7 Tryz.prog 31 ([.slice none 0 0,.slice none 0 0,.slice none 0 0,.slice none 0 0],[(0,1),(1,1),(2,1),(3,1)]):=⟨aM⟩
instance:h7 Tryz.prog 52 ([.int .i64 0,.int .i64 0,.slice none 0 0],[(0,1),(1,1),(2,1)]):=⟨aM⟩
instance:h7 Tryz.prog 55 ([.slice none 0 0,.slice none 0 0,.slice none 0 0],[(0,1),(1,1),(2,1)]):=⟨aM⟩
instance:h7 Tryz.prog 60 ([.int .i64 0,.int .i64 0,.slice none 0 0,.int .i64 0,.int .i64 0,.slice none 0 0],[(0,1),(1,1),(2,1),(3,1),(4,1),(5,1)]):=⟨aM⟩
instance:h7 Tryz.prog 62 ([.int .i64 0,.int .i64 0,.int .i64 0,.int .i64 0,.slice none 0 0,.int .i64 0,.int .i64 0,.slice none 0 0,.int .i64 0],[(0,1),(1,1),(2,6),(8,1)]):=⟨aM⟩
instance:h7 Tryz.prog 86 ([.slice none 0 0,.slice none 0 0],[(0,1),(1,1)]):=⟨aM⟩
instance:h7 Tryz.prog 92 ([.slice none 0 0,.slice none 0 0,.slice none 0 0,.slice none 0 0,.slice none 0 0,.int .i64 0,.slice none 0 0,.slice none 0 0,.slice none 0 0,.int .i64 0,.slice none 0 0,.slice none 0 0,.slice none 0 0,.slice none 0 0,.slice none 0 0,.map none,.map none,.bool false],[(0,4),(4,6),(10,2),(12,1),(13,1),(14,1),(15,1),(16,1),(17,1)]):=⟨aM⟩
instance:h7 Tryz.prog 101 ([.int .i64 0,.int .i64 0],[(0,1),(1,1)]):=⟨aM⟩
instance:h7 Tryz.prog 142 ([.int .i64 0,.int .i64 0,.int .i64 0,.slice none 0 0,.int .i64 0,.int .i64 0,.int .i64 0,.slice none 0 0,.int .i64 0],[(0,1),(1,3),(4,3),(7,1),(8,1)]):=⟨aM⟩
instance:h7 Tryz.prog 152 ([.slice none 0 0,.int .i64 0,.slice none 0 0,.slice none 0 0,.slice none 0 0,.int .i64 0,.slice none 0 0,.slice none 0 0,.slice none 0 0,.slice none 0 0,.slice none 0 0],[(0,6),(6,4),(10,1)]):=⟨aM⟩
instance:h7 Tryz.prog 169 ([.int .i64 0,.int .i64 0],[(0,1),(1,1)]):=⟨aM⟩
instance:h7 Tryz.prog 176 ([],[]):=⟨aM⟩
instance:h7 Tryz.prog 187 ([.slice none 0 0,.slice none 0 0,.int .u64 0,.int .u64 0,.int .u64 0,.int .u64 0,.int .u64 0,.int .u64 0,.int .u64 0,.int .u64 0,.int .u64 0,.int .u64 0,.int .u64 0,.int .u64 0,.int .u64 0,.int .u64 0,.int .u64 0,.int .u64 0,.int .u64 0,.int .u64 0,.int .u64 0,.int .u64 0,.int .u64 0,.int .u64 0,.int .u64 0,.int .u64 0,.int .u64 0,.int .u64 0,.int .u64 0,.int .u64 0,.int .u64 0,.int .u64 0,.int .u64 0,.int .u64 0,.int .u64 0,.int .u64 0,.int .u64 0,.int .u64 0,.int .u64 0,.int .u64 0,.int .u64 0,.int .u64 0,.int .u64 0,.int .u64 0,.int .u64 0,.int .u64 0,.int .u64 0,.int .u64 0,.int .u64 0,.int .u64 0,.int .u64 0,.int .u64 0,.int .u64 0,.int .u64 0,.int .u64 0,.int .u64 0,.int .u64 0,.int .u64 0,.int .u64 0,.int .u64 0,.int .u64 0,.int .u64 0,.int .u64 0,.int .u64 0,.int .u64 0],[(0,2),(2,63)]):=⟨aM⟩
instance:h7 Tryz.prog 198 ([.int .i64 0,.int .i64 0],[(0,1),(1,1)]):=⟨aM⟩
instance:h7 Tryz.prog 205 ([.int .i64 0,.bool false],[(0,1),(1,1)]):=⟨aM⟩
instance:h7 Tryz.prog 207 ([],[]):=⟨aM⟩
instance:h7 Tryz.prog 224 ([.slice none 0 0,.slice none 0 0,.map none],[(0,1),(1,1),(2,1)]):=⟨aM⟩
instance:h7 Tryz.prog 248 ([.int .u64 0],[(0,1)]):=⟨aM⟩
instance:h7 Tryz.prog 256 ([.slice none 0 0,.int .i64 0,.slice none 0 0,.slice none 0 0,.slice none 0 0,.int .i64 0,.slice none 0 0,.slice none 0 0,.map none],[(0,6),(6,2),(8,1)]):=⟨aM⟩
instance:h7 Tryz.prog 260 ([.slice none 0 0,.slice none 0 0,.slice none 0 0,.int .i64 0,.slice none 0 0,.bool false],[(0,2),(2,1),(3,1),(4,1),(5,1)]):=⟨aM⟩
instance:h7 Tryz.prog 303 ([.int .i64 0,.int .i64 0,.slice none 0 0,.int .i64 0,.int .i64 0,.slice none 0 0,.bool false],[(0,6),(6,1)]):=⟨aM⟩
instance:h7 Tryz.prog 305 ([],[]):=⟨aM⟩
instance:h7 Tryz.prog 314 ([.pointer none,.map none],[(0,1),(1,1)]):=⟨aM⟩
instance:h7 Tryz.prog 318 ([.int .i64 0,.int .i64 0,.int .i64 0,.int .i64 0],[(0,1),(1,1),(2,2)]):=⟨aM⟩
instance:h7 Tryz.prog 324 ([.int .i64 0,.int .i64 0,.slice none 0 0],[(0,1),(1,1),(2,1)]):=⟨aM⟩
instance:h7 Tryz.prog 326 ([.int .i64 0,.int .i64 0,.slice none 0 0,.int .u64 0,.int .u64 0,.bool false,.bool false,.slice none 0 0],[(0,3),(3,1),(4,1),(5,1),(6,1),(7,1)]):=⟨aM⟩
instance:la Tryz.prog 22 (3,[.slice none 0 0,.slice none 0 0,.slice none 0 0]):=⟨aM⟩
instance:la Tryz.prog 23 (1,[.int .i64 0]):=⟨aM⟩
instance:la Tryz.prog 24 (9,[.int .i64 0,.int .i64 0,.int .i64 0,.int .i64 0,.slice none 0 0,.int .i64 0,.int .i64 0,.slice none 0 0,.int .i64 0]):=⟨aM⟩
instance:la Tryz.prog 25 (3,[.int .i64 0,.int .i64 0,.slice none 0 0]):=⟨aM⟩
instance:la Tryz.prog 28 (1,[.bool false]):=⟨aM⟩
instance:la Tryz.prog 29 (1,[.slice none 0 0]):=⟨aM⟩
instance:la Tryz.prog 53 (2,[.int .i64 0,.int .i64 0]):=⟨aM⟩
instance:la Tryz.prog 58 (6,[.int .i64 0,.int .i64 0,.slice none 0 0,.int .i64 0,.int .i64 0,.slice none 0 0]):=⟨aM⟩
instance:la Tryz.prog 87 (1,[.slice none 0 0]):=⟨aM⟩
instance:la Tryz.prog 88 (1,[.map none]):=⟨aM⟩
instance:la Tryz.prog 221 (1,[.int .u64 0]):=⟨aM⟩
instance:la Tryz.prog 236 (1,[.slice none 0 0]):=⟨aM⟩
instance:la Tryz.prog 299 (7,[.int .i64 0,.int .i64 0,.slice none 0 0,.int .i64 0,.int .i64 0,.slice none 0 0,.bool false]):=⟨aM⟩
instance:hv Tryz.prog 22 (55,3,72):=⟨aM⟩
instance:hv Tryz.prog 23 (3,1,8):=⟨aM⟩
instance:hv Tryz.prog 24 (62,9,104):=⟨aM⟩
instance:hv Tryz.prog 25 (52,3,40):=⟨aM⟩
instance:hv Tryz.prog 28 (4,1,1):=⟨aM⟩
instance:hv Tryz.prog 29 (23,1,24):=⟨aM⟩
instance:hv Tryz.prog 53 (101,2,16):=⟨aM⟩
instance:hv Tryz.prog 58 (60,6,80):=⟨aM⟩
instance:hv Tryz.prog 87 (28,1,24):=⟨aM⟩
instance:hv Tryz.prog 88 (128,1,8):=⟨aM⟩
instance:hv Tryz.prog 221 (248,1,8):=⟨aM⟩
instance:hv Tryz.prog 236 (58,1,24):=⟨aM⟩
instance:hv Tryz.prog 299 (303,7,88):=⟨aM⟩
theorem mixed:Tryz.prog.follows .mixedOrders=true:=by kernel_rfl
section
variable{H:Type}{enc:TypeId×Value->H}{w:World}{base:Nat}{spare:Nat->Bool}{held:Bool}{bx:DataW H->Nat}
theorem uH(bE:kb bx)(n:Nat):jC enc Tryz.prog w base spare held bx n 3 (λq:Int=>[aa.i q]) (λ_ _=>True):=(Aq Tryz.underlying3).b
theorem Bf(bE:kb bx)(n:Nat):jC enc Tryz.prog w base spare held bx n 23 (λl:List Int=>[aa.ints l]) (λ(l:List _) (b:Nat)=>l.length<=b):=λfuel aP cs x h=>by
 obtain⟨l,ax,bd⟩:=vN (n:=n) bE (k:=1) (Q:=λ_ _=>True) (λy a b=>λ_ _=>trivial) Tryz.underlying23 aM ad (λ_=>rfl) (uH bE n) fuel ad cs x h;exact⟨l,ax,bd.1⟩
theorem Zd(bE:kb bx)(n:Nat):jC enc Tryz.prog w base spare held bx n 50 (λq:Int=>[aa.i q]) (λ_ _=>True):=(Aq Tryz.underlying50).b
theorem Ze(bE:kb bx)(n:Nat):jC enc Tryz.prog w base spare held bx n 56 (λq:Int=>[aa.i q]) (λ_ _=>True):=(Aq Tryz.underlying56).b
theorem Zf(bE:kb bx)(n:Nat):jC enc Tryz.prog w base spare held bx n 101 (vY) (λ_ _=>True):=λfuel aP cs x h=>by
 obtain⟨xs,m,rfl,ag,ax,hn,al⟩:=DataW.trod_struct Tryz.underlying101 h;have ax:cs.length=2:=ax.trans aM;have ai:=al 0 _ rfl;have ab:=al 1 _ rfl;rw[List.getElem?_eq_getElem pP] at ai ab;obtain⟨h8,nV,oD⟩:=uH bE m m (Nat.le_refl _) _ _ ai;obtain⟨nH,aS,dg⟩:=uH bE m m (Nat.le_refl _) _ _ ab;refine⟨⟨h8,nH⟩,?_,trivial⟩;have:=(kX (a:=0) (n:=1) (m:=1) nV aS);rwa [List.drop_zero,List.take_of_length_le ad] at this
theorem Zg(bE:kb bx)(n:Nat):jC enc Tryz.prog w base spare held bx n 53 (λl:List (Int×Int)=>[aa.aF 2 (l.map vY)]) (λ_ _=>True):=λfuel aP cs x h=>by
 obtain⟨l,ax,_⟩:=vN (n:=n) bE (k:=2) (Q:=λ_ _=>True) (λy a b=>λ_ _=>trivial) Tryz.underlying53 aM ad (λ_=>rfl) (Zf bE n) fuel ad cs x h;exact⟨l,ax,trivial⟩
theorem Zh(bE:kb bx)(n:Nat):jC enc Tryz.prog w base spare held bx n 55 (qa) (λ(c:hh) (b:Nat)=>c.parents.length<=b):=λfuel aP cs x h=>by
 obtain⟨xs,m,rfl,ag,ax,hn,al⟩:=DataW.trod_struct Tryz.underlying55 h;have ax:cs.length=3:=ax.trans aM;have ai:=al 0 _ rfl;have ab:=al 1 _ rfl;have ae:=al 2 _ rfl;rw[List.getElem?_eq_getElem pP] at ai ab ae;obtain⟨h8,nV,oD⟩:=Bf bE m m (Nat.le_refl _) _ _ ai;obtain⟨nH,aS,dg⟩:=Bf bE m m (Nat.le_refl _) _ _ ab;obtain⟨nI,ee,dh⟩:=Zg bE m m (Nat.le_refl _) _ _ ae;have IG:bx (xs[0]'pP).1<=bx x.1:=by rw[ag];exact bE.bV _ _ (List.mem_map.2 ⟨_,List.getElem_mem _,rfl⟩)
 replace oD:(λ(l:List _) (b:Nat)=>l.length<=b) h8 (bx x.1):=(λab ae=>Nat.le_trans ae ab) IG oD;have PC:bx (xs[1]'pP).1<=bx x.1:=by rw[ag];exact bE.bV _ _ (List.mem_map.2 ⟨_,List.getElem_mem _,rfl⟩)
 replace dg:(λ(l:List _) (b:Nat)=>l.length<=b) nH (bx x.1):=(λab ae=>Nat.le_trans ae ab) PC dg;refine⟨⟨h8,nH,nI⟩,?_,oD⟩;have:=(kX (a:=0) (n:=2) (m:=1) (kX (a:=0) (n:=1) (m:=1) nV aS) ee);rwa [List.drop_zero,List.take_of_length_le ad] at this
theorem Zi(bE:kb bx)(n:Nat):jC enc Tryz.prog w base spare held bx n 22 (λl:List hh=>[aa.aF 3 (l.map qa)]) (λ(l:List hh) (b:Nat)=>l.length<=b/\∀c∈l,c.parents.length<=b):=λfuel aP cs x h=>by
 obtain⟨l,ax,bd⟩:=vN (n:=n) bE (k:=3) (Q:=λ(c:hh) (b:Nat)=>c.parents.length<=b) (λy a b=>λab ae=>Nat.le_trans ae ab) Tryz.underlying22 aM ad (λ_=>rfl) (Zh bE n) fuel ad cs x h;exact⟨l,ax,bd⟩
theorem Qm:∀n:Nat,Reads enc Tryz.prog w base spare held n 60 ix
 | 0,fuel,aP,cs,x,h=>by
  obtain⟨xs,m,rfl,_⟩:=DataW.trod_struct Tryz.underlying60 h;omega
 | n+1,fuel,aP,cs,x,h=>by
  obtain⟨xs,m,rfl,_,ax,hn,al⟩:=DataW.trod_struct Tryz.underlying60 h;have ax:cs.length=6:=ax.trans aM;have ai:=al 0 _ rfl;have ab:=al 1 _ rfl;have ae:=al 2 _ rfl;have aD:=al 3 _ rfl;have aV:=al 4 _ rfl;have bl:=al 5 _ rfl;rw[List.getElem?_eq_getElem pP] at ai ab ae aD aV bl;have av:Reads enc Tryz.prog w base spare held m 3 (λq:Int=>[aa.i q]):=Aq Tryz.underlying3;obtain⟨h8,nV⟩:=Aq (n:=m) Tryz.underlying57 m (Nat.le_refl _) _ _ ai;obtain⟨nH,aS⟩:=av m (Nat.le_refl _) _ _ ab;obtain⟨nI,ee⟩:=NC (n:=m) (k:=1) Tryz.underlying23 aM ad (λ_=>rfl) av m ad _ _ ae;obtain⟨wv,ny⟩:=av m (Nat.le_refl _) _ _ aD;obtain⟨IH,II⟩:=av m (Nat.le_refl _) _ _ aV;obtain⟨D6,yz⟩:=NC (n:=n) (k:=6) Tryz.underlying58 aM ad (λ_=>rfl) (Qm n) m ad _ _ bl;refine⟨.mk h8 nH nI wv IH D6,?_⟩;have yz:bZ (allI w) w [aa.aF 6 (D6.map ix)] _:=yz;rw[<-DH] at yz;have:=kX (a:=0) (n:=5) (m:=1) (kX (a:=0) (n:=4) (m:=1) (kX (a:=0) (n:=3) (m:=1) (kX (a:=0) (n:=2) (m:=1) (kX (a:=0) (n:=1) (m:=1) nV aS) ee) ny) II) yz;rwa [List.drop_zero,List.take_of_length_le ad] at this
theorem Zj(bE:kb bx)(n:Nat):jC enc Tryz.prog w base spare held bx n 60 ix (λ_ _=>True):=(Qm n).b
theorem Zk(bE:kb bx)(n:Nat):jC enc Tryz.prog w base spare held bx n 62 (fw) (λ_ _=>True):=λfuel aP cs x h=>by
 obtain⟨xs,m,rfl,ag,ax,hn,al⟩:=DataW.trod_struct Tryz.underlying62 h;have ax:cs.length=9:=ax.trans aM;have ai:=al 0 _ rfl;have ab:=al 1 _ rfl;have ae:=al 2 _ rfl;have aD:=al 3 _ rfl;rw[List.getElem?_eq_getElem pP] at ai ab ae aD;obtain⟨h8,nV,oD⟩:=Ze bE m m (Nat.le_refl _) _ _ ai;obtain⟨nH,aS,dg⟩:=uH bE m m (Nat.le_refl _) _ _ ab;obtain⟨nI,ee,dh⟩:=Zj bE m m (Nat.le_refl _) _ _ ae;obtain⟨wv,ny,ea⟩:=uH bE m m (Nat.le_refl _) _ _ aD;refine⟨⟨h8,nH,nI,wv⟩,?_,trivial⟩;have:=(kX (a:=0) (n:=8) (m:=1) (kX (a:=0) (n:=2) (m:=6) (kX (a:=0) (n:=1) (m:=1) nV aS) ee) ny);rwa [List.drop_zero,List.take_of_length_le ad] at this
theorem Zl(bE:kb bx)(n:Nat):jC enc Tryz.prog w base spare held bx n 24 (λl:List iz=>[aa.aF 9 (l.map fw)]) (λ_ _=>True):=λfuel aP cs x h=>by
 obtain⟨l,ax,_⟩:=vN (n:=n) bE (k:=9) (Q:=λ_ _=>True) (λy a b=>λ_ _=>trivial) Tryz.underlying24 aM ad (λ_=>rfl) (Zk bE n) fuel ad cs x h;exact⟨l,ax,trivial⟩
theorem Zm(bE:kb bx)(n:Nat):jC enc Tryz.prog w base spare held bx n 52 (lN) (λ_ _=>True):=λfuel aP cs x h=>by
 obtain⟨xs,m,rfl,ag,ax,hn,al⟩:=DataW.trod_struct Tryz.underlying52 h;have ax:cs.length=3:=ax.trans aM;have ai:=al 0 _ rfl;have ab:=al 1 _ rfl;have ae:=al 2 _ rfl;rw[List.getElem?_eq_getElem pP] at ai ab ae;obtain⟨h8,nV,oD⟩:=Zd bE m m (Nat.le_refl _) _ _ ai;obtain⟨nH,aS,dg⟩:=uH bE m m (Nat.le_refl _) _ _ ab;obtain⟨nI,ee,dh⟩:=Bf bE m m (Nat.le_refl _) _ _ ae;have kM:bx (xs[2]'pP).1<=bx x.1:=by rw[ag];exact bE.bV _ _ (List.mem_map.2 ⟨_,List.getElem_mem _,rfl⟩)
 replace dh:(λ(l:List _) (b:Nat)=>l.length<=b) nI (bx x.1):=(λab ae=>Nat.le_trans ae ab) kM dh;refine⟨⟨h8,nH,nI⟩,?_,trivial⟩;have:=(kX (a:=0) (n:=2) (m:=1) (kX (a:=0) (n:=1) (m:=1) nV aS) ee);rwa [List.drop_zero,List.take_of_length_le ad] at this
theorem Zn(bE:kb bx)(n:Nat):jC enc Tryz.prog w base spare held bx n 25 (λl:List ew=>[aa.aF 3 (l.map lN)]) (λ_ _=>True):=λfuel aP cs x h=>by
 obtain⟨l,ax,_⟩:=vN (n:=n) bE (k:=3) (Q:=λ_ _=>True) (λy a b=>λ_ _=>trivial) Tryz.underlying25 aM ad (λ_=>rfl) (Zm bE n) fuel ad cs x h;exact⟨l,ax,trivial⟩
theorem Zo(bE:kb bx)(n:Nat):jC enc Tryz.prog w base spare held bx n 27 (dF) (λ(p:Prog) (b:Nat)=>p.aY.length<=b/\∀c∈p.aY,c.parents.length<=b):=λfuel aP cs x h=>by
 obtain⟨xs,m,rfl,ag,ax,hn,al⟩:=DataW.trod_struct Tryz.underlying27 h;have ax:cs.length=6:=ax.trans aM;have ai:=al 0 _ rfl;have ab:=al 1 _ rfl;have ae:=al 2 _ rfl;have aD:=al 3 _ rfl;have aV:=al 4 _ rfl;have bl:=al 5 _ rfl;rw[List.getElem?_eq_getElem pP] at ai ab ae aD aV bl;obtain⟨h8,nV,oD⟩:=Zi bE m m (Nat.le_refl _) _ _ ai;obtain⟨nH,aS,dg⟩:=uH bE m m (Nat.le_refl _) _ _ ab;obtain⟨nI,ee,dh⟩:=Bf bE m m (Nat.le_refl _) _ _ ae;obtain⟨wv,ny,ea⟩:=Zl bE m m (Nat.le_refl _) _ _ aD;obtain⟨IH,II,gP⟩:=Zn bE m m (Nat.le_refl _) _ _ aV;obtain⟨D6,yz,jA⟩:=uH bE m m (Nat.le_refl _) _ _ bl;have IG:bx (xs[0]'pP).1<=bx x.1:=by rw[ag];exact bE.bV _ _ (List.mem_map.2 ⟨_,List.getElem_mem _,rfl⟩)
 replace oD:(λ(l:List hh) (b:Nat)=>l.length<=b/\∀c∈l,c.parents.length<=b) h8 (bx x.1):=(λab ae=>⟨Nat.le_trans ae.1 ab,λc ak=>Nat.le_trans (ae.2 c ak) ab⟩) IG oD;have kM:bx (xs[2]'pP).1<=bx x.1:=by rw[ag];exact bE.bV _ _ (List.mem_map.2 ⟨_,List.getElem_mem _,rfl⟩)
 replace dh:(λ(l:List _) (b:Nat)=>l.length<=b) nI (bx x.1):=(λab ae=>Nat.le_trans ae ab) kM dh;refine⟨⟨h8,nH,nI,wv,IH,D6⟩,?_,oD⟩;have:=(kX (a:=0) (n:=5) (m:=1) (kX (a:=0) (n:=4) (m:=1) (kX (a:=0) (n:=3) (m:=1) (kX (a:=0) (n:=2) (m:=1) (kX (a:=0) (n:=1) (m:=1) nV aS) ee) ny) II) yz);rwa [List.drop_zero,List.take_of_length_le ad] at this
theorem Zp(bE:kb bx)(n:Nat):jC enc Tryz.prog w base spare held bx n 4 (λq:Bool=>[aa.b q]) (λ_ _=>True):=λfuel _ cs x h=>by
 obtain⟨q,rfl,_⟩:=DataW.trod_bool Tryz.underlying4 h;exact⟨q,.cons _ _ _ _ (.val _) .nil,trivial⟩
theorem Zq(bE:kb bx)(n:Nat):jC enc Tryz.prog w base spare held bx n 28 (λl:List Bool=>[aa.da l]) (λ_ _=>True):=λfuel aP cs x h=>by
 obtain⟨l,ax,_⟩:=vN (n:=n) bE (k:=1) (Q:=λ_ _=>True) (λy a b=>λ_ _=>trivial) Tryz.underlying28 aM ad (λ_=>rfl) (Zp bE n) fuel ad cs x h;exact⟨l,ax,trivial⟩
theorem IJ(bE:kb bx)(n:Nat):jC enc Tryz.prog w base spare held bx n 23 (λl:List Int=>[aa.ints l]) (λ_ _=>True):=λfuel aP cs x h=>let ⟨l,ax,_⟩:=Bf bE n fuel aP cs x h;⟨l,ax,trivial⟩
theorem Zr(bE:kb bx)(n:Nat):jC enc Tryz.prog w base spare held bx n 29 (λl:List (List Int)=>[aa.bD l]) (λ_ _=>True):=λfuel aP cs x h=>by
 obtain⟨l,ax,_⟩:=vN (n:=n) bE (k:=1) (Q:=λ_ _=>True) (λy a b=>λ_ _=>trivial) Tryz.underlying29 aM ad (λ_=>rfl) (IJ bE n) fuel ad cs x h;exact⟨l,ax,trivial⟩
theorem Zs(bE:kb bx)(n:Nat):jC enc Tryz.prog w base spare held bx n 31 (lQ) (λ_ _=>True):=λfuel aP cs x h=>by
 obtain⟨xs,m,rfl,ag,ax,hn,al⟩:=DataW.trod_struct Tryz.underlying31 h;have ax:cs.length=4:=ax.trans aM;have ai:=al 0 _ rfl;have ab:=al 1 _ rfl;have ae:=al 2 _ rfl;have aD:=al 3 _ rfl;rw[List.getElem?_eq_getElem pP] at ai ab ae aD;obtain⟨h8,nV,oD⟩:=Zq bE m m (Nat.le_refl _) _ _ ai;obtain⟨nH,aS,dg⟩:=Zr bE m m (Nat.le_refl _) _ _ ab;obtain⟨nI,ee,dh⟩:=IJ bE m m (Nat.le_refl _) _ _ ae;obtain⟨wv,ny,ea⟩:=IJ bE m m (Nat.le_refl _) _ _ aD;refine⟨⟨h8,nH,nI,wv⟩,?_,trivial⟩;have:=(kX (a:=0) (n:=3) (m:=1) (kX (a:=0) (n:=2) (m:=1) (kX (a:=0) (n:=1) (m:=1) nV aS) ee) ny);rwa [List.drop_zero,List.take_of_length_le ad] at this
end
section
variable{H:Type}{enc:TypeId×Value->H}{w:World}{v:Value}{d:DataW H}{bH:List MemPlace}{base Qn:Nat}{r:Reach}{bx:DataW H->Nat}
theorem Zt(bE:kb bx)(h:DataW.Trod enc Tryz.prog w base (λ_=>true) true 27 v d bH):∃g:Prog,Rel (allI w) w (aa.prog g) v/\(g.aY.length<=bx d/\∀c∈g.aY,c.parents.length<=bx d):=by
 obtain⟨fuel,h⟩:=h;obtain⟨g,al,bd⟩:=Zo bE fuel fuel (Nat.le_refl _) _ _ h;exact⟨g,ND al bj,bd⟩
theorem Zu{p:Prog}{n:Nat}(hn:n<=1048576)(h:p.aY.length<=n/\∀c∈p.aY,c.parents.length<=n):p.Small:=⟨ad,λc ak=>by have:=h.2 c ak;omega⟩
theorem Zv(bE:kb bx)(h:DataW.Trod enc Tryz.prog w base (λ_=>true) true 31 v d bH):∃g:bG,Rel (allI w) w (aa.ef g) v:=by
 obtain⟨fuel,h⟩:=h;obtain⟨g,al,_⟩:=Zs bE fuel fuel (Nat.le_refl _) _ _ h;exact⟨g,ND al bj⟩
end
theorem Zw{H:Type}(d:DataW H):1<=Rows.uptoBulk d:=by
 cases d with
 | lit l=>cases l <;> simp[Rows.uptoBulk]
 | _=>simp[Rows.uptoBulk]
theorem Qo{H:Type}:∀l:List (DataW H),l.length<=Rows.uptoBulkAll l
 | []=>by simp
 | d::r=>by
  have ab:=Zw d;have ae:=Qo r;simp only[Rows.uptoBulkAll,List.length_cons];omega
theorem IK{H:Type}:∀l:List (DataW H),∀e∈l,Rows.uptoBulk e<=Rows.uptoBulkAll l
 | d::r,e,he=>by
  simp only[Rows.uptoBulkAll];rcases List.mem_cons.1 he with rfl | he
  ·omega
  ·have:=IK r e he;omega
theorem IL{H:Type}:kb (Rows.uptoBulk (H:=H)):=
 ⟨λes sp=>by have:=Qo es;simp only[Rows.uptoBulk];omega,λes sp e he=>by have:=IK es e he;simp only[Rows.uptoBulk];omega,λbH e he=>by have:=IK bH e he;simp only[Rows.uptoBulk];omega⟩
abbrev wx:Value:=.iface 207 (.agg #[])
abbrev uI:aa:=.iface 207 (.agg [])
theorem fm:uI.Const wx where
 is I w u h:=by
  cases h with
  | iface _ _ v h=>cases h with
   | agg _ vs h=>
    have:vs= #[]:=by cases vs with | mk l=>cases h;rfl
    rw[this]
 rel I w:=.iface _ _ _ (.agg _ _ .nil)
def L8:Option (Option Nat)->aa
 | none=>.val .nilIface
 | some none=>.iface 176 (.agg [])
 | some (some k)=>.iface 174 (.i k)
theorem nW{b:Bool}(aw:b=true)(H:List aj):o9 Tryz.prog 126 [.b b] H (some (.bJ [],H)) H uI:=by
 refine bh (n:=6) Tryz.func126 λB I aO=>?_;refine aT ?_;refine aq.cond rfl (λai=>?_) (λai=>?_)
 ·simp[aw] at ai
 ·replace ai:=dZ ai;refine bt ?_;refine jj [] (H) ?_;exact rfl
theorem nd{b:Bool}(aw:b=false)(H:List aj):o9 Tryz.prog 126 [.b b] H none H uI:=by
 refine bh (n:=6) Tryz.func126 λB I aO=>?_;refine aT ?_;refine aq.cond rfl (λai=>?_) (λai=>?_)
 ·replace ai:=dZ ai;refine bC ?_;refine aG (af.vL rfl rfl rfl aM) ?_;refine au.Xe rfl rfl rfl rfl fm ?_;exact lG fm (.refl _) ⟨rfl,rfl,rfl⟩
 ·simp[aw] at ai
theorem Qp(n:Int):ba Tryz.prog 167 [.i n] (.b (ph n)):=by
 intro H;refine bh (n:=9) Tryz.func167 λB I aO=>?_;refine hB ?_;refine aS 2 (H) ?_;exact⟨bR (by unfold ph;by_cases h: -1000000000<=n <;> simp[h]),rfl⟩
theorem Zx(l:List Int)(v:Int):ba Tryz.prog 115 [aa.ints l,.i v] (.i (v7 l v)):=by
 intro H;refine bh (n:=19) Tryz.func115 λB I aO=>?_;refine aq.fi (t:=0) rfl (λhg=>?_);refine eb ?_;refine cq (λm st=>∃k:Nat,st=⟨[(8,.i k),(7,.i l.length),(0,aa.ints l),(1,.i v)],H⟩/\m=l.length - k/\k<=l.length/\∀x∈l.take k,x≠v) (⟨0,rfl,rfl,bj,bj⟩) ?_;rintro m _ ⟨k,rfl,rfl,ao,aB⟩;refine aT ?_;refine aZ (λai=>?_) λai=>?_
 ·refine ma ?_;refine aZ (λab=>?_) λab=>?_
  ·refine cT ?_;refine aS 4 (H) ?_;exact⟨gp (Yw ad aB ab),rfl⟩
  ·refine bn ?_;exact bV (⟨k+1,rfl,rfl,ad,OO ad aB ab⟩)
 ·refine cw ?_;refine aS 4 (H) ?_;exact⟨gp (Yx Mi),rfl⟩
theorem Bg(l:List Int)(v:Int):ba Tryz.prog 78 [aa.ints l,.i v] (.b (l.contains v)):=by
 intro H;refine bh (n:=9) Tryz.func78 λB I aO=>?_;refine bS ?_;refine aG (af.call .k ((Zx _ _))) ?_;refine bz ?_;refine aS 4 (H) ?_;exact⟨bR (Yy _ _),rfl⟩
theorem IM(g:List (List Int)):ba Tryz.prog 196 [aa.bD g] (.b (gM g)):=by
 intro H;refine bh (n:=44) Tryz.func196 λB I aO=>?_;refine aq.fi (t:=0) rfl (λhg=>?_);refine ev ?_;refine aZ (λai=>?_) λai=>?_
 ·refine bn ?_;refine aS 2 (H) ?_;exact⟨bR (O1 ad).symm,rfl⟩
 ·refine cw ?_;refine cq (λm st=>∃i:Nat,st=⟨[(12,.i i),(11,.i g.length),(10,aa.bD g)],H⟩/\m=g.length - i/\i<=g.length/\lg 0 (g.take i)=true) (⟨0,rfl,rfl,ad,rfl⟩) ?_;rintro m _ ⟨i,rfl,rfl,av,al⟩;refine aT ?_;refine aZ (λab=>?_) λab=>?_
  ·have a1:i<g.length:=by simpa using ab
   obtain⟨L,df⟩:∃L,L=g.getD i default:=⟨_,rfl⟩;refine fk ?_;rw[<-df];refine aq.fi (t:=4) rfl (λZy=>?_);refine aT ?_;refine aZ (λae=>?_) λae=>?_
   ·refine cT ?_;refine aS 2 (H) ?_;exact⟨bR (AW a1 (by rw[<-df];have: ¬L.length<=3:=ad;simp[this])).symm,rfl⟩
   ·refine c6 ?_;refine cq (λm st=>∃k:Nat,st=⟨[(22,.i k),(21,.i L.length),(20,aa.ints L),(3,.i i),(4,aa.ints L),(12,.i i),(11,.i g.length),(10,aa.bD g)],H⟩/\m=L.length - k/\k<=L.length/\kD i [] (L.take k)=true) (⟨0,rfl,rfl,ad,rfl⟩) ?_;rintro m _ ⟨k,rfl,rfl,ao,ax⟩;refine aT ?_;refine aZ (λaD=>?_) λaD=>?_
    ·have dP:k<L.length:=by simpa using aD
     refine AM ?_;refine au.cb rfl rfl rfl rfl rfl rfl (λal=>af.GQ rfl rfl tE rfl tE ad) ?_;refine bt ?_;refine au.cb rfl rfl rfl rfl rfl rfl (λal=>af.call (.mk' rfl rfl rfl rfl dv) ((Bg _ _))) ?_;refine bg ?_;refine aZ (λaV=>?_) λaV=>?_
     ·refine fk ?_;refine aS 2 (H) ?_;exact⟨bR (AW a1 (by rw[<-df,O2 dP vb,Bool.and_false])).symm,rfl⟩
     ·refine bn ?_;exact bV (⟨k+1,rfl,rfl,dP,by rw[DL i L [] k dP,ax];simp_all⟩)
    ·have cN:k=L.length:=by omega
     rw[cN,List.take_length] at ax;refine c6 ?_;exact bV (⟨i+1,rfl,rfl,a1,by rw[DM g 0 i a1,al, <-df,Nat.zero_add,ax];simp;omega⟩)
  ·have a6:i=g.length:=by omega
   rw[a6,List.take_length] at al;refine cw ?_;refine aS 2 (H) ?_;exact⟨bR (by unfold gM;rw[al];simp;omega),rfl⟩
theorem Zz(g:List (List Int)):ba Tryz.prog 166 [aa.bD g] (.i (if gM g then 0 else 2)):=by
 intro H;refine bh (n:=6) Tryz.func166 λB I aO=>?_;refine bS ?_;refine aG (af.call .k ((IM _))) ?_;refine bg ?_;refine aZ (λai=>?_) λai=>?_
 ·refine bn ?_;refine aS 2 (H) ?_;exact⟨gp vb,rfl⟩
 ·refine bs ?_;refine aS 2 (H) ?_;exact⟨gp vb,rfl⟩
theorem IN(op:Int):ba Tryz.prog 131 [.i op] (L8 (jo op)):=by
 intro H;refine bh (n:=33) Tryz.func131 λB I aO=>?_;refine kC ?_;refine aZ (λai=>?_) λai=>?_
 ·refine bg ?_;refine aG (af.vL rfl rfl rfl aM) ?_;refine aT ?_;refine aS 2 (H) ?_;exact⟨ym xH,rfl⟩
 ·refine aq.oV (λst=>∃u:Bool,st=⟨[(8,.b u),(3,.i op)],H⟩/\u=decide (op=1\/op=2\/op=3\/op=6\/op=18)) ?_ ?_
  ·refine aT ?_;refine aZ (λab=>?_) λab=>?_
   ·refine bt ?_;exact gm ⟨op==1,rfl,by by_cases an:op=1 <;> simp_all⟩
   ·refine aT ?_;refine aZ (λae=>?_) λae=>?_
    ·refine bt ?_;exact gm ⟨op==2,rfl,by by_cases an:op=2 <;> simp_all⟩
    ·refine aT ?_;refine aZ (λaD=>?_) λaD=>?_
     ·refine bt ?_;exact gm ⟨op==3,rfl,by by_cases an:op=3 <;> simp_all⟩
     ·refine aT ?_;refine aZ (λaV=>?_) λaV=>?_
      ·refine bt ?_;exact gm ⟨op==6,rfl,by by_cases an:op=6 <;> simp_all⟩
      ·refine bI ?_;exact gm ⟨op==18,rfl,by by_cases an:op=18 <;> simp_all⟩
  ·rintro _ ⟨u,rfl,akG⟩;refine aZ (λbl=>?_) λbl=>?_
   ·refine bC ?_;refine aG (af.vL rfl rfl rfl aM) ?_;refine aT ?_;refine aS 2 (H) ?_;exact⟨ym xH,rfl⟩
   ·refine aq.oV (λst=>∃u:Bool,st=⟨[(15,.b u),(3,.i op)],H⟩/\u=decide (op=4\/op=8\/op=17)) ?_ ?_
    ·refine aT ?_;refine aZ (λcP=>?_) λcP=>?_
     ·refine bt ?_;exact gm ⟨op==4,rfl,by by_cases an:op=4 <;> simp_all⟩
     ·refine aT ?_;refine aZ (λdi=>?_) λdi=>?_
      ·refine bt ?_;exact gm ⟨op==8,rfl,by by_cases an:op=8 <;> simp_all⟩
      ·refine bI ?_;exact gm ⟨op==17,rfl,by by_cases an:op=17 <;> simp_all⟩
    ·rintro _ ⟨u,rfl,akH⟩;refine aZ (λeW=>?_) λeW=>?_
     ·refine bC ?_;refine aG (af.vL rfl rfl rfl aM) ?_;refine aT ?_;refine aS 2 (H) ?_;exact⟨ym xH,rfl⟩
     ·refine aq.oV (λst=>∃u:Bool,st=⟨[(20,.b u),(3,.i op)],H⟩/\u=decide (op=7\/op=9\/op=11\/op=12\/op=13\/op=14\/op=15\/op=16)) ?_ ?_
      ·refine aT ?_;refine aZ (λcQ=>?_) λcQ=>?_
       ·refine bt ?_;exact gm ⟨op==7,rfl,by by_cases an:op=7 <;> simp_all⟩
       ·refine aT ?_;refine aZ (λfC=>?_) λfC=>?_
        ·refine bt ?_;exact gm ⟨op==9,rfl,by by_cases an:op=9 <;> simp_all⟩
        ·refine aT ?_;refine aZ (λk1=>?_) λk1=>?_
         ·refine bt ?_;exact gm ⟨op==11,rfl,by by_cases an:op=11 <;> simp_all⟩
         ·refine aT ?_;refine aZ (λnf=>?_) λnf=>?_
          ·refine bt ?_;exact gm ⟨op==12,rfl,by by_cases an:op=12 <;> simp_all⟩
          ·refine aT ?_;refine aZ (λps=>?_) λps=>?_
           ·refine bt ?_;exact gm ⟨op==13,rfl,by by_cases an:op=13 <;> simp_all⟩
           ·refine aT ?_;refine aZ (λtc=>?_) λtc=>?_
            ·refine bt ?_;exact gm ⟨op==14,rfl,by by_cases an:op=14 <;> simp_all⟩
            ·refine aT ?_;refine aZ (λq3=>?_) λq3=>?_
             ·refine bt ?_;exact gm ⟨op==15,rfl,by by_cases an:op=15 <;> simp_all⟩
             ·refine bI ?_;exact gm ⟨op==16,rfl,by by_cases an:op=16 <;> simp_all⟩
      ·rintro _ ⟨u,rfl,akI⟩;refine aZ (λBh=>?_) λBh=>?_
       ·refine bC ?_;refine aG (af.vL rfl rfl rfl aM) ?_;refine aT ?_;refine aS 2 (H) ?_;exact⟨ym xH,rfl⟩
       ·refine aT ?_;refine aZ (λwy=>?_) λwy=>?_
        ·refine bC ?_;refine aG (af.vL rfl rfl rfl aM) ?_;refine aT ?_;refine aS 2 (H) ?_;exact⟨ym xH,rfl⟩
        ·refine bS ?_;refine aS 2 (H) ?_;exact⟨ym xH,rfl⟩
theorem number(p:Prog)(sr:p.aY.length<=100)(x:ew)(size:Int):ba Tryz.prog 130 [aa.prog p,aa.AR x,.i size] (.b (hI p x size)):=by
 intro H;refine bh (n:=52) Tryz.func130 λB I aO=>?_;refine AM ?_;refine aZ (λai=>?_) λai=>?_
 ·refine bI ?_;refine aG (af.call .k (Qp x.n)) ?_;refine aT ?_;refine aS 6 (H) ?_;exact⟨bR (by simp[hI,ai]),rfl⟩
 ·refine aT ?_;refine aZ (λab=>?_) λab=>?_
  ·refine qW ?_;refine aS 6 (H) ?_;exact⟨bR nr,rfl⟩
  ·refine bn ?_;refine aZ (λae=>?_) λae=>?_
   ·refine bC ?_;refine aZ (λaD=>?_) λaD=>?_
    ·refine oz ?_;refine aS 6 (H) ?_;exact⟨bR nr,rfl⟩
    ·refine bn ?_;refine aZ (λaV=>?_) λaV=>?_
     ·refine bC ?_;refine aZ (λbl=>?_) λbl=>?_
      ·refine ma ?_;refine aS 6 (H) ?_;exact⟨bR nr,rfl⟩
      ·refine aT ?_;refine aZ (λcP=>?_) λcP=>?_
       ·refine p7 ?_;refine aS 6 (H) ?_;exact⟨bR nr,rfl⟩
       ·refine kC ?_;refine aS 6 (H) ?_;exact⟨bR nr,rfl⟩
     ·refine bz ?_;refine aZ (λdi=>?_) λdi=>?_
      ·refine ma ?_;refine aS 6 (H) ?_;exact⟨bR nr,rfl⟩
      ·refine aT ?_;refine aZ (λeW=>?_) λeW=>?_
       ·refine p7 ?_;refine aS 6 (H) ?_;exact⟨bR nr,rfl⟩
       ·refine kC ?_;refine aS 6 (H) ?_;exact⟨bR nr,rfl⟩
   ·refine bz ?_;refine aZ (λcQ=>?_) λcQ=>?_
    ·refine oz ?_;refine aS 6 (H) ?_;exact⟨bR nr,rfl⟩
    ·refine bn ?_;refine aZ (λfC=>?_) λfC=>?_
     ·refine bC ?_;refine aZ (λk1=>?_) λk1=>?_
      ·refine ma ?_;refine aS 6 (H) ?_;exact⟨bR nr,rfl⟩
      ·refine aT ?_;refine aZ (λnf=>?_) λnf=>?_
       ·refine p7 ?_;refine aS 6 (H) ?_;exact⟨bR nr,rfl⟩
       ·refine kC ?_;refine aS 6 (H) ?_;exact⟨bR nr,rfl⟩
     ·refine bz ?_;refine aZ (λps=>?_) λps=>?_
      ·refine ma ?_;refine aS 6 (H) ?_;exact⟨bR nr,rfl⟩
      ·refine aT ?_;refine aZ (λtc=>?_) λtc=>?_
       ·refine p7 ?_;refine aS 6 (H) ?_;exact⟨bR nr,rfl⟩
       ·refine kC ?_;refine aS 6 (H) ?_;exact⟨bR nr,rfl⟩
theorem Vu(n:Int)(p:Prog)(x:ew):ba Tryz.prog 313 [.i n,aa.prog p,aa.AR x] (.i n):=by
 intro H;refine bh (n:=8) Tryz.func313 λB I aO=>?_;refine eb ?_;refine aS 6 (H) ?_;exact⟨eg,rfl⟩
theorem Vs(p:Prog)(x:ew)(ai:0<=x.n)(ab:x.n<p.du.length):ba Tryz.prog 314 [.agg [],aa.prog p,aa.AR x] (.i (p.du.getD x.n.toNat default)):=by
 intro H;refine bh (n:=13) Tryz.func314 λB I aO=>?_;refine ma ?_;refine aS 6 (H) ?_;exact⟨eg,rfl⟩
theorem yA(l:List Int)(ax:l.length<=4000000):ba Tryz.prog 21 [aa.ints l] (aa.ints l):=by
 intro H;refine bh (n:=8) Tryz.func21 λB I aO=>?_;refine bS ?_;refine au.tX rfl rfl rfl rfl rfl rfl rfl (aL.refl _) rfl rfl (λwz pt=>?_);refine bC ?_;refine aZ (λai=>?_) λai=>?_
 ·refine bn ?_;refine aR.c5 (rs:=[.tmp 2]) (H':=H) rfl (.tmp rfl (.nil)) (.cons (aL.nil 1) .nil) b8 ?_;exact⟨by show aa.aF 1 []=aa.aF 1 _;rw[pt ai],rfl⟩
 ·refine aT ?_;refine aG (af.zN rfl rfl rfl (aL.refl _) rfl rfl (aL.refl _) (yo l) dj dj) ?_;refine bI ?_;refine aS 2 (H) ?_;exact⟨eg,rfl⟩
theorem ZA(els:List (List aa)):ba Tryz.prog 206 [.aF 1 els] (.aF 1 els):=by
 intro H;refine bh (n:=9) Tryz.func206 λB I aO=>?_;refine cT ?_;refine aG (af.HF rfl rfl rfl rfl rfl rfl rfl) ?_;refine bI ?_;refine aS 2 (H) ?_;exact⟨eg,rfl⟩
theorem ZB(els:List (List aa)):ba Tryz.prog 109 [.aF 1 els] (.aF 1 els):=by
 intro H;refine bh (n:=9) Tryz.func109 λB I aO=>?_;refine cT ?_;refine aG (af.HF rfl rfl rfl rfl rfl rfl rfl) ?_;refine bI ?_;refine aS 2 (H) ?_;exact⟨eg,rfl⟩
theorem ZC(c:hh)(ak:c.parents.length<=4000000):ba Tryz.prog 179 [aa.cls c] (aa.ints c.parents):=by
 intro H;refine bh (n:=6) Tryz.func179 λB I aO=>?_;refine c6 ?_;refine aG (af.call .k ((yA _ ad))) ?_;refine bI ?_;refine aS 2 (H) ?_;exact⟨eg,rfl⟩
theorem ZD(cs:List hh)(aH:cs.length<=4000000)(ak:∀c∈cs,c.parents.length<=4000000):ba Tryz.prog 178 [.aF 3 (cs.map qa),.fn (.func 179) [] []] (aa.bD (cs.map (·.parents))):=by
 intro H;refine bh (n:=23) Tryz.func178 λB I aO=>?_;refine cT ?_;refine aq.iq 5 23 1 rfl ?_;refine bn ?_;refine cq (λm st=>∃(i:Nat) (v:Value),st=⟨[(10,.i i),(9,.i cs.length),(8,.aF 3 (cs.map qa)),(1,.fn (.func 179) [] []),(5,.as (aa.bD ((cs.take i).map (·.parents))) v)],.own 23 1 v::H⟩/\m=cs.length - i/\i<=cs.length) (⟨0,_,rfl,rfl,ad⟩) ?_;rintro m _ ⟨i,v,rfl,rfl,av⟩;refine aT ?_;refine aZ (λai=>?_) λai=>?_
 ·have a1:i<cs.length:=by omega
  have nN:=ak _ (cp a1);refine bs ?_;refine au.cG rfl rfl rfl rfl (λfo=>?_);refine bn ?_;refine aG (af.call .k (ZC (cs.getD i default) nN)) ?_;refine au.bB (x:=.aF 1 [[aa.ints (cs.getD i default).parents]]) rfl rfl rfl (af.row rfl rfl c4 rfl rfl rfl rfl rfl rfl) ?_;refine au.gu rfl rfl rfl rfl rfl rfl rfl rfl (aL.refl _) (rfl) (λv=>by repeat (first | exact bu.head _ _ _ | apply bu.tail)) oc oc (λZE=>?_);refine bs ?_;exact bV (⟨i+1,ZE,by rw[H2 a1],rfl,a1⟩)
 ·obtain rfl:i=cs.length:=by omega
  rw[List.take_length];refine bs ?_;refine aG (af.vv .k (.cons (aL.hb _ _) .nil) (ZA _)) ?_;refine bI ?_;refine aS 4 (H) ?_;exact⟨eg,rfl⟩
theorem graph(p:Prog)(aH:p.aY.length<=4000000)(ak:∀c∈p.aY,c.parents.length<=4000000):ba Tryz.prog 141 [aa.prog p] (aa.bD (cZ p)):=by
 intro H;refine bh (n:=6) Tryz.func141 λB I aO=>?_;refine c6 ?_;refine aG (af.call .k (ZD p.aY aH ak)) ?_;refine bI ?_;refine aS 2 (H) ?_;exact⟨eg,rfl⟩
theorem ZF(f:Fact)(aP:oA f=true)(bm:∀k∈f.kids,ba Tryz.prog 134 [aa.fact k] (.i (oB k))):ba Tryz.prog 134 [aa.fact f] (.i (oB f)):=by
 intro H;refine bh (n:=35) Tryz.func134 λB I aO=>?_;rw[DR];obtain⟨D7,Bi,ao⟩:=DS aP;refine cw ?_;refine aq.oV (λst=>st=⟨[(3,.i (hQ f)),(1,.ptr (ix f))],H⟩) ?_ ?_
 ·refine hB ?_;refine aq.cond rfl (λai=>?_) (λai=>?_)
  ·have bN:hQ f=f.arg+1:=by unfold hQ;rw[if_pos CM]
   rw[bN] at D7 Bi;refine aT ?_;refine aR.le 3 (y:=.i (hQ f)) rfl (aL.dx (by rw[bN])) ?_;exact gm rfl
  ·have bN:hQ f=0:=by unfold hQ;rw[if_neg CM]
   refine bt ?_;refine aR.le 3 (y:=.i (hQ f)) rfl (aL.dx (by rw[bN])) ?_;exact gm rfl
 ·rintro _ rfl;refine c6 ?_;refine aq.fi (t:=23) rfl (λakJ=>?_);refine cq (λm st=>∃j:Nat,st=⟨[(25,.i j),(24,.i f.kids.length),(23,aa.facts f.kids),(3,.i (oC (f.kids.take j) (hQ f)))],H⟩/\m=f.kids.length - j/\j<=f.kids.length) (⟨0,rfl,rfl,ad⟩) ?_;rintro m _ ⟨j,rfl,rfl,aU⟩;refine aT ?_;refine aZ (λab=>?_) λab=>?_
  ·have c3:j<f.kids.length:=by omega
   have gv:=cp c3;have ng:=H6 (f.kids.getD j default) (f.kids.take j) (hQ f);rw[eE c3] at ng;refine bs ?_;refine au.cG rfl rfl rfl rfl (λfo=>?_);refine aT ?_;refine aG (af.call .k (bm _ gv)) ?_;refine aG (af.max2 rfl rfl rfl rfl rfl rfl) ?_;refine bI ?_;refine aq.le 3 (y:=.i (oC (f.kids.take (j+1)) (hQ f))) rfl (aL.dx (by rw[ng,Int.max_def];split <;> split <;> omega)) ?_;refine bI ?_;exact bV (⟨j+1,rfl,rfl,ad⟩)
  ·obtain rfl:j=f.kids.length:=by omega
   rw[List.take_length];refine cT ?_;refine aS 2 (H) ?_;exact⟨dJ,rfl⟩
theorem Qq(p:Prog)(aH:p.aY.length<=1000)(ak:∀c∈p.aY,c.parents.length<=4000000/\c.aJ.length<=1000):ba Tryz.prog 132 [aa.prog p] (.agg (dH (cH p))):=by
 intro H;refine bh (n:=32) Tryz.func132 λB I aO=>?_;refine bg ?_;refine au.cG rfl rfl rfl rfl (λer=>?_);refine bz ?_;refine aG (af.call .k (graph p ad (λc h=>(ak c h).1))) ?_;refine bt ?_;refine au.cG rfl rfl rfl rfl (λcE=>?_);refine bz ?_;refine aq.sN (b:=cE) (t:=86) 3 1 1 pO rfl rfl ?_;refine bs ?_;refine cq (λm st=>∃(i:Nat) (v:Value),st=⟨[(12,.i i),(11,.i p.aY.length),(10,.aF 3 (p.aY.map qa)),(3,.p cE 0),(2,.p er 0)],.own 3 1 v::.aI cE 86 [aa.bD (cZ p),.as (aa.ints (nR p.aY i 0)) v]::.aI er 86 [.val (.slice none 0 0),.val (.slice none 0 0)]::H⟩/\m=p.aY.length - i/\i<=p.aY.length) (⟨0,_,rfl,rfl,ad⟩) ?_;rintro m _ ⟨i,v,rfl,rfl,av⟩;refine aT ?_;refine aZ (λai=>?_) λai=>?_
 ·have a1:i<p.aY.length:=by omega
  have nN:=ak _ (cp a1);obtain⟨L,df⟩:∃L,L=p.aY.getD i default:=⟨_,rfl⟩;rw[<-df] at nN;refine bS ?_;refine au.cG rfl rfl rfl rfl (λkf=>?_);refine bz ?_;rw[<-df];refine bs ?_;refine cq (λm st=>∃(k:Nat) (v:Value),st=⟨[(20,.i k),(19,.i L.aJ.length),(4,.i i),(12,.i i),(11,.i p.aY.length),(10,.aF 3 (p.aY.map qa)),(3,.p cE 0),(2,.p er 0)],.own 3 1 v::.aI cE 86 [aa.bD (cZ p),.as (aa.ints (nR p.aY i k)) v]::.aI er 86 [.val (.slice none 0 0),.val (.slice none 0 0)]::H⟩/\m=L.aJ.length - k/\k<=L.aJ.length) (⟨0,_,rfl,rfl,ad⟩) ?_;rintro m _ ⟨k,v,rfl,rfl,ao⟩;refine aT ?_;refine aZ (λab=>?_) λab=>?_
  ·have dP:k<L.aJ.length:=by omega
   refine bS ?_;refine au.bB (x:=.aF 1 [[.i ((i:Int)+3)]]) rfl rfl rfl (af.row rfl rfl c4 rfl rfl rfl rfl rfl rfl) ?_;refine au.gu rfl rfl rfl rfl rfl rfl rfl rfl (aL.refl _) (rfl) (λv=>by repeat (first | exact bu.head _ _ _ | apply bu.tail)) qm qm (λZG=>?_);refine bS ?_;exact bV (⟨k+1,ZG,by rw[OM],rfl,dP⟩)
  ·obtain rfl:k=L.aJ.length:=by omega
   refine c6 ?_;exact bV (⟨i+1,v,by rw[OR a1, <-df],rfl,a1⟩)
 ·obtain rfl:i=p.aY.length:=by omega
  rw[ON];refine cT ?_;refine aR.c5 (rs:=[.cell 2 86]) (H':=H) rfl (zf) (.cons (aL.agg (.cons (.refl _) (.cons (aL.hb _ _) .nil))) .nil) b8 ?_;exact⟨eg,rfl⟩
theorem Qr(ax:dU.length=cF.length)(ao:k<dU.length)(aB:dU.take k=cF.take k)(h:dU.getD k default=cF.getD k default):dU.take (k+1)=cF.take (k+1):=by
 rw[List.take_succ_eq_append_getElem ao,List.take_succ_eq_append_getElem (ax▸ao),aB];rw[List.getD_eq_getElem?_getD,List.getD_eq_getElem?_getD,List.getElem?_eq_getElem ao,List.getElem?_eq_getElem (ax▸ao)] at h;simp at h;rw[h]
theorem Qs(ao:k<=dU.length)(ab:(dU.length:Int)<=k)(ai:(dU.length:Int)=cF.length)(aB:dU.take k=cF.take k):true=(dU==cF):=by
 have a6:k=dU.length:=by omega
 subst a6;have aW:dU.length=cF.length:=by omega
 rw[List.take_length,aW,List.take_length] at aB;simp[aB]
theorem Qt(h:dU.getD k default≠cF.getD k default):dU≠cF:=λe=>h (by rw[e])
theorem akK(dU cF:List Int):ba Tryz.prog 29 [aa.ints dU,aa.ints cF] (.b (dU==cF)):=by
 intro H;refine bh (n:=26) Tryz.func29 λB I aO=>?_;refine aq.fi (t:=0) rfl (λhg=>?_);refine aq.fi (t:=1) rfl (λgn=>?_);refine fk ?_;refine aZ (λai=>?_) λai=>?_
 ·refine bn ?_;refine aS 4 (H) ?_;exact⟨bR (by symm;simp;intro e;subst e;simp at ai),rfl⟩
 ·refine cw ?_;refine cq (λm st=>∃k:Nat,st=⟨[(13,.i k),(12,.i dU.length),(0,aa.ints dU),(1,aa.ints cF)],H⟩/\m=dU.length - k/\k<=dU.length/\dU.take k=cF.take k) (⟨0,rfl,rfl,bj,rfl⟩) ?_;rintro m _ ⟨k,rfl,rfl,ao,aB⟩;refine aT ?_;refine aZ (λab=>?_) λab=>?_
  ·refine cw ?_;refine aq.bL mixed ?_;refine bk.b7 0 8 26 rfl ay rfl rfl ay ?_;refine ev ?_;refine aZ (λae=>?_) λae=>?_
   ·refine cw ?_;refine aS 4 (H) ?_;exact⟨bR (by symm;simp;exact Qt ae),rfl⟩
   ·refine bn ?_;exact bV (⟨k+1,rfl,rfl,ad,Qr ad ad aB ae⟩)
  ·refine cw ?_;refine aS 4 (H) ?_;exact⟨bR (Qs ao ab ai aB),rfl⟩
theorem ZH(dU cF:List Int):ba Tryz.prog 287 [aa.ints dU,aa.ints cF] (.b (dU==cF)):=by
 intro H;refine bh (n:=26) Tryz.func287 λB I aO=>?_;refine aq.fi (t:=0) rfl (λhg=>?_);refine aq.fi (t:=1) rfl (λgn=>?_);refine fk ?_;refine aZ (λai=>?_) λai=>?_
 ·refine bn ?_;refine aS 4 (H) ?_;exact⟨bR (by symm;simp;intro e;subst e;simp at ai),rfl⟩
 ·refine cw ?_;refine cq (λm st=>∃k:Nat,st=⟨[(13,.i k),(12,.i dU.length),(0,aa.ints dU),(1,aa.ints cF)],H⟩/\m=dU.length - k/\k<=dU.length/\dU.take k=cF.take k) (⟨0,rfl,rfl,bj,rfl⟩) ?_;rintro m _ ⟨k,rfl,rfl,ao,aB⟩;refine aT ?_;refine aZ (λab=>?_) λab=>?_
  ·refine cw ?_;refine aq.bL mixed ?_;refine bk.b7 0 8 26 rfl ay rfl rfl ay ?_;refine ev ?_;refine aZ (λae=>?_) λae=>?_
   ·refine cw ?_;refine aS 4 (H) ?_;exact⟨bR (by symm;simp;exact Qt ae),rfl⟩
   ·refine bn ?_;exact bV (⟨k+1,rfl,rfl,ad,Qr ad ad aB ae⟩)
  ·refine cw ?_;refine aS 4 (H) ?_;exact⟨bR (Qs ao ab ai aB),rfl⟩
end Go.Proofs.YtodccgailpkgeaaGreat

