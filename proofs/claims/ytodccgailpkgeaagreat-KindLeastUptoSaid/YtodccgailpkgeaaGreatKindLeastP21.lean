/- Part 21 of the proof: contracts of functions of the program and what they need. No condition beyond those that each theorem names. -/
import Derived.Test.YtodccgailpkgeaaGreatKindLeastP20
set_option maxHeartbeats 1000000
set_option linter.unusedVariables false
set_option linter.unusedSimpArgs false
set_option maxRecDepth 10000
namespace Go.Proofs.YtodccgailpkgeaaGreat
open Go.Eng
open Go.Eng.Fc
variable{p q:List Int}{x a:Int}{l:cD}{k:cm}
abbrev TW:=List Bool×List Bool
theorem u3:rl p q=true↔q<+:p:=by
 rw[rl,Bool.and_eq_true,decide_eq_true_eq,beq_iff_eq];constructor
 ·rintro⟨_,h⟩;exact h▸List.take_prefix _ _
 ·intro h;exact⟨h.length_le,(List.prefix_iff_eq_take.1 h).symm⟩
def mR(a:Int)(p:List Int)(l:cD):Bool:=l.f.arg==a && rl l.f.path p
def Fm(a:Int)(p:List Int)(l:cD):Bool:=l.f.arg==a && l.f.path==p
def u4(l:cD)(p:List Int)(k:cm):cm:=if p=l.f.path then gW (jM l k) l else ml (l.f.path.getD p.length 0) (jM l k)
def kt(a:Int)(p:List Int)(k:cm)(l:cD):cm:=if mR a p l=true then u4 l p k else k
theorem Fo(q:List Int):rl q []=true:=u3.2 (List.nil_prefix)
theorem K1(q:List Int):rl q q=true:=u3.2 (List.prefix_refl q)
theorem K2(h:p≠ []):rl [] p=false:=by
 rw[Bool.eq_false_iff];intro e;exact h (List.prefix_nil.1 (u3.1 e))
theorem Fp:rl (x::q) p=true↔p= []\/∃r,p=x::r/\rl q r=true:=by
 rw[u3];constructor
 ·intro h;rcases p with _ | ⟨y,r⟩
  ·exact .inl rfl
  ·have:=List.cons_prefix_cons.1 h;exact .inr ⟨r,by rw[this.1],u3.2 this.2⟩
 ·rintro (rfl | ⟨r,rfl,h⟩)
  ·exact List.nil_prefix
  ·exact List.cons_prefix_cons.2 ⟨rfl,u3.1 h⟩
theorem agT(aE:cY)(l:cD)(aB:l.f.path.length<=2)(a:Int)(p:List Int):xq aE l a p=kt a p (aE a p) l:=by
 unfold xq kt mR u4;generalize l.f.path=q at*;generalize gr:l.f.arg=b;by_cases bN:b=a
 ·subst bN
  match q,aB with
  | [],_=>
   by_cases ai:p= []
   ·subst ai;simp[mQ,k7,gr,Fo]
   ·simp[mQ,k7,gr,ai,K2 ai]
  | [s],_=>
   by_cases ai:p= []
   ·subst ai;simp[mQ,k7,gr,Fo]
   ·by_cases ab:p= [s]
    ·subst ab;simp[mQ,k7,gr,K1]
    ·have aw:rl [s] p=false:=by
      rw[Bool.eq_false_iff];intro e;rcases Fp.1 e with e | ⟨r,e,aW⟩
      ·exact ai e
      ·rcases r with _ | ⟨y,r⟩
       ·exact ab e
       ·rw[K2 bj] at aW;cases aW
     simp[mQ,k7,gr,ai,ab,aw]
  | [s,t],_=>
   by_cases ai:p= []
   ·subst ai;simp[mQ,k7,gr,Fo]
   ·by_cases ab:p= [s]
    ·subst ab;simp[mQ,k7,gr,Fp,Fo]
    ·by_cases ae:p= [s,t]
     ·subst ae;simp[mQ,k7,gr,K1]
     ·have aw:rl [s,t] p=false:=by
       rw[Bool.eq_false_iff];intro e;rcases Fp.1 e with e | ⟨r,e,aW⟩
       ·exact ai e
       ·rcases Fp.1 aW with cN | ⟨ee,cN,gO⟩
        ·exact ab (by rw[e,cN])
        ·rcases ee with _ | ⟨y,ee⟩
         ·exact ae (by rw[e,cN])
         ·rw[K2 bj] at gO;cases gO
      simp[mQ,k7,gr,ai,ab,ae,aw]
 ·have K3:(b==a)=false:=by simpa using bN
  have ag: ¬a=b:=λe=>bN e.symm
  match q,aB with
  | [],_=>simp[mQ,k7,gr,K3,ag]
  | [s],_=>simp[mQ,k7,gr,K3,ag]
  | [s,t],_=>simp[mQ,k7,gr,K3,ag]
theorem agU{ls:List cD}(aB:∀l∈ls,l.f.path.length<=2)(a:Int)(p:List Int):oN ls a p=ls.foldl (kt a p) lq:=by
 unfold oN;have:∀(ls:List cD) (aE:cY),(∀l∈ls,l.f.path.length<=2)->(ls.foldl xq aE) a p=ls.foldl (kt a p) (aE a p):=by
  intro ls
  induction ls with
  | nil=>intro aE _;rfl
  | cons l r bm=>
   intro aE h;rw[List.foldl_cons,List.foldl_cons,bm _ (λx ag=>h x (.tail _ ag)),agT aE l (h l (.head _))]
 exact this ls _ aB
def u5(a:Int)(p:List Int)(neg:Bool)(c:Nat)(l:cD):Bool:=Fm a p l && l.f.op==2 && l.neg==neg && l.f.cls.toNat==c
def Fq(a:Int)(p:List Int)(l:cD):Bool:=Fm a p l && l.f.op !=2 && !l.neg
def Fs(a:Int)(p:List Int)(l:cD):Bool:=!l.neg && mR a p l
theorem K4:Fm a p l=(mR a p l && decide (p=l.f.path)):=by
 rw[Fm,mR,Bool.and_assoc];congr 1;by_cases h:p=l.f.path
 ·subst h;simp[K1]
 ·have:(l.f.path==p)=false:=by simpa using λe=>h e.symm
  rw[this,decide_eq_false h,Bool.and_false]
theorem Ft(s:Int)(k:cm):(ml s k).low=k.low/\(ml s k).high=k.high/\(ml s k).c2=k.c2/\(ml s k).cn=k.cn/\(ml s k).no=k.no/\(ml s k).whole=k.whole/\(ml s k).hE=k.hE:=by
 unfold ml;split <;> exact⟨rfl,rfl,rfl,rfl,rfl,rfl,rfl⟩
theorem K5(k:cm)(l:cD):(gW k l).hE=k.hE/\(gW k l).aJ=k.aJ:=by
 unfold gW;(repeat' split) <;> exact⟨rfl,rfl⟩
theorem agV(a:Int)(p:List Int)(k:cm)(l:cD):(kt a p k l).hE=(k.hE || Fs a p l):=by
 unfold kt u4 Fs;by_cases h:mR a p l=true
 ·rw[if_pos h,h,Bool.and_true];split
  ·rw[(K5 _ _).1];show (bif k.hE then true else !l.neg)=_;cases k.hE <;> rfl
  ·rw[(Ft _ _).2.2.2.2.2.2];show (bif k.hE then true else !l.neg)=_;cases k.hE <;> rfl
 ·rw[if_neg h,Bool.eq_false_iff.2 h];simp
theorem agW(a:Int)(p:List Int)(k:cm)(l:cD)(c:Nat):(kt a p k l).cn.testBit c=(k.cn.testBit c || u5 a p false c l):=by
 unfold kt u4 u5;rw[K4];by_cases h:mR a p l=true
 ·rw[if_pos h,h];by_cases bd:p=l.f.path
  ·rw[if_pos bd,decide_eq_true bd];unfold gW jM;by_cases ae:l.f.op=2
   ·by_cases hn:l.neg=true
    ·simp[ae,hn]
    ·simp[ae,hn,Nat.testBit_or,Nat.testBit_two_pow];rfl
   ·simp only[ae,if_false]
    (repeat' split) <;> (simp;intro e;exact absurd e ae)
  ·rw[if_neg bd,decide_eq_false bd,(Ft _ _).2.2.2.1];simp[jM]
 ·rw[if_neg h,Bool.eq_false_iff.2 h];simp
theorem agX(a:Int)(p:List Int)(k:cm)(l:cD)(c:Nat):(kt a p k l).no.testBit c=(k.no.testBit c || u5 a p true c l):=by
 unfold kt u4 u5;rw[K4];by_cases h:mR a p l=true
 ·rw[if_pos h,h];by_cases bd:p=l.f.path
  ·rw[if_pos bd,decide_eq_true bd];unfold gW jM;by_cases ae:l.f.op=2
   ·by_cases hn:l.neg=true
    ·simp[ae,hn,Nat.testBit_or,Nat.testBit_two_pow];rfl
    ·simp[ae,hn]
   ·simp only[ae,if_false]
    (repeat' split) <;> (simp;intro e;exact absurd e ae)
  ·rw[if_neg bd,decide_eq_false bd,(Ft _ _).2.2.2.2.1];simp[jM]
 ·rw[if_neg h,Bool.eq_false_iff.2 h];simp
theorem agY(a:Int)(p:List Int)(k:cm)(l:cD):(kt a p k l).whole=(k.whole || Fq a p l):=by
 unfold kt u4 Fq;rw[K4];by_cases h:mR a p l=true
 ·rw[if_pos h,h];by_cases bd:p=l.f.path
  ·rw[if_pos bd,decide_eq_true bd];unfold gW jM;by_cases ae:l.f.op=2
   ·simp only[ae,if_true];split <;> simp
   ·simp only[ae,if_false];by_cases hn:l.neg=true
    ·simp only[hn,if_true];split <;> simp
    ·simp only[hn];split <;> simp[ae]
  ·rw[if_neg bd,decide_eq_false bd,(Ft _ _).2.2.2.2.2.1];simp[jM]
 ·rw[if_neg h,Bool.eq_false_iff.2 h];simp
theorem agZ:mR a (p++[x]) l=true↔mR a p l=true/\p≠l.f.path/\l.f.path.getD p.length 0=x:=by
 rw[mR,mR,Bool.and_eq_true,Bool.and_eq_true,u3,u3];constructor
 ·rintro⟨ab,r,aK⟩;refine⟨⟨ab,[x]++r,by rw[<-List.append_assoc];exact aK⟩,?_,?_⟩
  ·intro e;have:=congrArg List.length aK;rw[<-e] at this;simp at this
  ·rw[<-aK];simp
 ·rintro⟨⟨ab,r,aK⟩,ae,aD⟩;refine⟨ab,?_⟩;rcases r with _ | ⟨y,r⟩
  ·exact absurd (by simpa using aK) ae
  ·refine⟨r,?_⟩;rw[<-aK] at aD ⊢;simp at aD;subst aD;simp
theorem ag0{s x:Int}:x∈(ml s k).aJ↔x∈k.aJ\/x=s:=by
 unfold ml;split
 ·rename_i h;have h:=List.contains_iff_mem.1 h;constructor
  ·exact .inl
  ·rintro (cf | rfl);exact cf;exact h
 ·show x∈y4 _↔_;rw[(Fe _).mem_iff];simp
theorem ag1(a:Int)(p:List Int)(k:cm)(l:cD)(x:Int):x∈(kt a p k l).aJ↔x∈k.aJ\/mR a (p++[x]) l=true:=by
 rw[agZ];unfold kt u4;by_cases h:mR a p l=true
 ·rw[if_pos h];by_cases bd:p=l.f.path
  ·rw[if_pos bd,(K5 _ _).2];show x∈k.aJ↔_;exact⟨.inl,λcf=>cf.elim id λcf=>absurd bd cf.2.1⟩
  ·rw[if_neg bd,ag0];show x∈k.aJ\/_↔_;constructor
   ·rintro (cf | rfl);exact .inl cf;exact .inr ⟨h,bd,rfl⟩
   ·rintro (cf | ⟨_,_,rfl⟩);exact .inl cf;exact .inr rfl
 ·rw[if_neg h];exact⟨.inl,λcf=>cf.elim id λcf=>absurd cf.1 h⟩
theorem ag2{l:List Int}(h:l.Pairwise (· <= ·))(hn:l.Nodup):l.Pairwise (· < ·):=by
 have:=h.and hn;exact this.imp λ⟨ab,ae⟩=>by omega
theorem ag3{s:Int}(h:k.aJ.Pairwise (· < ·)):(ml s k).aJ.Pairwise (· < ·):=by
 unfold ml;split
 ·exact h
 ·rename_i ak;refine ag2 (KY _) ((Fe _).nodup_iff.2 ?_);have hn:k.aJ.Nodup:=h.imp λcf=>by omega
  refine List.nodup_append.2 ⟨hn,bj,?_⟩;intro x ag y hy e;rw[List.mem_singleton] at hy;subst e;subst hy;exact ak (List.contains_iff_mem.2 ag)
theorem ag4(h:k.aJ.Pairwise (· < ·)):(kt a p k l).aJ.Pairwise (· < ·):=by
 unfold kt u4;split
 ·split
  ·rw[(K5 _ _).2];exact h
  ·exact ag3 h
 ·exact h
section
variable(a:Int)(p:List Int)
theorem TX:∀(ls:List cD) (k:cm),(ls.foldl (kt a p) k).hE=(k.hE || ls.any (Fs a p))
 | [],k=>by simp
 | l::r,k=>by rw[List.foldl_cons,TX r,agV,List.any_cons,Bool.or_assoc]
theorem TY(c:Nat):∀(ls:List cD) (k:cm),(ls.foldl (kt a p) k).cn.testBit c=(k.cn.testBit c || ls.any (u5 a p false c))
 | [],k=>by simp
 | l::r,k=>by rw[List.foldl_cons,TY c r,agW,List.any_cons,Bool.or_assoc]
theorem TZ(c:Nat):∀(ls:List cD) (k:cm),(ls.foldl (kt a p) k).no.testBit c=(k.no.testBit c || ls.any (u5 a p true c))
 | [],k=>by simp
 | l::r,k=>by rw[List.foldl_cons,TZ c r,agX,List.any_cons,Bool.or_assoc]
theorem T0:∀(ls:List cD) (k:cm),(ls.foldl (kt a p) k).whole=(k.whole || ls.any (Fq a p))
 | [],k=>by simp
 | l::r,k=>by rw[List.foldl_cons,T0 r,agY,List.any_cons,Bool.or_assoc]
theorem T1(x:Int):∀(ls:List cD) (k:cm),x∈(ls.foldl (kt a p) k).aJ↔x∈k.aJ\/ls.any (mR a (p++[x]))=true
 | [],k=>by simp
 | l::r,k=>by rw[List.foldl_cons,T1 x r,ag1,List.any_cons,Bool.or_eq_true,or_assoc]
theorem T2:∀(ls:List cD) (k:cm),k.aJ.Pairwise (· < ·)->(ls.foldl (kt a p) k).aJ.Pairwise (· < ·)
 | [],k,h=>h
 | l::r,k,h=>by rw[List.foldl_cons];exact T2 r _ (ag4 h)
end
theorem ag5(h:l.f.op<=4):nq (KA l)=(l.f,l.neg):=by
 unfold nq KA;by_cases hn:l.neg=true
 ·rw[if_pos hn,if_pos dJ,hn];rfl
 ·rw[if_neg hn,if_neg ad,Bool.eq_false_iff.2 hn]
structure sh(W:bb)(ls:List cD):Prop where
 w:dm W=true
 ok:∀l∈ls,n6 W l
 cls:∀l∈ls,l.f.op=2->l.f.cls<3+W.parents.length
section
variable{W:bb}{ls:List cD}(h:sh W ls)
include h
theorem sh.sp(ax:l∈ls):nq (KA l)=(l.f,l.neg):=ag5 (h.ok l ax).op.2
theorem sh.at(a:Int)(p:List Int):oN ls a p=ls.foldl (kt a p) lq:=agU (λl ax=>(h.ok l ax).path) a p
theorem sh.y3(a:Int)(p:List Int):(oN ls a p).hE=ls.any (Fs a p):=by rw[h.at,TX];rfl
theorem sh.cn(a:Int)(p:List Int)(c:Nat):(oN ls a p).cn.testBit c=ls.any (u5 a p false c):=by rw[h.at,TY];simp[lq]
theorem sh.no(a:Int)(p:List Int)(c:Nat):(oN ls a p).no.testBit c=ls.any (u5 a p true c):=by rw[h.at,TZ];simp[lq]
theorem sh.whole(a:Int)(p:List Int):(oN ls a p).whole=ls.any (Fq a p):=by rw[h.at,T0];rfl
theorem sh.aJ(a:Int)(p:List Int)(x:Int):x∈(oN ls a p).aJ↔ls.any (mR a (p++[x]))=true:=by rw[h.at,T1];simp[lq]
theorem sh.lt(a:Int)(p:List Int):(oN ls a p).aJ.Pairwise (· < ·):=by rw[h.at];exact T2 a p ls _ (by simp[lq])
omit h in
theorem T3(s t c:Nat):(lM s t).testBit c=(decide (c<64) && s.testBit c && !t.testBit c):=by
 rw[lM,BitVec.testBit_toNat,BitVec.getLsbD_and,BitVec.getLsbD_not,BitVec.getLsbD_ofNat,BitVec.getLsbD_ofNat];cases decide (c<64) <;> simp
omit h in
omit h in
omit h in
omit h in
omit h in
omit h in
end
theorem ag6{l:List Bool}{i:Nat}{x:Bool}:(l.set i x).length=l.length:=List.length_set
theorem ag7{l:List Bool}{i b:Nat}(av:i<l.length):(l.set i true).getD b false=(l.getD b false || b==i):=by
 rw[sB];by_cases e:i=b
 ·subst e;rw[if_pos ⟨rfl,av⟩];simp
 ·rw[if_neg (λh=>e h.1),show (b==i)=false from by rw[beq_eq_false_iff_ne];exact λh=>e h.symm,Bool.or_false]
structure alD(N:Nat)(l:cD):Prop where
 op:l.f.op<=4
 cls:l.f.op=2->0<=l.f.cls/\l.f.cls<N
structure Marks(W:bb)(t:TW)(cn no:Nat):Prop where
 po:t.1.length=3+W.parents.length
 pA:t.2.length=3+W.parents.length
 m:∀c,cn.testBit c=t.1.getD c false
 n:∀c,c≠1->c≠2->no.testBit c=t.2.getD c false
 yq:cn.testBit 1=false
 AZ:cn.testBit 2=false
theorem ag8{s c b:Nat}:(s ||| 2^c).testBit b=(s.testBit b || b==c):=by
 rw[Nat.testBit_or,Nat.testBit_two_pow];congr 1;rw[Bool.eq_iff_iff,decide_eq_true_iff,beq_iff_eq];exact eq_comm
theorem Marks.cz{W:bb}{t:TW}{cn no:Nat}(h:Marks W t cn no){c:Nat}(ak:3<=c/\c<3+W.parents.length):Marks W (t.1,t.2.set c true) cn (no ||| 2^c):=
 ⟨h.po,by rw[ag6];exact h.pA,h.m,λb kd kf=>by rw[ag8,h.n b kd kf,ag7 (by rw[h.pA];omega)],h.yq,h.AZ⟩
section
variable{W:bb}{ls:List cD}(h:sh W ls)
include h
end
end Go.Proofs.YtodccgailpkgeaaGreat

