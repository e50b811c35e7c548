/- A part of the proof. No condition. -/
import Derived.Test.YtodccgailpkgeaaGreatKindInfersP23
set_option linter.defProp false
set_option maxHeartbeats 1000000
set_option linter.unusedVariables false
set_option linter.unusedSimpArgs false
set_option maxRecDepth 10000
namespace Go.Proofs.YtodccgailpkgeaaGreat
open Go.Proofs.Tryz
open Go.Eng
open Go.Eng.Fc
open Go.Eng.dN
instance:cK prog 152 2 10:=⟨ay⟩
instance:cX prog 207 (true,0):=⟨ay⟩
instance:cX prog 281 (false,1):=⟨ay⟩
instance:cX prog 305 (true,0):=⟨ay⟩
variable{p:Prog}{c k i to j n:Nat}{s:Int}{A:List cW}{q:gx}{g G:GT}{Hx:aA}
theorem Tr{a c:Type}{f:a->List c}{n}(h:∀x,(f x).length<=n):∀l:List a,(l.flatMap f).length<=l.length*n
 | []=>by simp
 | x::r=>by
  rw[List.flatMap_cons,List.length_append,List.length_cons,Nat.succ_mul];have:=Tr h r;have:=h x;omega
def ahF{c}(a:eH p c):(mN p c).length<=400000000:=by
 have f:(mN p c).length<=(cu p c).length*20000:=Tr (λs=>J9 20000 (Tl a) _) _;have:=(o7 a).br;omega
def ahG{L:List (Int×Int)}:(L.map (·.1)).contains s=L.any λx=>x.1==s:=by
 rw[Bool.eq_iff_iff,List.contains_iff_mem,List.mem_map,List.any_eq_true];exact⟨λ⟨x,ae,ao⟩=>⟨x,ae,sZ⟩,λ⟨x,ae,ao⟩=>⟨x,ae,sZ⟩⟩
def Ts(M:p.Small)(E:jd p q)(h:bf p g.t){c:Nat}(m:eH p c){s:Int}(D:s∈cu p c):bO prog 156 [.p q.bx 0,.i (c:Int),.i s] (cR p A q g Hx) (λr Q=>r= .bk []/\Q=cR p A q (GT.begin p c g s) Hx) (λ_ _=>False):=by
 refine aM (n:=59) func156 λB I S=>?_;have N:=E.aH;have H:=E.many;have K:=h.nl;have J:=h.ai;have L:=h.pl;have O:=h.ho;have B:=I8 m D;obtain⟨l,o⟩:=DO h B.1;have F:=jt H o;have j:=ahE m D;rw[ahG] at j;have P:=ahF m;refine aP ?_;refine ag (ad.call .k (ahz M m)) ?_;refine bY ?_;refine bo (λz G=>∃i:Nat,G=⟨[(7,.i i),(6,ab.l6 (mN p c)),(2,.i s),(1,.i c),(0,.p q.bx 0)],cR p A q g Hx⟩/\z=(mN p c).length - i/\i<=(mN p c).length/\((mN p c).take i).any (λx=>x.1==s)=false) (⟨0,rfl,rfl,aa,rfl⟩) ?_;rintro z _ ⟨i,rfl,rfl,R,f⟩;refine ba ?_;refine az (λaf=>?_) λaf=>?_
 ·have a:i<(mN p c).length:=by omega
  obtain⟨X,w⟩:∃X,X=(mN p c).getD i default:=⟨_,rfl⟩;refine eb ?_;rw[<-w];refine bc (λae=>?_) (λae=>?_)
  ·have v:p5 p c s=2:=by rw[j,if_pos (List.any_eq_true.2 ⟨X,w▸bI a,ae⟩)]
   refine aR ?_;refine bP 15 59 ?_;refine bR ?_;refine bg (ad.dX rfl rfl rfl rfl rfl (lh (i:=s.toNat) aa) ⟨aa,aa⟩) ?_;refine bg (ad.le (ad.gk rfl rfl rfl (lh (i:=s.toNat) aa) (hK aa)) (an.b4 l)) ?_;refine bg (ad.bits rfl rfl rfl rfl rfl (kg _ 2 aa aa)) ?_;refine aO ?_;refine ag (ad.dX rfl rfl rfl rfl rfl (lh (i:=s.toNat) aa) ⟨aa,aa⟩) ?_;refine Ex (x:=2) rfl rfl rfl rfl rfl rfl rfl aa rfl ?_;refine aI ?_;rw[show g.eL s.toNat 2=GT.begin p c g s by rw[GT.begin,v]];refine dL [] (cR p A q (GT.begin p c g s) Hx) ?_;exact⟨rfl,rfl⟩
  ·replace ae:=dC ae;refine aI ?_;exact aW (⟨i+1,rfl,rfl,a,by rw[<-c2 a,List.any_append,f, <-w,List.any_cons,show (X.1==s)=false by simpa using ae];rfl⟩)
 ·obtain rfl:i=(mN p c).length:=by omega
  rw[List.take_length] at f;have v:p5 p c s=4:=by rw[j,if_neg (by rw[f];decide)]
  refine aT ?_;refine bP 15 59 ?_;refine bR ?_;refine bg (ad.dX rfl rfl rfl rfl rfl (lh (i:=s.toNat) aa) ⟨aa,aa⟩) ?_;refine bg (ad.le (ad.gk rfl rfl rfl (lh (i:=s.toNat) aa) (hK aa)) (an.b4 l)) ?_;refine bg (ad.bits rfl rfl rfl rfl rfl (kg _ 4 aa aa)) ?_;refine aO ?_;refine ag (ad.dX rfl rfl rfl rfl rfl (lh (i:=s.toNat) aa) ⟨aa,aa⟩) ?_;refine Ex (x:=4) rfl rfl rfl rfl rfl rfl rfl aa rfl ?_;refine aR ?_;rw[show g.eL s.toNat 4=GT.begin p c g s by rw[GT.begin,v]];refine gM [] (cR p A q (GT.begin p c g s) Hx) ?_;exact⟨rfl,rfl⟩
def ahH(j:k<2^aJ p)(hm:aJ p<=13)(s):((List.range (aJ p)).any λc=>k.testBit c && dT p c s)=su p k s:=by
 rw[Bool.eq_iff_iff,su,List.any_eq_true,List.any_eq_true];simp[List.mem_range,Bool.and_eq_true];constructor
 ·rintro⟨c,a,h,g⟩;exact⟨c,tL.2 ⟨aa,h⟩,g⟩
 ·rintro⟨c,a,f⟩;exact⟨c,tM j a,(tL.1 a).2,f⟩
def ahI:((List.range 3).any λc=>k.testBit c && dT p c s)=false:=by
 have e:List.range 3= [0,1,2]:=by decide
 rw[e];simp[dT]
def ahJ(h:((List.range i).any λc=>k.testBit c && dT p c s)=false)(a:(k.testBit i && dT p i s)=false):((List.range (i+1)).any λc=>k.testBit c && dT p c s)=false:=by
 rw[List.range_succ,List.any_append,h,List.any_cons,a];rfl
def ahK(a:i<aJ p)(f:(k.testBit i && dT p i s)=true):((List.range (aJ p)).any λc=>k.testBit c && dT p c s)=true:=List.any_eq_true.2 ⟨i,List.mem_range.2 a,f⟩
def Tt(ck:p.Small)(a1:jd p q){k:Nat}(bD:k<2^aJ p){s:Int}(b6:0<=s/\s<p.av):bO prog 154 [.p q.bx 0,.i (k:Int),.i s] (cR p A q g Hx) (λr D=>r= .b (su p k s)/\D=cR p A q g Hx) (λ_ _=>False):=by
 refine aM (n:=32) func154 λB I bW=>?_;have aH:=a1.aH;have hm:=a1.many;have akU:aJ p=3+p.aE.length:=rfl;have akV:=Nat.lt_of_lt_of_le bD (Nat.pow_le_pow_right c8 hm);rw[<-ahH bD hm s];refine bR ?_;refine bo (λz st=>∃i:Nat,st=⟨[(7,.i i),(6,.b false),(2,.i s),(1,.i k),(0,.p q.bx 0)],cR p A q g Hx⟩/\z=aJ p - i/\3<=i/\i<=aJ p/\((List.range i).any λc=>k.testBit c && dT p c s)=false) (⟨3,rfl,rfl,aa,aa,ahI⟩) ?_;rintro z _ ⟨i,rfl,rfl,akW,aQ,jz⟩;refine c4 ?_;refine az (λaf=>?_) λaf=>?_
 ·refine aI ?_;refine ag (ad.call .k (so k i aa)) ?_;refine aT ?_;refine aj.db rfl rfl rfl rfl rfl rfl (λaw=>ad.call (.mk' rfl rfl rfl rfl c9) (Aa ck aH)) ?_;refine aO ?_;refine aj.db rfl rfl rfl rfl rfl rfl (λaw=>ad.call (.mk' rfl rfl rfl rfl c9) (Il aH (c:=i) aa b6)) ?_;refine aF ?_;refine bc (λae=>?_) (λae=>?_)
  ·have hy:=ahK (p:=p) (k:=k) (s:=s) (i:=i) aa (by revert ae;cases k.testBit i <;> simp);refine bE ?_;refine aC 6 (cR p A q g Hx) ?_;exact⟨by rw[hy];rfl,rfl⟩
  ·have hn:=ahJ (p:=p) (k:=k) (s:=s) jz (by revert ae;cases k.testBit i <;> simp);refine aI ?_;exact aW (⟨i+1,rfl,rfl,aa,aa,hn⟩)
 ·obtain rfl:i=aJ p:=by omega
  refine bE ?_;refine aC 6 (cR p A q g Hx) ?_;exact⟨oJ,rfl⟩
def ahL(h:i<G.t.params.length):hH c to i G j=if((G.t.params.getD i default).getD j default).toNat.testBit c then G.ic i j (2^to) else G:=by
 have e:e8 G.t i=G.t.params.getD i default:=if_pos h;have a:G.nz i j (2^to)=G.ic i j (2^to):=if_pos h;rw[hH,e,a]
def ahM(h:i=G.t.params.length):hH c to i G j=if(G.t.nodes.getD j default).toNat.testBit c then G.bU j (2^to) else G:=by
 have e:e8 G.t i=G.t.nodes:=by rw[e8,if_neg aa,if_pos h]
 have a:G.nz i j (2^to)=G.bU j (2^to):=by rw[GT.nz,if_neg aa,if_pos h]
 rw[hH,e,a]
def ahN(h:i=G.t.params.length+1):hH c to i G j=if(G.t.av.getD j default).toNat.testBit c then G.eL j (2^to) else G:=by
 have e:e8 G.t i=G.t.av:=by rw[e8,if_neg aa,if_neg aa]
 have a:G.nz i j (2^to)=G.eL j (2^to):=by rw[GT.nz,if_neg aa,if_neg aa]
 rw[hH,e,a]
def qk(p:Prog)(i:Nat):Nat:=(fG p (p.methods.getD i default).gen).toNat
def AY{t}(h:bf p t){i}(a:i<p.methods.length):(t.params.getD i default).length=qk p i:=by
 have:=JW h a rfl;unfold qk;omega
def Ka(a:(bw p).isSome){i}(c:i<p.methods.length):1<=qk p i/\qk p i<=3:=by
 have g:=tQ a c;obtain⟨o,f⟩:=Option.isSome_iff_exists.1 a;have:=qZ (iF f).2.2.1 (bI (l:=p.cT) (k:=(p.methods.getD i default).gen.toNat) aa);unfold qk fG;omega
structure Tu(p:Prog)(q:gx):Prop where
 P:∀i,i<p.methods.length->∃a nd,q.vs.getD i default= .slice a (qk p i) nd
 N:∃a nd,q.cY= .slice a p.nodes.length nd
 S:∃a nd,q.cS= .slice a p.av.toNat nd
 R:∃a nd,q.de= .slice a p.methods.length nd
section
variable{p:Prog}{A:List cW}{q:gx}{g:GT}{Hx:aA}
def ahO(m:jd p q)(h:bf p g.t){B}{I}{w}(l:a7 B I w (cR p A q g Hx)):Tu p q:=by
 refine⟨λi o=>?_,?_,?_,?_⟩
 ·have r:=tW m.aH h o;have j:=AY h o;have:=bn.zn (l.ok _ (qj (k:=i) (i:=0) (by rw[h.pl];exact o) (List.length_pos_iff.2 r)));rw[j] at this;exact this
 ·have:=Ar m.aH;have:=bn.zn (l.ok _ (gP (i:=0) (by rw[h.nl];omega)));rw[h.nl] at this;exact this
 ·have f:=h.ai;by_cases e:g.t.av= []
  ·rw[e] at f;obtain⟨a,c,j⟩:=m.p8 (by simpa using f.symm);exact⟨a,c,by rw[j,show p.av.toNat=0 by simp at f;omega]⟩
  ·have:=bn.zn (l.ok _ (lh (i:=0) (List.length_pos_iff.2 e)));rw[show g.t.av.length=p.av.toNat by omega] at this;exact this
 ·have f:=h.ho;by_cases e:g.t.bz= []
  ·rw[e] at f;obtain⟨a,c,j⟩:=m.rj (by simpa using f.symm);exact⟨a,c,by rw[j, <-show 0=p.methods.length by simpa using f]⟩
  ·have:=bn.zn (l.ok _ (vX (i:=0) (List.length_pos_iff.2 e)));rw[f] at this;exact this
def aB.ahP{c}{r}{f}{env}{Q}(j:jd p q)(h:bf p g.t)(l:Tu p q->aB c r prog f ⟨env,cR p A q g Hx⟩ Q):aB c r prog f ⟨env,cR p A q g Hx⟩ Q:=λa w s=>
 l (let ⟨_,_,_,aU,_⟩:=s.mem;ahO j h aU) a w s
end
def ahQ(ck:p.Small)(a1:jd p q)(h:bf p g.t){c to:Nat}(D:1<=to)(F:to<aJ p):bO prog 192 [.p q.bx 0,.i (c:Int),.i (to:Int)] (cR p A q g Hx) (λr H1=>r= .bk []/\H1=cR p A q (GT.kk c to g) Hx) (λ_ _=>False):=by
 refine aM func192 λB I bW=>?_;have O:=a1.aH;have R:=a1.many;have hN:=h.nl;have gF:=h.ai;have V:=h.pl;have im:=h.ho;have a9:=jt R (km D F);have bF:=J8 O;have a5:=ki O;have T:p.nodes.length<=120:=by
  obtain⟨o,bb⟩:=Option.isSome_iff_exists.1 O;exact (sb bb).2
 have v:∀i,bf p ((List.range i).foldl (eB c to) g).t:=λi=>hU _ h λg i _ h=>hU _ h λg j _ h=>Ao h c i j D F;have H:∀i j,bf p ((List.range j).foldl (hH c to i) ((List.range i).foldl (eB c to) g)).t:=λi j=>hU _ (v i) λg j _ h=>Ao h c i j D F;have Q:((List.range (p.methods.length+2)).foldl (eB c to) g)=GT.kk c to g:=by rw[GT.kk,V]
 refine aO ?_;refine aB.ahP a1 h (λe5=>?_);refine aT ?_;refine bo (λz C=>∃i:Nat,C=⟨[(6,.i i),(2,.i to),(1,.i c),(0,.p q.bx 0)],cR p A q ((List.range i).foldl (eB c to) g) Hx⟩/\z=p.methods.length - i/\i<=p.methods.length) tp ?_;rintro z _ ⟨i,rfl,rfl,aQ⟩;refine ba ?_;refine ag (ad.le (ad.qo rfl rfl rfl) (an.b4 (by rw[a1.oH]))) ?_;refine aF ?_;refine az (λaf=>?_) λaf=>?_
 ·have bT:i<p.methods.length:=by omega
  have U:=AY (v i) bT;have fw:=Ka O bT;have a2:=(v i).pl;have G:=lD (f:=eB c to) i g;have E:eB c to ((List.range i).foldl (eB c to) g) i=((List.range (qk p i)).foldl (hH c to i) ((List.range i).foldl (eB c to) g)):=by
   have e:e8 ((List.range i).foldl (eB c to) g).t i=((List.range i).foldl (eB c to) g).t.params.getD i default:=if_pos aa;rw[eB,e,U]
  refine bY ?_;refine bo (λz C=>∃j:Nat,C=⟨[(7,.i j),(6,.i i),(2,.i to),(1,.i c),(0,.p q.bx 0)],cR p A q ((List.range j).foldl (hH c to i) ((List.range i).foldl (eB c to) g)) Hx⟩/\z=qk p i - j/\j<=qk p i) (⟨0,rfl,rfl,aa⟩) ?_;rintro z _ ⟨j,rfl,rfl,cm⟩;refine bY ?_;refine ag (wb) ?_;refine aR ?_;refine ag (ad.Cx (e5.P i bT) rfl rfl rfl) ?_;refine aF ?_;refine az (λae=>?_) λae=>?_
  ·have m:j<qk p i:=by omega
   have l:=H i j;have Y:=AY l bT;have B:=l.pl;obtain⟨s,w⟩:=hT.1 (l.kf _ (bI (k:=i) aa) _ (bI (k:=j) aa));have L:=jt R w;have a:=lD (f:=hH c to i) j ((List.range i).foldl (eB c to) g);rw[ahL aa] at a;refine bR ?_;refine ag (wb) ?_;refine aO ?_;refine ag (ad.dX rfl rfl rfl rfl rfl (qj (k:=i) (i:=j) aa aa) ⟨aa,aa⟩) ?_;refine ag (ad.le (ad.gk rfl rfl rfl (qj (k:=i) (i:=j) aa aa) (hK aa)) (an.b4 s)) ?_;refine aR ?_;refine ag (ad.call .k (so _ c aa)) ?_;refine aO ?_;refine az (λao=>?_) λao=>?_
   ·refine bP 23 146 ?_;refine ax ?_;refine bg (wb) ?_;refine aI ?_;refine bg (wb) ?_;refine aO ?_;refine bg (ad.dX rfl rfl rfl rfl rfl (qj (k:=i) (i:=j) aa aa) ⟨aa,aa⟩) ?_;refine bg (ad.le (ad.gk rfl rfl rfl (qj (k:=i) (i:=j) aa aa) (hK aa)) (an.b4 s)) ?_;refine aR ?_;refine bg (ad.shift rfl rfl rfl rfl rfl aa (mO to ⟨aa,aa⟩)) ?_;refine bg (ad.bits rfl rfl rfl rfl rfl (kg _ (2^to) aa aa)) ?_;refine aO ?_;refine ag (ad.dX rfl rfl rfl rfl rfl (qj (k:=i) (i:=j) aa aa) ⟨aa,aa⟩) ?_;refine Tq (k:=i) (x:=2^to) rfl rfl rfl rfl rfl rfl rfl aa aa rfl ?_;refine aI ?_;exact aW (⟨j+1,by rw[a,if_pos ao],rfl,m⟩)
   ·refine aI ?_;exact aW (⟨j+1,by rw[a,if_neg (by rw[ao];decide)],rfl,m⟩)
  ·obtain rfl:j=qk p i:=by omega
   refine bE ?_;exact aW (⟨i+1,by rw[G,E],rfl,bT⟩)
 ·obtain rfl:i=p.methods.length:=by omega
  have a4:=(v p.methods.length).pl;have J:=(v p.methods.length).nl;have G:=lD (f:=eB c to) p.methods.length g;have E:eB c to ((List.range p.methods.length).foldl (eB c to) g) p.methods.length=((List.range p.nodes.length).foldl (hH c to p.methods.length) ((List.range p.methods.length).foldl (eB c to) g)):=by
   have e:e8 ((List.range p.methods.length).foldl (eB c to) g).t p.methods.length=((List.range p.methods.length).foldl (eB c to) g).t.nodes:=by rw[e8,if_neg aa,if_pos aa]
   rw[eB,e,J]
  refine bR ?_;refine bo (λz C=>∃j:Nat,C=⟨[(8,.i j),(2,.i to),(1,.i c),(0,.p q.bx 0)],cR p A q ((List.range j).foldl (hH c to p.methods.length) ((List.range p.methods.length).foldl (eB c to) g)) Hx⟩/\z=p.nodes.length - j/\j<=p.nodes.length) (⟨0,rfl,rfl,aa⟩) ?_;rintro z _ ⟨j,rfl,rfl,cm⟩;refine ba ?_;refine ag (ad.Cx e5.N rfl rfl rfl) ?_;refine aF ?_;refine az (λaV=>?_) λaV=>?_
  ·have m:j<p.nodes.length:=by omega
   have l:=H p.methods.length j;have W:=l.nl;have B:=l.pl;obtain⟨s,w⟩:=hT.1 (l.nb _ (bI (k:=j) aa));have L:=jt R w;have a:=lD (f:=hH c to p.methods.length) j ((List.range p.methods.length).foldl (eB c to) g);rw[ahM aa] at a;refine bR ?_;refine ag (ad.dX rfl rfl rfl rfl rfl (gP (i:=j) aa) ⟨aa,aa⟩) ?_;refine ag (ad.le (ad.gk rfl rfl rfl (gP (i:=j) aa) (hK aa)) (an.b4 s)) ?_;refine aR ?_;refine ag (ad.call .k (so _ c aa)) ?_;refine aO ?_;refine az (λbu=>?_) λbu=>?_
   ·refine bP 17 146 ?_;refine bR ?_;refine bg (ad.dX rfl rfl rfl rfl rfl (gP (i:=j) aa) ⟨aa,aa⟩) ?_;refine bg (ad.le (ad.gk rfl rfl rfl (gP (i:=j) aa) (hK aa)) (an.b4 s)) ?_;refine aR ?_;refine bg (ad.shift rfl rfl rfl rfl rfl aa (mO to ⟨aa,aa⟩)) ?_;refine bg (ad.bits rfl rfl rfl rfl rfl (kg _ (2^to) aa aa)) ?_;refine aO ?_;refine ag (ad.dX rfl rfl rfl rfl rfl (gP (i:=j) aa) ⟨aa,aa⟩) ?_;refine AX (x:=2^to) rfl rfl rfl rfl rfl rfl rfl aa rfl ?_;refine aI ?_;exact aW (⟨j+1,by rw[a,if_pos bu],rfl,m⟩)
   ·refine aI ?_;exact aW (⟨j+1,by rw[a,if_neg (by rw[bu];decide)],rfl,m⟩)
  ·obtain rfl:j=p.nodes.length:=by omega
   rw[<-E, <-G];have a3:=(v (p.methods.length+1)).pl;have a0:=(v (p.methods.length+1)).ai;have M:=lD (f:=eB c to) (p.methods.length+1) g;have K:eB c to ((List.range (p.methods.length+1)).foldl (eB c to) g) (p.methods.length+1)=((List.range p.av.toNat).foldl (hH c to (p.methods.length+1)) ((List.range (p.methods.length+1)).foldl (eB c to) g)):=by
    have e:e8 ((List.range (p.methods.length+1)).foldl (eB c to) g).t (p.methods.length+1)=((List.range (p.methods.length+1)).foldl (eB c to) g).t.av:=by rw[e8,if_neg aa,if_neg aa]
    rw[eB,e,show ((List.range (p.methods.length+1)).foldl (eB c to) g).t.av.length=p.av.toNat by omega]
   refine bE ?_;refine bo (λz C=>∃j:Nat,C=⟨[(9,.i j),(2,.i to),(1,.i c),(0,.p q.bx 0)],cR p A q ((List.range j).foldl (hH c to (p.methods.length+1)) ((List.range (p.methods.length+1)).foldl (eB c to) g)) Hx⟩/\z=p.av.toNat - j/\j<=p.av.toNat) (⟨0,rfl,rfl,aa⟩) ?_;rintro z _ ⟨j,rfl,rfl,cm⟩;refine ba ?_;refine ag (ad.Cx e5.S rfl rfl rfl) ?_;refine aF ?_;refine az (λcr=>?_) λcr=>?_
   ·have m:j<p.av.toNat:=by omega
    have l:=H (p.methods.length+1) j;have X:=l.ai;have B:=l.pl;obtain⟨s,w⟩:=hT.1 (l.ff _ (bI (k:=j) aa));have L:=jt R w;have a:=lD (f:=hH c to (p.methods.length+1)) j ((List.range (p.methods.length+1)).foldl (eB c to) g);rw[ahN aa] at a;refine bR ?_;refine ag (ad.dX rfl rfl rfl rfl rfl (lh (i:=j) aa) ⟨aa,aa⟩) ?_;refine ag (ad.le (ad.gk rfl rfl rfl (lh (i:=j) aa) (hK aa)) (an.b4 s)) ?_;refine aR ?_;refine ag (ad.call .k (so _ c aa)) ?_;refine aO ?_;refine az (λdK=>?_) λdK=>?_
    ·refine bP 17 146 ?_;refine bR ?_;refine bg (ad.dX rfl rfl rfl rfl rfl (lh (i:=j) aa) ⟨aa,aa⟩) ?_;refine bg (ad.le (ad.gk rfl rfl rfl (lh (i:=j) aa) (hK aa)) (an.b4 s)) ?_;refine aR ?_;refine bg (ad.shift rfl rfl rfl rfl rfl aa (mO to ⟨aa,aa⟩)) ?_;refine bg (ad.bits rfl rfl rfl rfl rfl (kg _ (2^to) aa aa)) ?_;refine aO ?_;refine ag (ad.dX rfl rfl rfl rfl rfl (lh (i:=j) aa) ⟨aa,aa⟩) ?_;refine Ex (x:=2^to) rfl rfl rfl rfl rfl rfl rfl aa rfl ?_;refine aI ?_;exact aW (⟨j+1,by rw[a,if_pos dK],rfl,m⟩)
    ·refine aI ?_;exact aW (⟨j+1,by rw[a,if_neg (by rw[dK];decide)],rfl,m⟩)
   ·obtain rfl:j=p.av.toNat:=by omega
    refine aY ?_;rw[<-K, <-M,Q];refine gM [] (cR p A q (GT.kk c to g) Hx) ?_;exact⟨rfl,rfl⟩
def ahR(h:k<2^n)(hn:n<=62):(List.range n).filter k.testBit=gf k:=by
 have e:∀d,eN k (n+d)=eN k n:=λd=>by
  induction d with
  | zero=>rfl
  | succ d a=>
   have c:k.testBit (n+d)=false:=Nat.testBit_lt_two_pow (Nat.lt_of_lt_of_le h (Nat.pow_le_pow_right c8 aa));rw[<-Nat.add_assoc,tK,a,c];simp
 have:=e (62 - n);rw[show n+(62 - n)=62 by omega] at this;exact this.symm
def ahS:(((List.range 3).filter k.testBit).foldl (iY p n to) g)=g:=by
 have e:∀l:dq,(∀c∈l,c<3)->l.foldl (iY p n to) g=g:=λl=>by
  induction l with
  | nil=>exact λ_=>rfl
  | cons x r f=>
   intro h;rw[List.foldl_cons,iY,if_pos (h x dv)];exact f λc a=>h c (.tail _ a)
 exact e _ λc a=>List.mem_range.1 (List.mem_filter.1 a).1
def ahT(a:k<2^aJ p)(hm:aJ p<=13):(((List.range (aJ p)).filter k.testBit).foldl (iY p n to) g)=pf p n to k g:=by
 have e:(List.range (aJ p)).filter k.testBit=gf k:=ahR a aa;rw[e];rfl
def ahU(h:k.testBit i=true):(((List.range (i+1)).filter k.testBit).foldl (iY p n to) g)=iY p n to (((List.range i).filter k.testBit).foldl (iY p n to) g) i:=by
 rw[List.range_succ,List.filter_append,List.foldl_append,List.filter_cons,if_pos h];rfl
def ahV(h:k.testBit i=false):(((List.range (i+1)).filter k.testBit).foldl (iY p n to) g)=(((List.range i).filter k.testBit).foldl (iY p n to) g):=by
 rw[List.range_succ,List.filter_append,List.foldl_append,List.filter_cons,if_neg (by rw[h];decide)];rfl
def ahW(K:p.Small)(J:jd p q)(h:bf p g.t){n k to:Nat}(hn:n<p.nodes.length)(Y:k<2^aJ p)(D:eH p to):bO prog 157 [.p q.bx 0,.i (n:Int),.i (k:Int),.i (to:Int)] (cR p A q g Hx) (λr H1=>r= .bk []/\H1=cR p A q (pf p n to k g) Hx) (λ_ _=>False):=by
 refine aM func157 λB I bW=>?_;have H:=J.aH;have F:=J.many;have a5:=h.nl;have a3:=h.ai;have fw:=h.pl;have a9:=h.ho;have bF:aJ p=3+p.aE.length:=rfl;have Z:=Nat.lt_of_lt_of_le Y (Nat.pow_le_pow_right c8 F);obtain⟨⟨M,W⟩,_⟩:=ve D;have l:1<=to:=by omega
 have m:to<aJ p:=by omega
 have C:=km (p:=p) l m;have hN:=jt F C;have P:fH p to=cu p to:=by rw[fH,D,if_pos rfl]
 have a2:=(o7 D).br;have V:∀i,bf p (((List.range i).filter k.testBit).foldl (iY p n to) g).t:=λi=>hU _ h λg c _ h=>IQ h n l m c;refine ax ?_;refine ag (ad.call .k (Aa K H)) ?_;refine bK (λdc=>?_);refine aY ?_;refine eA 8 ?_;refine aT ?_;refine bo (λz O=>∃i:Nat,O=⟨[(9,.i i),(8,.ptr (cD (bS p))),(3,.i to),(2,.i k),(1,.i n),(0,.p q.bx 0)],cR p A q (((List.range i).filter k.testBit).foldl (iY p n to) g) Hx⟩/\z=aJ p - i/\3<=i/\i<=aJ p) (⟨3,by rw[ahS],rfl,aa,aa⟩) ?_;rintro z _ ⟨i,rfl,rfl,a4,aQ⟩;refine c4 ?_;refine az (λaf=>?_) λaf=>?_
 ·have S:i<aJ p:=by omega
  obtain⟨G,L⟩:∃G,G=(((List.range i).filter k.testBit).foldl (iY p n to) g):=⟨_,rfl⟩;have o:=V i;rw[<-L] at o;rw[<-L];refine ba ?_;refine ag (ad.call .k (so k i aa)) ?_;refine aF ?_;refine bc (λae=>?_) (λae=>?_)
  ·have N:k.testBit i=false:=by revert ae;cases k.testBit i <;> simp
   refine ba ?_;exact aW (⟨i+1,by rw[ahV N, <-L],rfl,aa,aa⟩)
  ·have N:k.testBit i=true:=by revert ae;cases k.testBit i <;> simp
   have w:=o.bU n C;have T:bf p (GT.kk i to (G.bU n (2^to))).t:=IP w i l m;have Q:∀j,bf p (((cu p to).take j).foldl (λg s=>if dT p i s then g else GT.begin p to g s) (GT.kk i to (G.bU n (2^to)))).t:=λj=>hU _ T λg s _ h=>me (λ_=>h) (λ_=>vC h to s);have gF:=o.nl;obtain⟨X,U⟩:=hT.1 (o.nb _ (bI (k:=n) aa));have a0:=jt F U;refine aF ?_;refine bP 17 81 ?_;refine bR ?_;refine bg (ad.dX rfl rfl rfl rfl rfl (gP (i:=n) aa) ⟨aa,aa⟩) ?_;refine bg (ad.le (ad.gk rfl rfl rfl (gP (i:=n) aa) (hK aa)) (an.b4 X)) ?_;refine aR ?_;refine bg (ad.shift rfl rfl rfl rfl rfl aa (mO to ⟨aa,aa⟩)) ?_;refine bg (ad.bits rfl rfl rfl rfl rfl (kg _ (2^to) aa aa)) ?_;refine aO ?_;refine ag (ad.dX rfl rfl rfl rfl rfl (gP (i:=n) aa) ⟨aa,aa⟩) ?_;refine AX (x:=2^to) rfl rfl rfl rfl rfl rfl rfl aa rfl ?_;refine aP ?_;refine cE .k ((ahQ K J w l m).b) ?_;rintro _ _ ⟨rfl,rfl⟩;refine ba ?_;refine ag (ad.call .k (HS K H M W)) ?_;refine ba ?_;refine bo (λz O=>∃j:Nat,O=⟨[(11,.i j),(10,ab.ints (cu p to)),(9,.i i),(8,.ptr (cD (bS p))),(3,.i to),(2,.i k),(1,.i n),(0,.p q.bx 0)],cR p A q (((cu p to).take j).foldl (λg s=>if dT p i s then g else GT.begin p to g s) (GT.kk i to (G.bU n (2^to)))) Hx⟩/\z=(cu p to).length - j/\j<=(cu p to).length) (⟨0,rfl,rfl,aa⟩) ?_;rintro z _ ⟨j,rfl,rfl,cm⟩;refine ba ?_;refine az (λao=>?_) λao=>?_
   ·have a:j<(cu p to).length:=by omega
    have E:=bI a;have R:=I8 D E;have B:=xH (f:=(λg s=>if dT p i s then g else GT.begin p to g s)) a (GT.kk i to (G.bU n (2^to)));refine aT ?_;refine bP 6 81 ?_;refine aI ?_;refine ag (ad.call .k (Il H (c:=i) S R.1)) ?_;refine aF ?_;refine bc (λaV=>?_) (λaV=>?_)
    ·have v:dT p i ((cu p to).getD j default)=false:=by revert aV;cases dT p i ((cu p to).getD j default) <;> simp
     refine aP ?_;refine cE .k ((Ts K J (Q j) D E).b) ?_;rintro _ _ ⟨rfl,rfl⟩;refine aI ?_;exact aW (⟨j+1,by rw[B,if_neg (by rw[v];decide)],rfl,a⟩)
    ·have v:dT p i ((cu p to).getD j default)=true:=by revert aV;cases dT p i ((cu p to).getD j default) <;> simp
     refine aI ?_;exact aW (⟨j+1,by rw[B,if_pos v],rfl,a⟩)
   ·obtain rfl:j=(cu p to).length:=by omega
    rw[List.take_length];refine bE ?_;exact aW (⟨i+1,by rw[ahU N, <-L,iY,if_neg aa,P],rfl,aa,aa⟩)
 ·obtain rfl:i=aJ p:=by omega
  rw[ahT Y F];refine aY ?_;refine gM [] (cR p A q (pf p n to k g) Hx) ?_;exact⟨rfl,rfl⟩
section
variable{p:Prog}{A:List cW}{q:gx}{g:GT}{Hx:aA}
def Tv(a1:jd p q)(h:bf p g.t){I J}{w}(N:er I w J w)(m:∀t v (E:bl),.row t 1 v E.length E∈cR p A q g []->Rel J w (.ai 1 (E.map λx=>[x])) v){u}(U:Rel I w (.agg [.val q.de,.ai 1 (q.vs.map λv=>[.val v]),.val q.cY,.val q.cS]) u):Rel J w (ab.dx g.t) u:=by
 have P:Rel J w (ab.du g.t.bz) q.de:=by
  by_cases j:g.t.bz= []
  ·obtain⟨a,c,e⟩:=a1.rj (by rw[<-h.ho,j];rfl);rw[e,j];exact .dQ _ _ _
  ·exact Ev (m 4 _ (g.t.bz.map .b) (by rw[List.length_map];exact vX (i:=0) (List.length_pos_iff.2 j)))
 have G:∀{v:Value} {l:ak},l≠ []->.row 3 1 v l.length (l.map .i)∈cR p A q g []->Rel J w (.ints l) v:=λbr O=>Ev (m 3 _ _ (by rw[List.length_map];exact O));have R:Rel J w (.ints g.t.nodes) q.cY:=by
  have j:g.t.nodes≠ []:=λe=>by have:=h.nl;rw[e] at this;have:=Ar a1.aH;simp at*;omega
  exact G j (gP (i:=0) (List.length_pos_iff.2 j))
 have T:Rel J w (.ints g.t.av) q.cS:=by
  by_cases j:g.t.av= []
  ·obtain⟨a,c,e⟩:=a1.p8 (by have:=h.ai;rw[j] at this;simpa using this.symm);rw[e,j];exact .dQ _ _ _
  ·exact G j (lh (i:=0) (List.length_pos_iff.2 j))
 cases U with
 | agg _ C f=>
  refine .agg _ _ ?_;generalize C.toList=l at f;cases f with | cons _ a _ l V f=>cases f with | cons _ b _ l Q f=>cases f with | cons _ c _ l L f=>cases f with | cons _ d _ l M f=>
   cases f;rw[bX V,bX L,bX M];refine .cons _ _ _ _ P (.cons _ _ _ _ ?_ (.cons _ _ _ _ R (.cons _ _ _ _ T .nil)));refine (Q.bs N).Ct E3 λi x y r B=>?_;rw[List.getElem?_map] at r B;cases aQ:g.t.params[i]? with
   | none=>rw[aQ] at B;cases B
   | some l=>
    have s:=(List.getElem?_eq_some_iff.1 aQ).1;have j:g.t.params.getD i default=l:=by rw[List.getD_eq_getElem?_getD,aQ];rfl
    cases bd:q.vs[i]? with
    | none=>rw[bd] at r;cases r
    | some v=>
     have H:q.vs.getD i default=v:=by rw[List.getD_eq_getElem?_getD,bd];rfl
     rw[aQ] at B;rw[bd] at r;cases r;cases B;refine⟨rfl,λb o K=>?_⟩;cases K with
     | cons _ _ _ c _ D F r S=>
      refine .cons _ _ _ c _ D F ?_ (by cases S;exact .nil _ _);rw[bX r];have z:=tW a1.aH h (k:=i) (by rw[<-h.pl];exact s);have:=G z (qj (p:=p) (A:=A) (q:=q) (g:=g) (Hx:=[]) (i:=0) s (List.length_pos_iff.2 z));rw[j,H] at this;exact this
def Tw{e}(h:e∈cR p A q g []):e∈cR p A q g Hx:=by
 have h:e∈lg p q A::(ih q g.t++[]):=h;rw[List.append_nil] at h;rcases List.mem_cons.1 h with rfl | h
 ·exact .head _
 ·exact .tail _ (List.mem_append_left _ h)
def fp.ahX(z:jd p q)(h:bf p g.t){pre post}:fp (cR p A q g Hx) (pre++.agg [.val q.de,.ai 1 (q.vs.map λv=>[.val v]),.val q.cY,.val q.cS]::post) (pre++ab.dx g.t::post):=by
 intro B I w H E c s r x;have a:er I w (kO w) w:=⟨λb o m=>c.there b o m,λ_ _ _=>rfl⟩;refine⟨kO w,λ_ _ h=>h,?_⟩;obtain⟨G,C,rfl,aC,f⟩:=x.qG;cases f with
 | cons _ u _ C l j=>
  refine (aC.bs a).append (.cons _ _ _ _ ?_ (j.bs a));exact Tv (A:=A) z h a (λt v F D=>I3 c (s.ok _ (r _ (Tw D)))) l
end
structure vY(p:Prog)(A:List cW):Prop where
 len:A.length=p.methods.length
 rows:∀m,m<p.methods.length->(A.getD m default).length=p.methods.length
 val:∀m o,m<p.methods.length->o<p.methods.length->(cA p m).gen=(cA p o).gen->(cA p m).kind=(cA p o).kind->(A.getD m default).getD o default=bh p m o
def ahY(f:vY p A){n m o}(hm:m<p.methods.length)(c:o<p.methods.length)(g):jO p (λm o=>(A.getD m default).getD o default) n m g o=jO p (bh p) n m g o:=by
 unfold jO;simp only;cases ae:(p.methods.getD o default).gen==(p.methods.getD m default).gen with
 | false=>simp
 | true=>
  cases ao:(p.methods.getD o default).kind==(p.methods.getD m default).kind with
  | false=>simp
  | true=>simp only[f.val m o hm c (beq_iff_eq.1 ae).symm (beq_iff_eq.1 ao).symm]
def aG.ahZ{P}{f}{xs}{y y'}(h:aG P f xs y)(a:an y y'):aG P f xs y':=λH=>
 bO.pO (h H) λ_ _ ⟨c,bL⟩ B I w v hw aU bH=>by
  subst c;exact⟨I,y',_,hw,.refl _ _ _,aU,a _ _ _ bH,rfl,bL⟩
def ah0(a b):an (.bk [.b a,.b b]) (.val (.tuple #[.bool a,.bool b])):=λI w v h=>by
 cases h with
 | bk _ j c=>
  cases j with | mk l=>
  cases c with | cons _ _ _ _ g c=>cases c with | cons _ _ _ _ f c=>cases c;rw[bX g,bX f];exact .val _
def ah1(a b):an (.val (.tuple #[.bool a,.bool b])) (.bk [.b a,.b b]):=λI w v h=>by
 rw[bX h];exact .bk _ _ Xk
def ah2{AA:List cW}{g:gx}{O:GT}{t:cI}(ht:t=O.t)(o:jd p g)(P:bf p O.t)(T:(bw p).isSome)(b6:lF p t)(Y:(t.av.length:Int)=p.av){kinds:ak}(Q:∀k∈kinds,ct (aJ p) k=true)(a2:kinds.length<=3){f:Fact}(z:∀x∈en kinds,ir p x f):hP prog (cR p AA g O []) 212 [ab.world (bS p),.agg [.val g.de,.ai 1 (g.vs.map λv=>[ab.val v]),.val g.cY,.val g.cS],ab.fact f,ab.ints kinds,ab.bm (en kinds)] (.bk [ab.ints (hl (hb p t f kinds) kinds.length),.b (!(hb p t f kinds).isEmpty)]):=by
 intro H Z;refine aM (n:=63) func212 λB I bW=>?_;have a0:=nx T;have a4:=o8 T;obtain⟨L,J⟩:∃L,L=en kinds:=⟨_,rfl⟩;rw[<-J] at z ⊢;refine aB.eG (t:=4) rfl (λYt=>?_);refine aF ?_;refine ag (ad.BM rfl rfl rfl (by simp[List.all_cons,fa,o.rk,o.sz,o.ow,o.mT])) ?_;refine ba ?_;refine aj.pN (kinds.length) rfl rfl rfl rfl rfl rfl rfl rfl (rfl) aa h5 (λcP=>?_);refine eb ?_;rw[IF];refine bo (λq N=>∃i:Nat,N=⟨[(13,.b (!((L.take i).filter (λl=>(di p t l f).1)).isEmpty)),(14,.i i),(12,fA cP kinds.length),(3,ab.ints kinds),(4,ab.bm L),(5,.ptr (cD (bS p))),(6,.ptr [.val g.de,.ai 1 (g.vs.map λv=>[ab.val v]),.val g.cY,.val g.cS]),(7,.ptr (fy f))],eZ cP (hl ((L.take i).filter (λl=>(di p t l f).1)) kinds.length)::H⟩/\q=L.length - i/\i<=L.length) (⟨0,rfl,rfl,aa⟩) ?_;rintro q _ ⟨i,rfl,rfl,aQ⟩;refine ba ?_;refine az (λaf=>?_) λaf=>?_
 ·have r:i<L.length:=by omega
  obtain⟨x,B⟩:∃x,x=L.getD i default:=⟨_,rfl⟩;have F:x∈L:=B▸bI r;have E:x∈en kinds:=J▸F;obtain⟨a3,U⟩:=nM E;have C:=rf Q E;obtain⟨A,s⟩:∃A,A=((L.take i).filter (λl=>(di p t l f).1)):=⟨_,rfl⟩;rw[<-s];have w:∀y∈A,y∈en kinds:=λy hy=>by rw[s] at hy;exact J▸List.mem_of_mem_take (List.mem_filter.1 hy).1
  have W:(di p t x f).1=true->(L.take (i+1)).filter (λl=>(di p t l f).1)=A++[x]:=λh=>by rw[<-c2 r, <-B,xe (q:=(λl=>(di p t l f).1)) h, <-s]
  have V:(di p t x f).1=false->(L.take (i+1)).filter (λl=>(di p t l f).1)=A:=λh=>by rw[<-c2 r, <-B,xf (q:=(λl=>(di p t l f).1)) h, <-s]
  refine aT ?_;refine bP 7 63 ?_;refine ax ?_;refine bg (ad.le (ad.cF rfl rfl rfl rfl) (by rw[<-B];exact an.refl _)) ?_;refine aO ?_;refine ag (ad.le (ad.qF .k (fp.mono (fp.ahX (A:=AA) (Hx:=[]) o P (pre:=[ab.world (bS p)]) (post:=[ab.fact f,ab.ints x])) (λe K=>.tail _ (Z e K))) (aG.ahZ (by rw[<-ht];exact aca T b6 Y C _ (z x F)) (ah0 _ _))) (ah1 _ _)) ?_;refine ax ?_;refine b0.dG 9 12 63 rfl aq rfl rfl aq ?_;refine dk ?_;refine bc (λae=>?_) (λae=>?_)
  ·have ae:(di p t x f).1=true:=ae;refine bE ?_;rw[<-Iv A x];refine bo (λq N=>∃j:Nat,N=⟨[(17,.i j),(13,.b true),(14,.i i),(12,fA cP kinds.length),(3,ab.ints kinds),(4,ab.bm L),(5,.ptr (cD (bS p))),(6,.ptr [.val g.de,.ai 1 (g.vs.map λv=>[ab.val v]),.val g.cY,.val g.cS]),(7,.ptr (fy f))],eZ cP (mP A x kinds.length j)::H⟩/\q=kinds.length - j/\j<=kinds.length) (⟨0,rfl,rfl,aa⟩) ?_;rintro q _ ⟨j,rfl,rfl,cm⟩;refine ba ?_;refine az (λao=>?_) λao=>?_
   ·have dH:j<kinds.length:=by omega
    obtain⟨c,X,_⟩:=U j dH;have S:=C _ (bI (l:=x) (k:=j) aa);rw[X] at S;have bF:lM A j<2^62:=Iu (m:=aJ p) aa A (λy hy=>by have M:=(nM (w y hy)).1;have dA:=rf Q (w y hy) _ (bI (l:=y) (k:=j) aa);omega) (λy hy=>by have M:=(nM (w y hy)).1;have dA:=rf Q (w y hy) _ (bI (l:=y) (k:=j) aa);omega);have wj:=Iy (L:=A) (x:=x) dH;rw[X] at wj;refine aY ?_;refine bP 15 63 ?_;refine aY ?_;refine bg (ad.gU rfl rfl rfl rfl rfl aa) ?_;refine bg (ad.le EM (an.b4 (Ix dH))) ?_;refine aF ?_;refine bg (ad.le (ad.cF rfl rfl rfl rfl) (by rw[<-B];exact an.refl _)) ?_;refine aO ?_;refine bg (ad.le (ad.cF rfl rfl rfl rfl) (an.b4 X)) ?_;refine bg (ad.shift rfl rfl rfl rfl rfl aa (mO c ⟨aa,aa⟩)) ?_;refine bg (ad.bits rfl rfl rfl rfl rfl (kg _ _ aa (Nat.pow_lt_pow_right (a:=2) (n:=63) c8 aa))) ?_;refine aO ?_;refine ag (ad.gU rfl rfl rfl rfl rfl aa) ?_;apply aj.fZ rfl rfl rfl rfl rfl rfl rfl rfl rfl rfl
    (case hu=>repeat (first | exact bG.head _ _ _ | apply bG.tail));(case hfit=>simp[yb];omega);(case hds=>exact (ints_set E2 _).trans EX)
    refine aI ?_;exact aW (⟨j+1,rfl,rfl,dH⟩)
   ·obtain rfl:j=kinds.length:=by omega
    rw[Iw];refine bE ?_;exact aW (⟨i+1,by rw[W ae,show (!(A++[x]).isEmpty)=true by simp],rfl,r⟩)
  ·have ae:(di p t x f).1=false:=ae;refine aI ?_;exact aW (⟨i+1,by rw[V ae],rfl,r⟩)
 ·obtain rfl:i=L.length:=by omega
  rw[List.take_length];have R:L.filter (λl=>(di p t l f).1)=hb p t f kinds:=by rw[J];rfl
  rw[R];refine ax ?_;rw[DB cP cP (hl (hb p t f kinds) kinds.length) 0];refine aB.oM (d:=12) (k:=1) rfl (fU.head _ _) (by rw[List.length_map];simp[hl]) (λe K=>by obtain⟨y,_,rfl⟩:=List.mem_map.1 K;rfl) (Nat.le_refl _) h5 ?_;refine aI ?_;refine dL [.tmp 10,.tmp 11] (H) ?_;exact⟨cO,rfl⟩
def ah3(T:p.Small){AA}{c}{B}{t}(ht:t=B.t)(a:jd p c)(C:bf p B.t)(o:(bw p).isSome)(Q:lF p t)(D:(t.av.length:Int)=p.av){gen}{kinds}(K:∀k∈kinds,ct (aJ p) k=true)(sT:(kinds.length:Int)=fG p gen)(z:kinds.length<=3):hP prog (cR p AA c B []) 193 [ab.prog p,.agg [.val c.de,.ai 1 (c.vs.map λv=>[.val v]),.val c.cY,.val c.cS],.i gen,.ints kinds] (.bk [.ints ((eI p t gen kinds).map (·.1)),.bm ((eI p t gen kinds).map (·.2))]):=by
 intro H F;refine aM func193 λB I W=>?_;have gO:=ki o;refine aF ?_;refine ag (.BM rfl rfl rfl (by simp[List.all_cons,fa,a.rk,a.sz,a.ow,a.mT])) ?_;refine gL ?_;refine ag (.call .k (Aa T o)) ?_;refine aR ?_;refine ag (.call .k (acC o K z)) ?_;refine bK (λdc=>?_);refine ax ?_;refine eA 12 ?_;refine aT ?_;refine hh 10 3 1 ?_;refine hh 11 23 1 ?_;refine bo (λq P=>∃(m:Nat) (j s:Value),P=⟨[(14,.i m),(13,.bm (en kinds)),(12,.ptr (cD (bS p))),(10,.as (.ints ((h3 p t gen kinds m).map (·.1))) j),(11,.as (.bm ((h3 p t gen kinds m).map (·.2))) s),(2,.i gen),(3,.ints kinds),(4,.ptr (cM p)),(5,.ptr [.val c.de,.ai 1 (c.vs.map λv=>[.val v]),.val c.cY,.val c.cS])],.own 23 1 s::.own 3 1 j::H⟩/\q=p.methods.length - m/\m<=p.methods.length) ⟨0,_,_,rfl,rfl,aa⟩ ?_;rintro q _ ⟨m,j,s,rfl,rfl,V⟩;refine bY ?_;refine az (λaf=>?_) λaf=>?_
 ·have h:m<p.methods.length:=by omega
  obtain⟨M,da⟩:∃M,M=p.methods.getD m default:=iO;have r:=IA (p:=p) (t:=t) (gen:=gen) (kinds:=kinds) (m:=m);have f:=IB (p:=p) (t:=t) (gen:=gen) (kinds:=kinds) (m:=m);have g:=IC (p:=p) (t:=t) (gen:=gen) (kinds:=kinds) (m:=m);rw[<-da] at r f g;refine bR ?_;refine ag (ad.le (ad.cF rfl rfl rfl rfl) (an.b4 (by rw[<-da]))) ?_;refine aY ?_;refine az (λae=>?_) λae=>?_
  ·refine ba ?_;exact aW (⟨m+1,j,s,by rw[r ae],rfl,h⟩)
  ·have A:∀x∈en kinds,ir p x M.fact:=λx aK=>by
    have E:jr p (m:Int)=true:=by unfold jr;simp;omega
    have N:=Ah o E (l:=x) EU;rw[show ((m:Int)).toNat=m from rfl, <-da] at N;exact N
   obtain⟨G,U⟩:∃G,G=hl (hb p t M.fact kinds) kinds.length:=⟨_,rfl⟩;have w:=ah2 (AA:=AA) ht a C o Q D K z A;rw[<-U] at g w;refine aF ?_;refine bP 10 61 ?_;refine aP ?_;refine bg (ad.le (ad.rF rfl rfl rfl rfl) (show an _ (ab.fact M.fact) by rw[da];exact an.refl _)) ?_;refine aY ?_;refine ag (ad.hX .k (c0.refl _) w (λe O=>.tail _ (.tail _ (F e O)))) ?_;refine ax ?_;refine b0.dG 12 15 61 rfl aq rfl rfl aq ?_;refine dk ?_;refine bc (λao=>?_) (λao=>?_)
   ·have J:hb p t M.fact kinds≠ []:=λe=>by rw[e] at ao;simp at ao
    refine aY ?_;refine aj.cn (x:=.ai 1 [[.i (m:Int)]]) rfl rfl rfl (ad.row rfl rfl cC rfl rfl rfl rfl rfl rfl) ?_;refine aj.dJ rfl rfl rfl rfl rfl rfl rfl rfl (an.refl _) (rfl) (λ_=>df) sO sO (λEy=>?_);refine ax ?_;refine aj.cn (x:=.ai 1 [[ab.ints G]]) rfl rfl rfl (ad.row rfl rfl cC rfl rfl rfl rfl rfl rfl) ?_;refine aj.dJ rfl rfl rfl rfl rfl rfl rfl rfl (an.refl _) (rfl) (λ_=>df) sO sO (λah4=>?_);refine ba ?_;exact aW (⟨m+1,Ey,ah4,by rw[g ae J,ID,IE],rfl,h⟩)
   ·have J:hb p t M.fact kinds= []:=by simpa using ao
    refine aI ?_;exact aW (⟨m+1,j,s,by rw[f J],rfl,h⟩)
 ·obtain rfl:m=p.methods.length:=by omega
  refine c4 ?_;refine aZ.cg (rs:=[.tmp 8,.tmp 9]) (H':=H) rfl (.tmp rfl (.tmp rfl (.nil))) (.cons (an.e2 _ _) (.cons (an.e2 _ _) .nil)) bC ?_;exact⟨cO,rfl⟩
def ah5(ck:p.Small)(a1:jd p q)(h:bf p g.t){n:Nat}(hn:n<p.nodes.length){gen:Int}{kids:ak}(Q:∀k∈kids,0<=k/\k<p.nodes.length)(fw:(kids.length:Int)=fG p gen)(BR:kids.length<=3):bO prog 158 [.p q.bx 0,.i (n:Int),.i gen,ab.ints kids] (cR p A q g Hx) (λr H1=>r= .bk []/\H1=cR p A q (sw p n gen (kids.map λk=>g.t.nodes.getD k.toNat default) g) Hx) (λ_ _=>False):=by
 refine aM (n:=143) func158 λB I bW=>?_;have W:=a1.aH;have U:=a1.many;have S:=h.nl;have yA:=h.ai;have T:=h.pl;have im:=h.ho;obtain⟨a,c⟩:∃a,a=(kids.map λk=>g.t.nodes.getD k.toNat default):=⟨_,rfl⟩;rw[<-c];have s:∀k∈a,ct (aJ p) k=true:=λk bD=>by
  rw[c] at bD;obtain⟨x,aK,rfl⟩:=List.mem_map.1 bD;exact xE h (Q x aK)
 have a5:(a.length:Int)=fG p gen:=by rw[c,List.length_map];exact fw
 have am:a.length=kids.length:=by rw[c,List.length_map]
 have ah:=ki W;have adM:(eI p g.t gen a).length<=p.methods.length:=A7 (p:=p) (t:=g.t) (gen:=gen) (kinds:=a) p.methods.length;have a9:∀i,bf p (((eI p g.t gen a).take i).foldl (mR p n) g).t:=λi=>hU _ h λg x aK h=>IU h n (xD s x (List.mem_of_mem_take aK)).2.2;refine bR ?_;refine hh 8 3 1 ?_;refine bo (λz N=>∃(i:Nat) (v:Value),N=⟨[(9,.i i),(8,.as (ab.ints (a.take i)) v),(3,ab.ints kids),(2,.i gen),(1,.i n),(0,.p q.bx 0)],.own 3 1 v::cR p A q g Hx⟩/\z=a.length - i/\i<=a.length) (⟨0,_,rfl,rfl,aa⟩) ?_;rintro z _ ⟨i,v,rfl,rfl,aQ⟩;refine ba ?_;refine az (λaf=>?_) λaf=>?_
 ·have bT:i<kids.length:=by omega
  have gE:=Q _ (bI bT);have a4:a.getD i default=g.t.nodes.getD (kids.getD i default).toNat default:=by rw[c,sM bT]
  have Y:=c2 (l:=a) (k:=i) aa;refine aY ?_;refine bP 13 143 ?_;refine bY ?_;refine bg (ad.dX rfl rfl rfl rfl rfl (.tail _ (gP (i:=(kids.getD i default).toNat) aa)) ⟨aa,aa⟩) ?_;refine bg (ad.gk rfl rfl rfl (.tail _ (gP (i:=(kids.getD i default).toNat) aa)) (hK aa)) ?_;refine eO.cn (x:=.ai 1 [[.i (g.t.nodes.getD (kids.getD i default).toNat default)]]) rfl rfl rfl (ad.row rfl rfl cC rfl rfl rfl rfl rfl rfl) ?_;refine aO ?_;refine aj.dJ rfl rfl rfl rfl rfl rfl rfl rfl (an.refl _) (rfl) (λ_=>df) cB cB (λHB=>?_);refine ba ?_;exact aW (⟨i+1,HB,by rw[<-Y,ab.ints,List.map_append,a4],rfl,aa⟩)
 ·obtain rfl:i=a.length:=by omega
  rw[List.take_length];refine ax ?_;refine aB.le 8 (y:=ab.ints a) rfl (an.e2 _ _) ?_;refine aB.weaken (st':=⟨[(8,ab.ints a),(3,ab.ints kids),(2,.i gen),(1,.i n),(0,.p q.bx 0)],cR p A q g Hx⟩) hW (List.sublist_cons_self _ _) ?_;refine bP 10 143 ?_;refine bR ?_;refine ag (ad.hX .k (c0.refl _) (ah3 (AA:=A) ck rfl a1 h W h.ff h.ai s a5 aa) (λe he=>Tw he)) ?_;refine ax ?_;refine b0.dG 12 15 143 rfl aq rfl rfl aq ?_;refine c4 ?_;refine bo (λz N=>∃i:Nat,N=⟨[(12,.i i),(11,ab.bm ((eI p g.t gen a).map (·.2))),(10,ab.ints ((eI p g.t gen a).map (·.1))),(8,ab.ints a),(3,ab.ints kids),(2,.i gen),(1,.i n),(0,.p q.bx 0)],cR p A q (((eI p g.t gen a).take i).foldl (mR p n) g) Hx⟩/\z=(eI p g.t gen a).length - i/\i<=(eI p g.t gen a).length) (⟨0,rfl,rfl,aa⟩) ?_;rintro z _ ⟨i,rfl,rfl,aQ⟩;refine aT ?_;refine ag (ad.le (ad.qo rfl rfl rfl) (an.b4 (by rw[List.length_map]))) ?_;refine aF ?_;refine az (λae=>?_) λae=>?_
  ·have bT:i<(eI p g.t gen a).length:=by omega
   obtain⟨X,V⟩:∃X,X=((eI p g.t gen a).getD i default):=⟨_,rfl⟩;obtain⟨⟨dV,Z,P⟩,a3,w⟩:=xD (t:=g.t) (gen:=gen) s _ (bI bT);rw[<-V] at dV Z P a3 w;obtain⟨M,da⟩:∃M,M=X.1.toNat:=⟨_,rfl⟩;have a2:X.1=(M:Int):=by omega
   have rH:M<p.methods.length:=by omega
   have R:(p.methods.getD M default).gen=gen:=by rw[da];exact P
   obtain⟨G,fb⟩:∃G,G=(((eI p g.t gen a).take i).foldl (mR p n) g):=⟨_,rfl⟩;have J:=a9 i;rw[<-fb] at J;have E:=xH (f:=mR p n) bT g;rw[<-fb, <-V] at E;have B:mR p n G X=if sv (p.methods.getD M default)=true then (nA M X.2 (G.reach M)).bU n ((nA M X.2 (G.reach M)).t.nodes.getD (p.methods.getD M default).node.toNat default).toNat else (nA M X.2 (G.reach M)):=by rw[da];rfl
   rw[<-fb];have im:=J.ho;have hR:=J.reach M;have m:∀j,bf p ((List.range j).foldl (λg k=>g.ic M k (X.2.getD k default).toNat) (G.reach M)).t:=λj=>hU _ hR λg k _ h=>h.ic M k (mc w k);have o:bf p (nA M X.2 (G.reach M)).t:=m _;have S:=o.nl;have hN:0<=(p.methods.getD M default).node/\(p.methods.getD M default).node<p.nodes.length:=Ep a1.aH rH;have H:=Er o hN;have bF:∀j,(((List.range j).foldl (λg k=>g.ic M k (X.2.getD k default).toNat) (G.reach M)).t.params.getD M default).length=X.2.length:=λj=>by have:=JW (m j) rH R;omega
   have T:∀j,((List.range j).foldl (λg k=>g.ic M k (X.2.getD k default).toNat) (G.reach M)).t.params.length=p.methods.length:=λj=>(m j).pl;have Cb:X.2.length<=3:=by omega
   refine aI ?_;refine ag (uh) ?_;refine ag (ad.le (ad.cF rfl rfl rfl rfl) (an.b4 (show _=(M:Int) by rw[sM bT, <-V,a2]))) ?_;refine bE ?_;refine ag (ad.dX rfl rfl rfl rfl rfl (vX (i:=M) aa) ⟨aa,aa⟩) ?_;refine ahC (i:=M) rfl rfl rfl rfl rfl rfl rfl aa ?_;refine ba ?_;refine bo (λz N=>∃j:Nat,N=⟨[(14,.i j),(13,.i (M:Int)),(12,.i i),(11,ab.bm ((eI p g.t gen a).map (·.2))),(10,ab.ints ((eI p g.t gen a).map (·.1))),(8,ab.ints a),(3,ab.ints kids),(2,.i gen),(1,.i n),(0,.p q.bx 0)],cR p A q ((List.range j).foldl (λg k=>g.ic M k (X.2.getD k default).toNat) (G.reach M)) Hx⟩/\z=X.2.length - j/\j<=X.2.length) (⟨0,rfl,rfl,aa⟩) ?_;rintro z _ ⟨j,rfl,rfl,cm⟩;refine ba ?_;refine az (λao=>?_) λao=>?_
   ·have L:j<X.2.length:=by omega
    have O:=hT.1 (w _ (bI L));have qz:=bF j;have ac:=T j;obtain⟨K,D⟩:=hT.1 ((m j).kf _ (bI (k:=M) aa) _ (bI (k:=j) aa));have a0:=jt U D;have ap:=jt U O.2;refine aY ?_;refine bP 28 143 ?_;refine ax ?_;refine bg (EO) ?_;refine aI ?_;refine bg (EO) ?_;refine aO ?_;refine bg (ad.dX rfl rfl rfl rfl rfl (qj (k:=M) (i:=j) aa aa) ⟨aa,aa⟩) ?_;refine bg (ad.le (ad.gk rfl rfl rfl (qj (k:=M) (i:=j) aa aa) (hK aa)) (an.b4 K)) ?_;refine aO ?_;refine bg (uh) ?_;refine bg (ad.le (ad.cF rfl rfl rfl rfl) (by rw[sM bT, <-V];exact an.refl _)) ?_;refine aO ?_;refine bg (ad.le (ad.cF rfl rfl rfl rfl) (an.b4 O.1)) ?_;refine bg (ad.bits rfl rfl rfl rfl rfl (kg _ _ aa aa)) ?_;refine aO ?_;refine ag (ad.dX rfl rfl rfl rfl rfl (qj (k:=M) (i:=j) aa aa) ⟨aa,aa⟩) ?_;refine Tq (k:=M) (x:=(X.2.getD j default).toNat) rfl rfl rfl rfl rfl rfl rfl aa aa rfl ?_;refine aI ?_;exact aW (⟨j+1,by rw[lD],rfl,L⟩)
   ·obtain rfl:j=X.2.length:=by omega
    have gF:((List.range X.2.length).foldl (λg k=>g.ic M k (X.2.getD k default).toNat) (G.reach M))=(nA M X.2 (G.reach M)):=rfl;rw[gF];obtain⟨F,hF⟩:∃F,F=(nA M X.2 (G.reach M)):=⟨_,rfl⟩;rw[<-hF] at B o S H ⊢;obtain⟨K,D⟩:=hT.1 (o.nb _ (bI (k:=n) aa));have a0:=jt U D;have pF:=jt U H.2;refine ji ?_;refine ag (ad.call .k ((HJ _))) ?_;refine aO ?_;refine bc (λaV=>?_) (λaV=>?_)
    ·have C:sv (p.methods.getD M default)=true:=aV;refine bP 31 143 ?_;refine bR ?_;refine bg (ad.dX rfl rfl rfl rfl rfl (gP (i:=n) aa) ⟨aa,aa⟩) ?_;refine bg (ad.le (ad.gk rfl rfl rfl (gP (i:=n) aa) (hK aa)) (an.b4 K)) ?_;refine c4 ?_;refine bg (ad.dX rfl rfl rfl rfl rfl (gP (i:=(p.methods.getD M default).node.toNat) aa) ⟨aa,aa⟩) ?_;refine bg (ad.le (ad.gk rfl rfl rfl (gP (i:=(p.methods.getD M default).node.toNat) aa) (hK aa)) (an.b4 H.1)) ?_;refine bg (ad.bits rfl rfl rfl rfl rfl (kg _ _ aa aa)) ?_;refine aO ?_;refine ag (ad.dX rfl rfl rfl rfl rfl (gP (i:=n) aa) ⟨aa,aa⟩) ?_;refine AX (x:=(F.t.nodes.getD (p.methods.getD M default).node.toNat default).toNat) rfl rfl rfl rfl rfl rfl rfl aa rfl ?_;refine aI ?_;exact aW (⟨i+1,by rw[E,B,if_pos C],rfl,bT⟩)
    ·have C:sv (p.methods.getD M default)=false:=aV;refine aI ?_;exact aW (⟨i+1,by rw[E,B,if_neg (by rw[C];decide)],rfl,bT⟩)
  ·obtain rfl:i=(eI p g.t gen a).length:=by omega
   rw[List.take_length];refine aY ?_;refine gM [] (cR p A q (sw p n gen a g) Hx) ?_;exact⟨rfl,rfl⟩
def Tx{ah}{n m o}(f:(bif !(g.t.bz.getD o default) then true else ((cA p o).gen !=(cA p m).gen))=false){B}(c:(bif (bif (cA p o).kind==(cA p m).kind then ah m o else false) then true else (bif (cA p m).kind==4 then (cA p o).kind==1 else false))=B):jO p ah n m g o=if B=true then g.bU n (g.t.nodes.getD (cA p o).node.toNat default).toNat else g:=by
 refine JU f ?_;rw[<-c];cases (cA p o).kind==(cA p m).kind <;> rfl
def ah6(ck:p.Small)(a1:jd p q)(h:bf p g.t){n k:Nat}(hn:n<p.nodes.length)(bD:k<p.methods.length)(dZ:vY p A):bO prog 159 [.p q.bx 0,.i (n:Int),.i (k:Int)] (cR p A q g Hx) (λr H1=>r= .bk []/\H1=cR p A q (sx p (bh p) n k g) Hx) (λ_ _=>False):=by
 refine aM (n:=103) func159 λB I bW=>?_;have aH:=a1.aH;have hm:=a1.many;have DH:=h.nl;have ra:=h.ai;have q5:=h.pl;have ag2:=h.ho;have gO:=ki aH;have ah7:∀i,bf p ((List.range i).foldl (jO p (bh p) n k) g).t:=λi=>SX h (bh p) n k i;refine bY ?_;refine aj.uP rfl rfl rfl rfl (λbp=>?_);refine aY ?_;refine aB.pC (d:=6) rfl pq ?_;refine aT ?_;refine bo (λz st=>∃i:Nat,st=⟨[(7,.i i),(6,.ptr (eR (cA p k))),(2,.i k),(1,.i n),(0,.p q.bx 0)],cR p A q ((List.range i).foldl (jO p (bh p) n k) g) Hx⟩/\z=p.methods.length - i/\i<=p.methods.length) (⟨0,rfl,rfl,aa⟩) ?_;rintro z _ ⟨i,rfl,rfl,aQ⟩;refine dk ?_;refine az (λaf=>?_) λaf=>?_
 ·have bT:i<p.methods.length:=by omega
  obtain⟨G,fb⟩:∃G,G=((List.range i).foldl (jO p (bh p) n k) g):=⟨_,rfl⟩;have AZ:=ah7 i;rw[<-fb] at AZ;have lp:=lD (f:=jO p (bh p) n k) i g;rw[<-fb] at lp;rw[<-fb];have akX:=AZ.ho;have akY:=AZ.nl;have JO:0<=(p.methods.getD i default).node/\(p.methods.getD i default).node<p.nodes.length:=Ep aH bT;have Cw:=Er AZ JO;obtain⟨DV,mE⟩:=hT.1 (AZ.nb _ (bI (k:=n) aa));have pd:=jt hm mE;have akZ:=jt hm Cw.2;have Ty:=ahY dZ (n:=n) bD bT G;refine c4 ?_;refine aj.uP rfl rfl rfl rfl (λAm=>?_);refine aT ?_;refine aB.pC (d:=8) rfl pq ?_;refine aP ?_;refine ag (ad.dX rfl rfl rfl rfl rfl (vX (i:=i) aa) ⟨aa,aa⟩) ?_;refine ag (ad.gk rfl rfl rfl (vX (i:=i) aa) (xZ aa)) ?_;refine bY ?_;refine aB.cond rfl (λae=>?_) (λae=>?_)
  ·have ah8:=SV (p:=p) (ah:=bh p) (n:=n) (m:=k) (o:=i) ae;refine ba ?_;exact aW (⟨i+1,by rw[lp,ah8],rfl,bT⟩)
  ·have ak0:=SW (p:=p) (m:=k) (o:=i) (g:=G) ae;refine eb ?_;refine aj.db rfl rfl rfl rfl rfl rfl (λaw=>(by first | exact ad.fC rfl rfl (cl aw) rfl (cl aw) (by rw[dZ.len];exact bD) | exact ad.ep rfl rfl (cl aw) rfl (cl aw) (by rw[dZ.len];exact bD))) ?_;refine aO ?_;refine aj.db rfl rfl rfl rfl rfl rfl (λaw=>(by first | exact ad.fC rfl rfl (cl aw) rfl (cl aw) (by rw[dZ.rows k bD];exact bT) | exact ad.ep rfl rfl (cl aw) rfl (cl aw) (by rw[dZ.rows k bD];exact bT))) ?_;refine bY ?_;refine aj.db rfl rfl rfl rfl rfl rfl (λaw=>ad.pick rfl rfl (cl aw) rfl rfl (by intro h;revert h;revert aw;cases hk9:((cA p i).kind==(cA p k).kind) <;> cases (cA p k).kind==4 <;> simp) (λ_=>rfl)) ?_;refine aF ?_;refine aB.cond rfl (λao=>?_) (λao=>?_)
   ·have sL:=Tx (p:=p) (ah:=(λm o=>(A.getD m default).getD o default)) (n:=n) (m:=k) (o:=i) (B:=true) ae ao;rw[Ty] at sL;refine aB.cw mixed ?_;refine b0.dG 0 24 103 rfl aq rfl rfl aq ?_;refine bR ?_;refine eO.cn rfl rfl rfl (ad.dX rfl rfl rfl rfl rfl (gP (i:=n) aa) ⟨aa,aa⟩) ?_;refine eO.cn rfl rfl rfl (ad.le (ad.gk rfl rfl rfl (gP (i:=n) aa) (hK aa)) (an.b4 DV)) ?_;refine aP ?_;refine eO.cn rfl rfl rfl (ad.dX rfl rfl rfl rfl rfl (gP (i:=(p.methods.getD i default).node.toNat) aa) ⟨aa,aa⟩) ?_;refine eO.cn rfl rfl rfl (ad.le (ad.gk rfl rfl rfl (gP (i:=(p.methods.getD i default).node.toNat) aa) (hK aa)) (an.b4 Cw.1)) ?_;refine eO.cn rfl rfl rfl (ad.bits rfl rfl rfl rfl rfl (kg _ _ aa aa)) ?_;refine aO ?_;refine ag (ad.dX rfl rfl rfl rfl rfl (gP (i:=n) aa) ⟨aa,aa⟩) ?_;refine AX (x:=(G.t.nodes.getD (p.methods.getD i default).node.toNat default).toNat) rfl rfl rfl rfl rfl rfl rfl aa rfl ?_;refine aI ?_;exact aW (⟨i+1,by rw[lp,sL,if_pos rfl],rfl,bT⟩)
   ·have sL:=Tx (p:=p) (ah:=(λm o=>(A.getD m default).getD o default)) (n:=n) (m:=k) (o:=i) (B:=false) ae ao;rw[Ty] at sL;refine aI ?_;exact aW (⟨i+1,by rw[lp,sL,if_neg c8],rfl,bT⟩)
 ·obtain rfl:i=p.methods.length:=by omega
  refine aY ?_;refine gM [] (cR p A q (sx p (bh p) n k g) Hx) ?_;exact⟨rfl,rfl⟩
end Go.Proofs.YtodccgailpkgeaaGreat

