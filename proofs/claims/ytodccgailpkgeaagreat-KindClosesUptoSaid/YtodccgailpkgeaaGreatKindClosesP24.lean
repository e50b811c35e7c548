/- A part of the proof. No condition. -/
import Derived.Test.YtodccgailpkgeaaGreatKindClosesP23
set_option linter.defProp false
set_option maxHeartbeats 1000000
set_option linter.unusedVariables false
set_option linter.unusedSimpArgs false
set_option maxRecDepth 10000
namespace Go.Proofs.YtodccgailpkgeaaGreat
open Go.Proofs.Tryz
open Go.Eng
open Go.Eng.Fc
open Go.Eng.dO
variable{p:Prog}{c k i to j n:Nat}{s:Int}{A:List cY}{q:gB}{g G:GT}{Hx:aC}
theorem T2{a c:Type}{f:a->List c}{n}(h:∀x,(f x).length<=n):∀l:List a,(l.flatMap f).length<=l.length*n
 | []=>by simp
 | x::r=>by
  rw[List.flatMap_cons,List.length_append,List.length_cons,Nat.succ_mul];have:=T2 h r;have:=h x;omega
def aiz{c}(a:eJ p c):(mV p c).length<=400000000:=by
 have f:(mV p c).length<=(cw p c).length*20000:=T2 (λs=>Kv 20000 (TW a) _) _;have:=(pk a).bq;omega
def aiA{L:List (Int×Int)}:(L.map (·.1)).contains s=L.any λx=>x.1==s:=by
 rw[Bool.eq_iff_iff,List.contains_iff_mem,List.mem_map,List.any_eq_true];exact⟨λ⟨x,ae,ak⟩=>⟨x,ae,ta⟩,λ⟨x,ae,ak⟩=>⟨x,ae,ta⟩⟩
def T3(M:p.Small)(E:jo p q)(h:bf p g.t){c:Nat}(m:eJ p c){s:Int}(D:s∈cw p c):bP prog 156 [.p q.bz 0,.i (c:Int),.i s] (cT p A q g Hx) (λr Q=>r= .bj []/\Q=cT p A q (GT.begin p c g s) Hx) (λ_ _=>False):=by
 refine aM (n:=59) func156 λB I S=>?_;have N:=E.aD;have H:=E.many;have K:=h.nl;have J:=h.aj;have L:=h.pl;have O:=h.hp;have B:=Ju m D;obtain⟨l,o⟩:=D1 h B.1;have F:=jB H o;have j:=aiy m D;rw[aiA] at j;have P:=aiz m;refine aP ?_;refine ag (ad.call .k (ait M m)) ?_;refine bQ ?_;refine bm (λz G=>∃i:Nat,G=⟨[(7,.i i),(6,ab.mg (mV p c)),(2,.i s),(1,.i c),(0,.p q.bz 0)],cT p A q g Hx⟩/\z=(mV p c).length - i/\i<=(mV p c).length/\((mV p c).take i).any (λx=>x.1==s)=false) (⟨0,rfl,rfl,aa,rfl⟩) ?_;rintro z _ ⟨i,rfl,rfl,R,f⟩;refine a8 ?_;refine az (λaf=>?_) λaf=>?_
 ·have a:i<(mV p c).length:=by omega
  obtain⟨X,w⟩:∃X,X=(mV p c).getD i default:=⟨_,rfl⟩;refine dW ?_;rw[<-w];refine bc (λae=>?_) (λae=>?_)
  ·have v:qc p c s=2:=by rw[j,if_pos (List.any_eq_true.2 ⟨X,w▸bH a,ae⟩)]
   refine aR ?_;refine b0 15 59 ?_;refine bS ?_;refine bh (ad.dX rfl rfl rfl rfl rfl (lz (i:=s.toNat) aa) ⟨aa,aa⟩) ?_;refine bh (ad.le (ad.gm rfl rfl rfl (lz (i:=s.toNat) aa) (hN aa)) (aq.b6 l)) ?_;refine bh (ad.bits rfl rfl rfl rfl rfl (kt _ 2 aa aa)) ?_;refine aQ ?_;refine ag (ad.dX rfl rfl rfl rfl rfl (lz (i:=s.toNat) aa) ⟨aa,aa⟩) ?_;refine EH (x:=2) rfl rfl rfl rfl rfl rfl rfl aa rfl ?_;refine aJ ?_;rw[show g.eN s.toNat 2=GT.begin p c g s by rw[GT.begin,v]];refine dM [] (cT p A q (GT.begin p c g s) Hx) ?_;exact⟨rfl,rfl⟩
  ·replace ae:=dA ae;refine aJ ?_;exact aU (⟨i+1,rfl,rfl,a,by rw[<-c3 a,List.any_append,f, <-w,List.any_cons,show (X.1==s)=false by simpa using ae];rfl⟩)
 ·obtain rfl:i=(mV p c).length:=by omega
  rw[List.take_length] at f;have v:qc p c s=4:=by rw[j,if_neg (by rw[f];decide)]
  refine aS ?_;refine b0 15 59 ?_;refine bS ?_;refine bh (ad.dX rfl rfl rfl rfl rfl (lz (i:=s.toNat) aa) ⟨aa,aa⟩) ?_;refine bh (ad.le (ad.gm rfl rfl rfl (lz (i:=s.toNat) aa) (hN aa)) (aq.b6 l)) ?_;refine bh (ad.bits rfl rfl rfl rfl rfl (kt _ 4 aa aa)) ?_;refine aQ ?_;refine ag (ad.dX rfl rfl rfl rfl rfl (lz (i:=s.toNat) aa) ⟨aa,aa⟩) ?_;refine EH (x:=4) rfl rfl rfl rfl rfl rfl rfl aa rfl ?_;refine aR ?_;rw[show g.eN s.toNat 4=GT.begin p c g s by rw[GT.begin,v]];refine gQ [] (cT p A q (GT.begin p c g s) Hx) ?_;exact⟨rfl,rfl⟩
def aiB(j:k<2^aG p)(hm:aG p<=13)(s):((List.range (aG p)).any λc=>k.testBit c && dK p c s)=sF p k s:=by
 rw[Bool.eq_iff_iff,sF,List.any_eq_true,List.any_eq_true];simp[List.mem_range,Bool.and_eq_true];constructor
 ·rintro⟨c,a,h,g⟩;exact⟨c,tS.2 ⟨aa,h⟩,g⟩
 ·rintro⟨c,a,f⟩;exact⟨c,tT j a,(tS.1 a).2,f⟩
def aiC:((List.range 3).any λc=>k.testBit c && dK p c s)=false:=by
 have e:List.range 3= [0,1,2]:=by decide
 rw[e];simp[dK]
def aiD(h:((List.range i).any λc=>k.testBit c && dK p c s)=false)(a:(k.testBit i && dK p i s)=false):((List.range (i+1)).any λc=>k.testBit c && dK p c s)=false:=by
 rw[List.range_succ,List.any_append,h,List.any_cons,a];rfl
def aiE(a:i<aG p)(f:(k.testBit i && dK p i s)=true):((List.range (aG p)).any λc=>k.testBit c && dK p c s)=true:=List.any_eq_true.2 ⟨i,List.mem_range.2 a,f⟩
def T4(bV:p.Small)(a1:jo p q){k:Nat}(bD:k<2^aG p){s:Int}(b4:0<=s/\s<p.aw):bP prog 154 [.p q.bz 0,.i (k:Int),.i s] (cT p A q g Hx) (λr D=>r= .b (sF p k s)/\D=cT p A q g Hx) (λ_ _=>False):=by
 refine aM (n:=32) func154 λB I bN=>?_;have aD:=a1.aD;have hm:=a1.many;have alR:aG p=3+p.aF.length:=rfl;have alS:=Nat.lt_of_lt_of_le bD (Nat.pow_le_pow_right c8 hm);rw[<-aiB bD hm s];refine bS ?_;refine bm (λz st=>∃i:Nat,st=⟨[(7,.i i),(6,.b false),(2,.i s),(1,.i k),(0,.p q.bz 0)],cT p A q g Hx⟩/\z=aG p - i/\3<=i/\i<=aG p/\((List.range i).any λc=>k.testBit c && dK p c s)=false) (⟨3,rfl,rfl,aa,aa,aiC⟩) ?_;rintro z _ ⟨i,rfl,rfl,alT,aN,jH⟩;refine c6 ?_;refine az (λaf=>?_) λaf=>?_
 ·refine aJ ?_;refine ag (ad.call .k (p9 k i aa)) ?_;refine aS ?_;refine ai.cG rfl rfl rfl rfl rfl rfl (λav=>ad.call (.mk' rfl rfl rfl rfl cU) (vr bV aD)) ?_;refine aQ ?_;refine ai.cG rfl rfl rfl rfl rfl rfl (λav=>ad.call (.mk' rfl rfl rfl rfl cU) (DL aD (c:=i) aa b4)) ?_;refine aH ?_;refine bc (λae=>?_) (λae=>?_)
  ·have hy:=aiE (p:=p) (k:=k) (s:=s) (i:=i) aa (by revert ae;cases k.testBit i <;> simp);refine bA ?_;refine aB 6 (cT p A q g Hx) ?_;exact⟨by rw[hy];rfl,rfl⟩
  ·have hn:=aiD (p:=p) (k:=k) (s:=s) jH (by revert ae;cases k.testBit i <;> simp);refine aJ ?_;exact aU (⟨i+1,rfl,rfl,aa,aa,hn⟩)
 ·obtain rfl:i=aG p:=by omega
  refine bA ?_;refine aB 6 (cT p A q g Hx) ?_;exact⟨oT,rfl⟩
def aiF(h:i<G.t.params.length):hK c to i G j=if((G.t.params.getD i default).getD j default).toNat.testBit c then G.im i j (2^to) else G:=by
 have e:e9 G.t i=G.t.params.getD i default:=if_pos h;have a:G.nK i j (2^to)=G.im i j (2^to):=if_pos h;rw[hK,e,a]
def aiG(h:i=G.t.params.length):hK c to i G j=if(G.t.nodes.getD j default).toNat.testBit c then G.bX j (2^to) else G:=by
 have e:e9 G.t i=G.t.nodes:=by rw[e9,if_neg aa,if_pos h]
 have a:G.nK i j (2^to)=G.bX j (2^to):=by rw[GT.nK,if_neg aa,if_pos h]
 rw[hK,e,a]
def aiH(h:i=G.t.params.length+1):hK c to i G j=if(G.t.aw.getD j default).toNat.testBit c then G.eN j (2^to) else G:=by
 have e:e9 G.t i=G.t.aw:=by rw[e9,if_neg aa,if_neg aa]
 have a:G.nK i j (2^to)=G.eN j (2^to):=by rw[GT.nK,if_neg aa,if_neg aa]
 rw[hK,e,a]
def qs(p:Prog)(i:Nat):Nat:=(gg p (p.methods.getD i default).gen).toNat
def A9{t}(h:bf p t){i}(a:i<p.methods.length):(t.params.getD i default).length=qs p i:=by
 have:=Ki h a rfl;unfold qs;omega
def Kw(a:(bu p).isSome){i}(c:i<p.methods.length):1<=qs p i/\qs p i<=3:=by
 have g:=tV a c;obtain⟨o,f⟩:=Option.isSome_iff_exists.1 a;have:=sj (jf f).2.2.1 (bH (l:=p.c2) (k:=(p.methods.getD i default).gen.toNat) aa);unfold qs gg;omega
structure T5(p:Prog)(q:gB):Prop where
 P:∀i,i<p.methods.length->∃a nt,q.vs.getD i default= .slice a (qs p i) nt
 N:∃a nt,q.cZ= .slice a p.nodes.length nt
 S:∃a nt,q.cV= .slice a p.aw.toNat nt
 R:∃a nt,q.dh= .slice a p.methods.length nt
section
variable{p:Prog}{A:List cY}{q:gB}{g:GT}{Hx:aC}
def aiI(m:jo p q)(h:bf p g.t){B}{I}{w}(l:a7 B I w (cT p A q g Hx)):T5 p q:=by
 refine⟨λi o=>?_,?_,?_,?_⟩
 ·have r:=ua m.aD h o;have j:=A9 h o;have:=br.zu (l.ok _ (qq (k:=i) (i:=0) (by rw[h.pl];exact o) (List.length_pos_iff.2 r)));rw[j] at this;exact this
 ·have:=AD m.aD;have:=br.zu (l.ok _ (gT (i:=0) (by rw[h.nl];omega)));rw[h.nl] at this;exact this
 ·have f:=h.aj;by_cases e:g.t.aw= []
  ·rw[e] at f;obtain⟨a,c,j⟩:=m.qf (by simpa using f.symm);exact⟨a,c,by rw[j,show p.aw.toNat=0 by simp at f;omega]⟩
  ·have:=br.zu (l.ok _ (lz (i:=0) (List.length_pos_iff.2 e)));rw[show g.t.aw.length=p.aw.toNat by omega] at this;exact this
 ·have f:=h.hp;by_cases e:g.t.bC= []
  ·rw[e] at f;obtain⟨a,c,j⟩:=m.rq (by simpa using f.symm);exact⟨a,c,by rw[j, <-show 0=p.methods.length by simpa using f]⟩
  ·have:=br.zu (l.ok _ (v8 (i:=0) (List.length_pos_iff.2 e)));rw[f] at this;exact this
def aA.aiJ{c}{r}{f}{env}{Q}(j:jo p q)(h:bf p g.t)(l:T5 p q->aA c r prog f ⟨env,cT p A q g Hx⟩ Q):aA c r prog f ⟨env,cT p A q g Hx⟩ Q:=λa w s=>
 l (let ⟨_,_,_,aW,_⟩:=s.mem;aiI j h aW) a w s
end
def aiK(bV:p.Small)(a1:jo p q)(h:bf p g.t){c to:Nat}(D:1<=to)(F:to<aG p):bP prog 192 [.p q.bz 0,.i (c:Int),.i (to:Int)] (cT p A q g Hx) (λr H1=>r= .bj []/\H1=cT p A q (GT.ku c to g) Hx) (λ_ _=>False):=by
 refine aM func192 λB I bN=>?_;have O:=a1.aD;have R:=a1.many;have hQ:=h.nl;have gJ:=h.aj;have V:=h.pl;have iy:=h.hp;have a9:=jB R (kv D F);have bI:=TT O;have a5:=jY O;have T:p.nodes.length<=120:=by
  obtain⟨o,bb⟩:=Option.isSome_iff_exists.1 O;exact (sk bb).2
 have v:∀i,bf p ((List.range i).foldl (eC c to) g).t:=λi=>hX _ h λg i _ h=>hX _ h λg j _ h=>Ay h c i j D F;have H:∀i j,bf p ((List.range j).foldl (hK c to i) ((List.range i).foldl (eC c to) g)).t:=λi j=>hX _ (v i) λg j _ h=>Ay h c i j D F;have Q:((List.range (p.methods.length+2)).foldl (eC c to) g)=GT.ku c to g:=by rw[GT.ku,V]
 refine aQ ?_;refine aA.aiJ a1 h (λe0=>?_);refine aS ?_;refine bm (λz C=>∃i:Nat,C=⟨[(6,.i i),(2,.i to),(1,.i c),(0,.p q.bz 0)],cT p A q ((List.range i).foldl (eC c to) g) Hx⟩/\z=p.methods.length - i/\i<=p.methods.length) tz ?_;rintro z _ ⟨i,rfl,rfl,aN⟩;refine a8 ?_;refine ag (ad.le (ad.qy rfl rfl rfl) (aq.b6 (by rw[a1.oQ]))) ?_;refine aH ?_;refine az (λaf=>?_) λaf=>?_
 ·have bF:i<p.methods.length:=by omega
  have U:=A9 (v i) bF;have fw:=Kw O bF;have a2:=(v i).pl;have G:=lO (f:=eC c to) i g;have E:eC c to ((List.range i).foldl (eC c to) g) i=((List.range (qs p i)).foldl (hK c to i) ((List.range i).foldl (eC c to) g)):=by
   have e:e9 ((List.range i).foldl (eC c to) g).t i=((List.range i).foldl (eC c to) g).t.params.getD i default:=if_pos aa;rw[eC,e,U]
  refine bQ ?_;refine bm (λz C=>∃j:Nat,C=⟨[(7,.i j),(6,.i i),(2,.i to),(1,.i c),(0,.p q.bz 0)],cT p A q ((List.range j).foldl (hK c to i) ((List.range i).foldl (eC c to) g)) Hx⟩/\z=qs p i - j/\j<=qs p i) (⟨0,rfl,rfl,aa⟩) ?_;rintro z _ ⟨j,rfl,rfl,cp⟩;refine bQ ?_;refine ag (wh) ?_;refine aR ?_;refine ag (ad.CJ (e0.P i bF) rfl rfl rfl) ?_;refine aH ?_;refine az (λae=>?_) λae=>?_
  ·have m:j<qs p i:=by omega
   have l:=H i j;have Y:=A9 l bF;have B:=l.pl;obtain⟨s,w⟩:=hW.1 (l.ks _ (bH (k:=i) aa) _ (bH (k:=j) aa));have L:=jB R w;have a:=lO (f:=hK c to i) j ((List.range i).foldl (eC c to) g);rw[aiF aa] at a;refine bS ?_;refine ag (wh) ?_;refine aQ ?_;refine ag (ad.dX rfl rfl rfl rfl rfl (qq (k:=i) (i:=j) aa aa) ⟨aa,aa⟩) ?_;refine ag (ad.le (ad.gm rfl rfl rfl (qq (k:=i) (i:=j) aa aa) (hN aa)) (aq.b6 s)) ?_;refine aR ?_;refine ag (ad.call .k (p9 _ c aa)) ?_;refine aQ ?_;refine az (λak=>?_) λak=>?_
   ·refine b0 23 146 ?_;refine ay ?_;refine bh (wh) ?_;refine aJ ?_;refine bh (wh) ?_;refine aQ ?_;refine bh (ad.dX rfl rfl rfl rfl rfl (qq (k:=i) (i:=j) aa aa) ⟨aa,aa⟩) ?_;refine bh (ad.le (ad.gm rfl rfl rfl (qq (k:=i) (i:=j) aa aa) (hN aa)) (aq.b6 s)) ?_;refine aR ?_;refine bh (ad.shift rfl rfl rfl rfl rfl aa (ml to ⟨aa,aa⟩)) ?_;refine bh (ad.bits rfl rfl rfl rfl rfl (kt _ (2^to) aa aa)) ?_;refine aQ ?_;refine ag (ad.dX rfl rfl rfl rfl rfl (qq (k:=i) (i:=j) aa aa) ⟨aa,aa⟩) ?_;refine T1 (k:=i) (x:=2^to) rfl rfl rfl rfl rfl rfl rfl aa aa rfl ?_;refine aJ ?_;exact aU (⟨j+1,by rw[a,if_pos ak],rfl,m⟩)
   ·refine aJ ?_;exact aU (⟨j+1,by rw[a,if_neg (by rw[ak];decide)],rfl,m⟩)
  ·obtain rfl:j=qs p i:=by omega
   refine bA ?_;exact aU (⟨i+1,by rw[G,E],rfl,bF⟩)
 ·obtain rfl:i=p.methods.length:=by omega
  have a4:=(v p.methods.length).pl;have J:=(v p.methods.length).nl;have G:=lO (f:=eC c to) p.methods.length g;have E:eC c to ((List.range p.methods.length).foldl (eC c to) g) p.methods.length=((List.range p.nodes.length).foldl (hK c to p.methods.length) ((List.range p.methods.length).foldl (eC c to) g)):=by
   have e:e9 ((List.range p.methods.length).foldl (eC c to) g).t p.methods.length=((List.range p.methods.length).foldl (eC c to) g).t.nodes:=by rw[e9,if_neg aa,if_pos aa]
   rw[eC,e,J]
  refine bS ?_;refine bm (λz C=>∃j:Nat,C=⟨[(8,.i j),(2,.i to),(1,.i c),(0,.p q.bz 0)],cT p A q ((List.range j).foldl (hK c to p.methods.length) ((List.range p.methods.length).foldl (eC c to) g)) Hx⟩/\z=p.nodes.length - j/\j<=p.nodes.length) (⟨0,rfl,rfl,aa⟩) ?_;rintro z _ ⟨j,rfl,rfl,cp⟩;refine a8 ?_;refine ag (ad.CJ e0.N rfl rfl rfl) ?_;refine aH ?_;refine az (λaL=>?_) λaL=>?_
  ·have m:j<p.nodes.length:=by omega
   have l:=H p.methods.length j;have W:=l.nl;have B:=l.pl;obtain⟨s,w⟩:=hW.1 (l.nb _ (bH (k:=j) aa));have L:=jB R w;have a:=lO (f:=hK c to p.methods.length) j ((List.range p.methods.length).foldl (eC c to) g);rw[aiG aa] at a;refine bS ?_;refine ag (ad.dX rfl rfl rfl rfl rfl (gT (i:=j) aa) ⟨aa,aa⟩) ?_;refine ag (ad.le (ad.gm rfl rfl rfl (gT (i:=j) aa) (hN aa)) (aq.b6 s)) ?_;refine aR ?_;refine ag (ad.call .k (p9 _ c aa)) ?_;refine aQ ?_;refine az (λbo=>?_) λbo=>?_
   ·refine b0 17 146 ?_;refine bS ?_;refine bh (ad.dX rfl rfl rfl rfl rfl (gT (i:=j) aa) ⟨aa,aa⟩) ?_;refine bh (ad.le (ad.gm rfl rfl rfl (gT (i:=j) aa) (hN aa)) (aq.b6 s)) ?_;refine aR ?_;refine bh (ad.shift rfl rfl rfl rfl rfl aa (ml to ⟨aa,aa⟩)) ?_;refine bh (ad.bits rfl rfl rfl rfl rfl (kt _ (2^to) aa aa)) ?_;refine aQ ?_;refine ag (ad.dX rfl rfl rfl rfl rfl (gT (i:=j) aa) ⟨aa,aa⟩) ?_;refine A8 (x:=2^to) rfl rfl rfl rfl rfl rfl rfl aa rfl ?_;refine aJ ?_;exact aU (⟨j+1,by rw[a,if_pos bo],rfl,m⟩)
   ·refine aJ ?_;exact aU (⟨j+1,by rw[a,if_neg (by rw[bo];decide)],rfl,m⟩)
  ·obtain rfl:j=p.nodes.length:=by omega
   rw[<-E, <-G];have a3:=(v (p.methods.length+1)).pl;have a0:=(v (p.methods.length+1)).aj;have M:=lO (f:=eC c to) (p.methods.length+1) g;have K:eC c to ((List.range (p.methods.length+1)).foldl (eC c to) g) (p.methods.length+1)=((List.range p.aw.toNat).foldl (hK c to (p.methods.length+1)) ((List.range (p.methods.length+1)).foldl (eC c to) g)):=by
    have e:e9 ((List.range (p.methods.length+1)).foldl (eC c to) g).t (p.methods.length+1)=((List.range (p.methods.length+1)).foldl (eC c to) g).t.aw:=by rw[e9,if_neg aa,if_neg aa]
    rw[eC,e,show ((List.range (p.methods.length+1)).foldl (eC c to) g).t.aw.length=p.aw.toNat by omega]
   refine bA ?_;refine bm (λz C=>∃j:Nat,C=⟨[(9,.i j),(2,.i to),(1,.i c),(0,.p q.bz 0)],cT p A q ((List.range j).foldl (hK c to (p.methods.length+1)) ((List.range (p.methods.length+1)).foldl (eC c to) g)) Hx⟩/\z=p.aw.toNat - j/\j<=p.aw.toNat) (⟨0,rfl,rfl,aa⟩) ?_;rintro z _ ⟨j,rfl,rfl,cp⟩;refine a8 ?_;refine ag (ad.CJ e0.S rfl rfl rfl) ?_;refine aH ?_;refine az (λcm=>?_) λcm=>?_
   ·have m:j<p.aw.toNat:=by omega
    have l:=H (p.methods.length+1) j;have X:=l.aj;have B:=l.pl;obtain⟨s,w⟩:=hW.1 (l.fg _ (bH (k:=j) aa));have L:=jB R w;have a:=lO (f:=hK c to (p.methods.length+1)) j ((List.range (p.methods.length+1)).foldl (eC c to) g);rw[aiH aa] at a;refine bS ?_;refine ag (ad.dX rfl rfl rfl rfl rfl (lz (i:=j) aa) ⟨aa,aa⟩) ?_;refine ag (ad.le (ad.gm rfl rfl rfl (lz (i:=j) aa) (hN aa)) (aq.b6 s)) ?_;refine aR ?_;refine ag (ad.call .k (p9 _ c aa)) ?_;refine aQ ?_;refine az (λdx=>?_) λdx=>?_
    ·refine b0 17 146 ?_;refine bS ?_;refine bh (ad.dX rfl rfl rfl rfl rfl (lz (i:=j) aa) ⟨aa,aa⟩) ?_;refine bh (ad.le (ad.gm rfl rfl rfl (lz (i:=j) aa) (hN aa)) (aq.b6 s)) ?_;refine aR ?_;refine bh (ad.shift rfl rfl rfl rfl rfl aa (ml to ⟨aa,aa⟩)) ?_;refine bh (ad.bits rfl rfl rfl rfl rfl (kt _ (2^to) aa aa)) ?_;refine aQ ?_;refine ag (ad.dX rfl rfl rfl rfl rfl (lz (i:=j) aa) ⟨aa,aa⟩) ?_;refine EH (x:=2^to) rfl rfl rfl rfl rfl rfl rfl aa rfl ?_;refine aJ ?_;exact aU (⟨j+1,by rw[a,if_pos dx],rfl,m⟩)
    ·refine aJ ?_;exact aU (⟨j+1,by rw[a,if_neg (by rw[dx];decide)],rfl,m⟩)
   ·obtain rfl:j=p.aw.toNat:=by omega
    refine aV ?_;rw[<-K, <-M,Q];refine gQ [] (cT p A q (GT.ku c to g) Hx) ?_;exact⟨rfl,rfl⟩
def aiL(h:k<2^n)(hn:n<=62):(List.range n).filter k.testBit=fP k:=by
 have e:∀d,eP k (n+d)=eP k n:=λd=>by
  induction d with
  | zero=>rfl
  | succ d a=>
   have c:k.testBit (n+d)=false:=Nat.testBit_lt_two_pow (Nat.lt_of_lt_of_le h (Nat.pow_le_pow_right c8 aa));rw[<-Nat.add_assoc,tR,a,c];simp
 have:=e (62 - n);rw[show n+(62 - n)=62 by omega] at this;exact this.symm
def aiM:(((List.range 3).filter k.testBit).foldl (jj p n to) g)=g:=by
 have e:∀l:du,(∀c∈l,c<3)->l.foldl (jj p n to) g=g:=λl=>by
  induction l with
  | nil=>exact λ_=>rfl
  | cons x r f=>
   intro h;rw[List.foldl_cons,jj,if_pos (h x dB)];exact f λc a=>h c (.tail _ a)
 exact e _ λc a=>List.mem_range.1 (List.mem_filter.1 a).1
def aiN(a:k<2^aG p)(hm:aG p<=13):(((List.range (aG p)).filter k.testBit).foldl (jj p n to) g)=ps p n to k g:=by
 have e:(List.range (aG p)).filter k.testBit=fP k:=aiL a aa;rw[e];rfl
def aiO(h:k.testBit i=true):(((List.range (i+1)).filter k.testBit).foldl (jj p n to) g)=jj p n to (((List.range i).filter k.testBit).foldl (jj p n to) g) i:=by
 rw[List.range_succ,List.filter_append,List.foldl_append,List.filter_cons,if_pos h];rfl
def aiP(h:k.testBit i=false):(((List.range (i+1)).filter k.testBit).foldl (jj p n to) g)=(((List.range i).filter k.testBit).foldl (jj p n to) g):=by
 rw[List.range_succ,List.filter_append,List.foldl_append,List.filter_cons,if_neg (by rw[h];decide)];rfl
def aiQ(K:p.Small)(J:jo p q)(h:bf p g.t){n k to:Nat}(hn:n<p.nodes.length)(Y:k<2^aG p)(D:eJ p to):bP prog 157 [.p q.bz 0,.i (n:Int),.i (k:Int),.i (to:Int)] (cT p A q g Hx) (λr H1=>r= .bj []/\H1=cT p A q (ps p n to k g) Hx) (λ_ _=>False):=by
 refine aM func157 λB I bN=>?_;have H:=J.aD;have F:=J.many;have a5:=h.nl;have a3:=h.aj;have fw:=h.pl;have a9:=h.hp;have bI:aG p=3+p.aF.length:=rfl;have Z:=Nat.lt_of_lt_of_le Y (Nat.pow_le_pow_right c8 F);obtain⟨⟨M,W⟩,_⟩:=vf D;have l:1<=to:=by omega
 have m:to<aG p:=by omega
 have C:=kv (p:=p) l m;have hQ:=jB F C;have P:fG p to=cw p to:=by rw[fG,D,if_pos rfl]
 have a2:=(pk D).bq;have V:∀i,bf p (((List.range i).filter k.testBit).foldl (jj p n to) g).t:=λi=>hX _ h λg c _ h=>Jd h n l m c;refine ay ?_;refine ag (ad.call .k (vr K H)) ?_;refine bT (λda=>?_);refine aV ?_;refine eB 8 ?_;refine aS ?_;refine bm (λz O=>∃i:Nat,O=⟨[(9,.i i),(8,.ptr (cB (bR p))),(3,.i to),(2,.i k),(1,.i n),(0,.p q.bz 0)],cT p A q (((List.range i).filter k.testBit).foldl (jj p n to) g) Hx⟩/\z=aG p - i/\3<=i/\i<=aG p) (⟨3,by rw[aiM],rfl,aa,aa⟩) ?_;rintro z _ ⟨i,rfl,rfl,a4,aN⟩;refine c6 ?_;refine az (λaf=>?_) λaf=>?_
 ·have S:i<aG p:=by omega
  obtain⟨G,L⟩:∃G,G=(((List.range i).filter k.testBit).foldl (jj p n to) g):=⟨_,rfl⟩;have o:=V i;rw[<-L] at o;rw[<-L];refine a8 ?_;refine ag (ad.call .k (p9 k i aa)) ?_;refine aH ?_;refine bc (λae=>?_) (λae=>?_)
  ·have N:k.testBit i=false:=by revert ae;cases k.testBit i <;> simp
   refine a8 ?_;exact aU (⟨i+1,by rw[aiP N, <-L],rfl,aa,aa⟩)
  ·have N:k.testBit i=true:=by revert ae;cases k.testBit i <;> simp
   have w:=o.bX n C;have T:bf p (GT.ku i to (G.bX n (2^to))).t:=Jc w i l m;have Q:∀j,bf p (((cw p to).take j).foldl (λg s=>if dK p i s then g else GT.begin p to g s) (GT.ku i to (G.bX n (2^to)))).t:=λj=>hX _ T λg s _ h=>mr (λ_=>h) (λ_=>vG h to s);have gJ:=o.nl;obtain⟨X,U⟩:=hW.1 (o.nb _ (bH (k:=n) aa));have a0:=jB F U;refine aH ?_;refine b0 17 81 ?_;refine bS ?_;refine bh (ad.dX rfl rfl rfl rfl rfl (gT (i:=n) aa) ⟨aa,aa⟩) ?_;refine bh (ad.le (ad.gm rfl rfl rfl (gT (i:=n) aa) (hN aa)) (aq.b6 X)) ?_;refine aR ?_;refine bh (ad.shift rfl rfl rfl rfl rfl aa (ml to ⟨aa,aa⟩)) ?_;refine bh (ad.bits rfl rfl rfl rfl rfl (kt _ (2^to) aa aa)) ?_;refine aQ ?_;refine ag (ad.dX rfl rfl rfl rfl rfl (gT (i:=n) aa) ⟨aa,aa⟩) ?_;refine A8 (x:=2^to) rfl rfl rfl rfl rfl rfl rfl aa rfl ?_;refine aP ?_;refine cI .k ((aiK K J w l m).b) ?_;rintro _ _ ⟨rfl,rfl⟩;refine a8 ?_;refine ag (ad.call .k (H7 K H M W)) ?_;refine a8 ?_;refine bm (λz O=>∃j:Nat,O=⟨[(11,.i j),(10,ab.ints (cw p to)),(9,.i i),(8,.ptr (cB (bR p))),(3,.i to),(2,.i k),(1,.i n),(0,.p q.bz 0)],cT p A q (((cw p to).take j).foldl (λg s=>if dK p i s then g else GT.begin p to g s) (GT.ku i to (G.bX n (2^to)))) Hx⟩/\z=(cw p to).length - j/\j<=(cw p to).length) (⟨0,rfl,rfl,aa⟩) ?_;rintro z _ ⟨j,rfl,rfl,cp⟩;refine a8 ?_;refine az (λak=>?_) λak=>?_
   ·have a:j<(cw p to).length:=by omega
    have E:=bH a;have R:=Ju D E;have B:=xP (f:=(λg s=>if dK p i s then g else GT.begin p to g s)) a (GT.ku i to (G.bX n (2^to)));refine aS ?_;refine b0 6 81 ?_;refine aJ ?_;refine ag (ad.call .k (DL H (c:=i) S R.1)) ?_;refine aH ?_;refine bc (λaL=>?_) (λaL=>?_)
    ·have v:dK p i ((cw p to).getD j default)=false:=by revert aL;cases dK p i ((cw p to).getD j default) <;> simp
     refine aP ?_;refine cI .k ((T3 K J (Q j) D E).b) ?_;rintro _ _ ⟨rfl,rfl⟩;refine aJ ?_;exact aU (⟨j+1,by rw[B,if_neg (by rw[v];decide)],rfl,a⟩)
    ·have v:dK p i ((cw p to).getD j default)=true:=by revert aL;cases dK p i ((cw p to).getD j default) <;> simp
     refine aJ ?_;exact aU (⟨j+1,by rw[B,if_pos v],rfl,a⟩)
   ·obtain rfl:j=(cw p to).length:=by omega
    rw[List.take_length];refine bA ?_;exact aU (⟨i+1,by rw[aiO N, <-L,jj,if_neg aa,P],rfl,aa,aa⟩)
 ·obtain rfl:i=aG p:=by omega
  rw[aiN Y F];refine aV ?_;refine gQ [] (cT p A q (ps p n to k g) Hx) ?_;exact⟨rfl,rfl⟩
section
variable{p:Prog}{A:List cY}{q:gB}{g:GT}{Hx:aC}
def T6(a1:jo p q)(h:bf p g.t){I J}{w}(N:er I w J w)(m:∀t v (E:bl),.row t 1 v E.length E∈cT p A q g []->Rel J w (.aj 1 (E.map λx=>[x])) v){u}(U:Rel I w (.agg [.val q.dh,.aj 1 (q.vs.map λv=>[.val v]),.val q.cZ,.val q.cV]) u):Rel J w (ab.dI g.t) u:=by
 have P:Rel J w (ab.dy g.t.bC) q.dh:=by
  by_cases j:g.t.bC= []
  ·obtain⟨a,c,e⟩:=a1.rq (by rw[<-h.hp,j];rfl);rw[e,j];exact .dQ _ _ _
  ·exact EF (m 4 _ (g.t.bC.map .b) (by rw[List.length_map];exact v8 (i:=0) (List.length_pos_iff.2 j)))
 have G:∀{v:Value} {l:al},l≠ []->.row 3 1 v l.length (l.map .i)∈cT p A q g []->Rel J w (.ints l) v:=λbq O=>EF (m 3 _ _ (by rw[List.length_map];exact O));have R:Rel J w (.ints g.t.nodes) q.cZ:=by
  have j:g.t.nodes≠ []:=λe=>by have:=h.nl;rw[e] at this;have:=AD a1.aD;simp at*;omega
  exact G j (gT (i:=0) (List.length_pos_iff.2 j))
 have T:Rel J w (.ints g.t.aw) q.cV:=by
  by_cases j:g.t.aw= []
  ·obtain⟨a,c,e⟩:=a1.qf (by have:=h.aj;rw[j] at this;simpa using this.symm);rw[e,j];exact .dQ _ _ _
  ·exact G j (lz (i:=0) (List.length_pos_iff.2 j))
 cases U with
 | agg _ C f=>
  refine .agg _ _ ?_;generalize C.toList=l at f;cases f with | cons _ a _ l V f=>cases f with | cons _ b _ l Q f=>cases f with | cons _ c _ l L f=>cases f with | cons _ d _ l M f=>
   cases f;rw[bZ V,bZ L,bZ M];refine .cons _ _ _ _ P (.cons _ _ _ _ ?_ (.cons _ _ _ _ R (.cons _ _ _ _ T .nil)));refine (Q.bw N).CG Fb λi x y r B=>?_;rw[List.getElem?_map] at r B;cases aN:g.t.params[i]? with
   | none=>rw[aN] at B;cases B
   | some l=>
    have s:=(List.getElem?_eq_some_iff.1 aN).1;have j:g.t.params.getD i default=l:=by rw[List.getD_eq_getElem?_getD,aN];rfl
    cases bd:q.vs[i]? with
    | none=>rw[bd] at r;cases r
    | some v=>
     have H:q.vs.getD i default=v:=by rw[List.getD_eq_getElem?_getD,bd];rfl
     rw[aN] at B;rw[bd] at r;cases r;cases B;refine⟨rfl,λb o K=>?_⟩;cases K with
     | cons _ _ _ c _ D F r S=>
      refine .cons _ _ _ c _ D F ?_ (by cases S;exact .nil _ _);rw[bZ r];have z:=ua a1.aD h (k:=i) (by rw[<-h.pl];exact s);have:=G z (qq (p:=p) (A:=A) (q:=q) (g:=g) (Hx:=[]) (i:=0) s (List.length_pos_iff.2 z));rw[j,H] at this;exact this
def T7{e}(h:e∈cT p A q g []):e∈cT p A q g Hx:=by
 have h:e∈ly p q A::(iu q g.t++[]):=h;rw[List.append_nil] at h;rcases List.mem_cons.1 h with rfl | h
 ·exact .head _
 ·exact .tail _ (List.mem_append_left _ h)
def fq.aiR(z:jo p q)(h:bf p g.t){pre post}:fq (cT p A q g Hx) (pre++.agg [.val q.dh,.aj 1 (q.vs.map λv=>[.val v]),.val q.cZ,.val q.cV]::post) (pre++ab.dI g.t::post):=by
 intro B I w H E c s r x;have a:er I w (kY w) w:=⟨λb o m=>c.there b o m,λ_ _ _=>rfl⟩;refine⟨kY w,λ_ _ h=>h,?_⟩;obtain⟨G,C,rfl,aB,f⟩:=x.qP;cases f with
 | cons _ u _ C l j=>
  refine (aB.bw a).append (.cons _ _ _ _ ?_ (j.bw a));exact T6 (A:=A) z h a (λt v F D=>Jp c (s.ok _ (r _ (T7 D)))) l
end
structure wa(p:Prog)(A:List cY):Prop where
 len:A.length=p.methods.length
 rows:∀m,m<p.methods.length->(A.getD m default).length=p.methods.length
 val:∀m o,m<p.methods.length->o<p.methods.length->(cC p m).gen=(cC p o).gen->(cC p m).kind=(cC p o).kind->(A.getD m default).getD o default=bk p m o
def aiS(f:wa p A){n m o}(hm:m<p.methods.length)(c:o<p.methods.length)(g):jZ p (λm o=>(A.getD m default).getD o default) n m g o=jZ p (bk p) n m g o:=by
 unfold jZ;simp only;cases ae:(p.methods.getD o default).gen==(p.methods.getD m default).gen with
 | false=>simp
 | true=>
  cases ak:(p.methods.getD o default).kind==(p.methods.getD m default).kind with
  | false=>simp
  | true=>simp only[f.val m o hm c (beq_iff_eq.1 ae).symm (beq_iff_eq.1 ak).symm]
def aI.aiT{P}{f}{xs}{y y'}(h:aI P f xs y)(a:aq y y'):aI P f xs y':=λH=>
 bP.pS (h H) λ_ _ ⟨c,bJ⟩ B I w v hw aW bK=>by
  subst c;exact⟨I,y',_,hw,.refl _ _ _,aW,a _ _ _ bK,rfl,bJ⟩
def aiU(a b):aq (.bj [.b a,.b b]) (.val (.tuple #[.bool a,.bool b])):=λI w v h=>by
 cases h with
 | bj _ j c=>
  cases j with | mk l=>
  cases c with | cons _ _ _ _ g c=>cases c with | cons _ _ _ _ f c=>cases c;rw[bZ g,bZ f];exact .val _
def aiV(a b):aq (.val (.tuple #[.bool a,.bool b])) (.bj [.b a,.b b]):=λI w v h=>by
 rw[bZ h];exact .bj _ _ XY
def aiW{AA:List cY}{g:gB}{O:GT}{t:cv}(ht:t=O.t)(o:jo p g)(P:bf p O.t)(T:(bu p).isSome)(b4:ln p t)(Y:(t.aw.length:Int)=p.aw){kinds:al}(Q:∀k∈kinds,cq (aG p) k=true)(a2:kinds.length<=3){f:Fact}(z:∀x∈eb kinds,ib p x f):hS prog (cT p AA g O []) 212 [ab.world (bR p),.agg [.val g.dh,.aj 1 (g.vs.map λv=>[ab.val v]),.val g.cZ,.val g.cV],ab.fact f,ab.ints kinds,ab.bp (eb kinds)] (.bj [ab.ints (hl (hd p t f kinds) kinds.length),.b (!(hd p t f kinds).isEmpty)]):=by
 intro H Z;refine aM (n:=63) func212 λB I bN=>?_;have a0:=mm T;have a4:=oA T;obtain⟨L,J⟩:∃L,L=eb kinds:=⟨_,rfl⟩;rw[<-J] at z ⊢;refine aA.ez (t:=4) rfl (λZf=>?_);refine aH ?_;refine ag (ad.BX rfl rfl rfl (by simp[List.all_cons,fa,o.rr,o.sL,o.oF,o.m2])) ?_;refine a8 ?_;refine ai.pR (kinds.length) rfl rfl rfl rfl rfl rfl rfl rfl (rfl) aa ia (λcR=>?_);refine dW ?_;rw[IW];refine bm (λq N=>∃i:Nat,N=⟨[(13,.b (!((L.take i).filter (λl=>(cX p t l f).1)).isEmpty)),(14,.i i),(12,fA cR kinds.length),(3,ab.ints kinds),(4,ab.bp L),(5,.ptr (cB (bR p))),(6,.ptr [.val g.dh,.aj 1 (g.vs.map λv=>[ab.val v]),.val g.cZ,.val g.cV]),(7,.ptr (fy f))],e1 cR (hl ((L.take i).filter (λl=>(cX p t l f).1)) kinds.length)::H⟩/\q=L.length - i/\i<=L.length) (⟨0,rfl,rfl,aa⟩) ?_;rintro q _ ⟨i,rfl,rfl,aN⟩;refine a8 ?_;refine az (λaf=>?_) λaf=>?_
 ·have r:i<L.length:=by omega
  obtain⟨x,B⟩:∃x,x=L.getD i default:=⟨_,rfl⟩;have F:x∈L:=B▸bH r;have E:x∈eb kinds:=J▸F;obtain⟨a3,U⟩:=nd E;have C:=qa Q E;obtain⟨A,s⟩:∃A,A=((L.take i).filter (λl=>(cX p t l f).1)):=⟨_,rfl⟩;rw[<-s];have w:∀y∈A,y∈eb kinds:=λy hy=>by rw[s] at hy;exact J▸List.mem_of_mem_take (List.mem_filter.1 hy).1
  have W:(cX p t x f).1=true->(L.take (i+1)).filter (λl=>(cX p t l f).1)=A++[x]:=λh=>by rw[<-c3 r, <-B,xh (q:=(λl=>(cX p t l f).1)) h, <-s]
  have V:(cX p t x f).1=false->(L.take (i+1)).filter (λl=>(cX p t l f).1)=A:=λh=>by rw[<-c3 r, <-B,xi (q:=(λl=>(cX p t l f).1)) h, <-s]
  refine aS ?_;refine b0 7 63 ?_;refine ay ?_;refine bh (ad.le (ad.cE rfl rfl rfl rfl) (by rw[<-B];exact aq.refl _)) ?_;refine aQ ?_;refine ag (ad.le (ad.qO .k (fq.mono (fq.aiR (A:=AA) (Hx:=[]) o P (pre:=[ab.world (bR p)]) (post:=[ab.fact f,ab.ints x])) (λe K=>.tail _ (Z e K))) (aI.aiT (by rw[<-ht];exact QW T b4 Y C _ (z x F)) (aiU _ _))) (aiV _ _)) ?_;refine ay ?_;refine bW.dk 9 12 63 rfl ao rfl rfl ao ?_;refine di ?_;refine bc (λae=>?_) (λae=>?_)
  ·have ae:(cX p t x f).1=true:=ae;refine bA ?_;rw[<-IK A x];refine bm (λq N=>∃j:Nat,N=⟨[(17,.i j),(13,.b true),(14,.i i),(12,fA cR kinds.length),(3,ab.ints kinds),(4,ab.bp L),(5,.ptr (cB (bR p))),(6,.ptr [.val g.dh,.aj 1 (g.vs.map λv=>[ab.val v]),.val g.cZ,.val g.cV]),(7,.ptr (fy f))],e1 cR (mW A x kinds.length j)::H⟩/\q=kinds.length - j/\j<=kinds.length) (⟨0,rfl,rfl,aa⟩) ?_;rintro q _ ⟨j,rfl,rfl,cp⟩;refine a8 ?_;refine az (λak=>?_) λak=>?_
   ·have dz:j<kinds.length:=by omega
    obtain⟨c,X,_⟩:=U j dz;have S:=C _ (bH (l:=x) (k:=j) aa);rw[X] at S;have bI:lV A j<2^62:=IJ (m:=aG p) aa A (λy hy=>by have M:=(nd (w y hy)).1;have dF:=qa Q (w y hy) _ (bH (l:=y) (k:=j) aa);omega) (λy hy=>by have M:=(nd (w y hy)).1;have dF:=qa Q (w y hy) _ (bH (l:=y) (k:=j) aa);omega);have wo:=IN (L:=A) (x:=x) dz;rw[X] at wo;refine aV ?_;refine b0 15 63 ?_;refine aV ?_;refine bh (ad.gX rfl rfl rfl rfl rfl aa) ?_;refine bh (ad.le EW (aq.b6 (IM dz))) ?_;refine aH ?_;refine bh (ad.le (ad.cE rfl rfl rfl rfl) (by rw[<-B];exact aq.refl _)) ?_;refine aQ ?_;refine bh (ad.le (ad.cE rfl rfl rfl rfl) (aq.b6 X)) ?_;refine bh (ad.shift rfl rfl rfl rfl rfl aa (ml c ⟨aa,aa⟩)) ?_;refine bh (ad.bits rfl rfl rfl rfl rfl (kt _ _ aa (Nat.pow_lt_pow_right (a:=2) (n:=63) c8 aa))) ?_;refine aQ ?_;refine ag (ad.gX rfl rfl rfl rfl rfl aa) ?_;apply ai.gb rfl rfl rfl rfl rfl rfl rfl rfl rfl rfl
    (case hu=>repeat (first | exact bG.head _ _ _ | apply bG.tail));(case hfit=>simp[yk];omega);(case hds=>exact (ints_set Fa _).trans E6)
    refine aJ ?_;exact aU (⟨j+1,rfl,rfl,dz⟩)
   ·obtain rfl:j=kinds.length:=by omega
    rw[IL];refine bA ?_;exact aU (⟨i+1,by rw[W ae,show (!(A++[x]).isEmpty)=true by simp],rfl,r⟩)
  ·have ae:(cX p t x f).1=false:=ae;refine aJ ?_;exact aU (⟨i+1,by rw[V ae],rfl,r⟩)
 ·obtain rfl:i=L.length:=by omega
  rw[List.take_length];have R:L.filter (λl=>(cX p t l f).1)=hd p t f kinds:=by rw[J];rfl
  rw[R];refine ay ?_;rw[DO cR cR (hl (hd p t f kinds) kinds.length) 0];refine aA.oW (d:=12) (k:=1) rfl (fV.head _ _) (by rw[List.length_map];simp[hl]) (λe K=>by obtain⟨y,_,rfl⟩:=List.mem_map.1 K;rfl) (Nat.le_refl _) ia ?_;refine aJ ?_;refine dM [.tmp 10,.tmp 11] (H) ?_;exact⟨cM,rfl⟩
def aiX(T:p.Small){AA}{c}{B}{t}(ht:t=B.t)(a:jo p c)(C:bf p B.t)(o:(bu p).isSome)(Q:ln p t)(D:(t.aw.length:Int)=p.aw){gen}{kinds}(K:∀k∈kinds,cq (aG p) k=true)(lU:(kinds.length:Int)=gg p gen)(z:kinds.length<=3):hS prog (cT p AA c B []) 193 [ab.prog p,.agg [.val c.dh,.aj 1 (c.vs.map λv=>[.val v]),.val c.cZ,.val c.cV],.i gen,.ints kinds] (.bj [.ints ((eK p t gen kinds).map (·.1)),.bp ((eK p t gen kinds).map (·.2))]):=by
 intro H F;refine aM func193 λB I W=>?_;have gk:=jY o;refine aH ?_;refine ag (.BX rfl rfl rfl (by simp[List.all_cons,fa,a.rr,a.sL,a.oF,a.m2])) ?_;refine gv ?_;refine ag (.call .k (vr T o)) ?_;refine aR ?_;refine ag (.call .k (Ra o K z)) ?_;refine bT (λda=>?_);refine ay ?_;refine eB 12 ?_;refine aS ?_;refine hi 10 3 1 ?_;refine hi 11 23 1 ?_;refine bm (λq P=>∃(m:Nat) (j s:Value),P=⟨[(14,.i m),(13,.bp (eb kinds)),(12,.ptr (cB (bR p))),(10,.as (.ints ((h8 p t gen kinds m).map (·.1))) j),(11,.as (.bp ((h8 p t gen kinds m).map (·.2))) s),(2,.i gen),(3,.ints kinds),(4,.ptr (cH p)),(5,.ptr [.val c.dh,.aj 1 (c.vs.map λv=>[.val v]),.val c.cZ,.val c.cV])],.own 23 1 s::.own 3 1 j::H⟩/\q=p.methods.length - m/\m<=p.methods.length) ⟨0,_,_,rfl,rfl,aa⟩ ?_;rintro q _ ⟨m,j,s,rfl,rfl,V⟩;refine bQ ?_;refine az (λaf=>?_) λaf=>?_
 ·have h:m<p.methods.length:=by omega
  obtain⟨M,c4⟩:∃M,M=p.methods.getD m default:=iZ;have r:=IQ (p:=p) (t:=t) (gen:=gen) (kinds:=kinds) (m:=m);have f:=IS (p:=p) (t:=t) (gen:=gen) (kinds:=kinds) (m:=m);have g:=IT (p:=p) (t:=t) (gen:=gen) (kinds:=kinds) (m:=m);rw[<-c4] at r f g;refine bS ?_;refine ag (ad.le (ad.cE rfl rfl rfl rfl) (aq.b6 (by rw[<-c4]))) ?_;refine aV ?_;refine az (λae=>?_) λae=>?_
  ·refine a8 ?_;exact aU (⟨m+1,j,s,by rw[r ae],rfl,h⟩)
  ·have A:∀x∈eb kinds,ib p x M.fact:=λx aK=>by
    have E:iO p (m:Int)=true:=by unfold iO;simp;omega
    have N:=xD o E (l:=x) E3;rw[show ((m:Int)).toNat=m from rfl, <-c4] at N;exact N
   obtain⟨G,U⟩:∃G,G=hl (hd p t M.fact kinds) kinds.length:=⟨_,rfl⟩;have w:=aiW (AA:=AA) ht a C o Q D K z A;rw[<-U] at g w;refine aH ?_;refine b0 10 61 ?_;refine aP ?_;refine bh (ad.le (ad.qv rfl rfl rfl rfl) (show aq _ (ab.fact M.fact) by rw[c4];exact aq.refl _)) ?_;refine aV ?_;refine ag (ad.h2 .k (c5.refl _) w (λe O=>.tail _ (.tail _ (F e O)))) ?_;refine ay ?_;refine bW.dk 12 15 61 rfl ao rfl rfl ao ?_;refine di ?_;refine bc (λak=>?_) (λak=>?_)
   ·have J:hd p t M.fact kinds≠ []:=λe=>by rw[e] at ak;simp at ak
    refine aV ?_;refine ai.cc (x:=.aj 1 [[.i (m:Int)]]) rfl rfl rfl (ad.row rfl rfl cD rfl rfl rfl rfl rfl rfl) ?_;refine ai.dJ rfl rfl rfl rfl rfl rfl rfl rfl (aq.refl _) (rfl) (λ_=>dt) s3 s3 (λEI=>?_);refine ay ?_;refine ai.cc (x:=.aj 1 [[ab.ints G]]) rfl rfl rfl (ad.row rfl rfl cD rfl rfl rfl rfl rfl rfl) ?_;refine ai.dJ rfl rfl rfl rfl rfl rfl rfl rfl (aq.refl _) (rfl) (λ_=>dt) s3 s3 (λaiY=>?_);refine a8 ?_;exact aU (⟨m+1,EI,aiY,by rw[g ae J,IU,IV],rfl,h⟩)
   ·have J:hd p t M.fact kinds= []:=by simpa using ak
    refine aJ ?_;exact aU (⟨m+1,j,s,by rw[f J],rfl,h⟩)
 ·obtain rfl:m=p.methods.length:=by omega
  refine c6 ?_;refine aZ.cl (rs:=[.tmp 8,.tmp 9]) (H':=H) rfl (.tmp rfl (.tmp rfl (.nil))) (.cons (aq.eY _ _) (.cons (aq.eY _ _) .nil)) bE ?_;exact⟨cM,rfl⟩
def aiZ(bV:p.Small)(a1:jo p q)(h:bf p g.t){n:Nat}(hn:n<p.nodes.length){gen:Int}{kids:al}(Q:∀k∈kids,0<=k/\k<p.nodes.length)(fw:(kids.length:Int)=gg p gen)(B3:kids.length<=3):bP prog 158 [.p q.bz 0,.i (n:Int),.i gen,ab.ints kids] (cT p A q g Hx) (λr H1=>r= .bj []/\H1=cT p A q (sH p n gen (kids.map λk=>g.t.nodes.getD k.toNat default) g) Hx) (λ_ _=>False):=by
 refine aM (n:=143) func158 λB I bN=>?_;have W:=a1.aD;have U:=a1.many;have S:=h.nl;have yI:=h.aj;have T:=h.pl;have iy:=h.hp;obtain⟨a,c⟩:∃a,a=(kids.map λk=>g.t.nodes.getD k.toNat default):=⟨_,rfl⟩;rw[<-c];have s:∀k∈a,cq (aG p) k=true:=λk bD=>by
  rw[c] at bD;obtain⟨x,aK,rfl⟩:=List.mem_map.1 bD;exact xM h (Q x aK)
 have a5:(a.length:Int)=gg p gen:=by rw[c,List.length_map];exact fw
 have am:a.length=kids.length:=by rw[c,List.length_map]
 have ah:=jY W;have aeD:(eK p g.t gen a).length<=p.methods.length:=Bh (p:=p) (t:=g.t) (gen:=gen) (kinds:=a) p.methods.length;have a9:∀i,bf p (((eK p g.t gen a).take i).foldl (m0 p n) g).t:=λi=>hX _ h λg x aK h=>Jg h n (xL s x (List.mem_of_mem_take aK)).2.2;refine bS ?_;refine hi 8 3 1 ?_;refine bm (λz N=>∃(i:Nat) (v:Value),N=⟨[(9,.i i),(8,.as (ab.ints (a.take i)) v),(3,ab.ints kids),(2,.i gen),(1,.i n),(0,.p q.bz 0)],.own 3 1 v::cT p A q g Hx⟩/\z=a.length - i/\i<=a.length) (⟨0,_,rfl,rfl,aa⟩) ?_;rintro z _ ⟨i,v,rfl,rfl,aN⟩;refine a8 ?_;refine az (λaf=>?_) λaf=>?_
 ·have bF:i<kids.length:=by omega
  have gH:=Q _ (bH bF);have a4:a.getD i default=g.t.nodes.getD (kids.getD i default).toNat default:=by rw[c,sY bF]
  have Y:=c3 (l:=a) (k:=i) aa;refine aV ?_;refine b0 13 143 ?_;refine bQ ?_;refine bh (ad.dX rfl rfl rfl rfl rfl (.tail _ (gT (i:=(kids.getD i default).toNat) aa)) ⟨aa,aa⟩) ?_;refine bh (ad.gm rfl rfl rfl (.tail _ (gT (i:=(kids.getD i default).toNat) aa)) (hN aa)) ?_;refine ed.cc (x:=.aj 1 [[.i (g.t.nodes.getD (kids.getD i default).toNat default)]]) rfl rfl rfl (ad.row rfl rfl cD rfl rfl rfl rfl rfl rfl) ?_;refine aQ ?_;refine ai.dJ rfl rfl rfl rfl rfl rfl rfl rfl (aq.refl _) (rfl) (λ_=>dt) cF cF (λHN=>?_);refine a8 ?_;exact aU (⟨i+1,HN,by rw[<-Y,ab.ints,List.map_append,a4],rfl,aa⟩)
 ·obtain rfl:i=a.length:=by omega
  rw[List.take_length];refine ay ?_;refine aA.le 8 (y:=ab.ints a) rfl (aq.eY _ _) ?_;refine aA.weaken (st':=⟨[(8,ab.ints a),(3,ab.ints kids),(2,.i gen),(1,.i n),(0,.p q.bz 0)],cT p A q g Hx⟩) h1 (List.sublist_cons_self _ _) ?_;refine b0 10 143 ?_;refine bS ?_;refine ag (ad.h2 .k (c5.refl _) (aiX (AA:=A) bV rfl a1 h W h.fg h.aj s a5 aa) (λe he=>T7 he)) ?_;refine ay ?_;refine bW.dk 12 15 143 rfl ao rfl rfl ao ?_;refine c6 ?_;refine bm (λz N=>∃i:Nat,N=⟨[(12,.i i),(11,ab.bp ((eK p g.t gen a).map (·.2))),(10,ab.ints ((eK p g.t gen a).map (·.1))),(8,ab.ints a),(3,ab.ints kids),(2,.i gen),(1,.i n),(0,.p q.bz 0)],cT p A q (((eK p g.t gen a).take i).foldl (m0 p n) g) Hx⟩/\z=(eK p g.t gen a).length - i/\i<=(eK p g.t gen a).length) (⟨0,rfl,rfl,aa⟩) ?_;rintro z _ ⟨i,rfl,rfl,aN⟩;refine aS ?_;refine ag (ad.le (ad.qy rfl rfl rfl) (aq.b6 (by rw[List.length_map]))) ?_;refine aH ?_;refine az (λae=>?_) λae=>?_
  ·have bF:i<(eK p g.t gen a).length:=by omega
   obtain⟨X,V⟩:∃X,X=((eK p g.t gen a).getD i default):=⟨_,rfl⟩;obtain⟨⟨dU,Z,P⟩,a3,w⟩:=xL (t:=g.t) (gen:=gen) s _ (bH bF);rw[<-V] at dU Z P a3 w;obtain⟨M,c4⟩:∃M,M=X.1.toNat:=⟨_,rfl⟩;have a2:X.1=(M:Int):=by omega
   have rK:M<p.methods.length:=by omega
   have R:(p.methods.getD M default).gen=gen:=by rw[c4];exact P
   obtain⟨G,fb⟩:∃G,G=(((eK p g.t gen a).take i).foldl (m0 p n) g):=⟨_,rfl⟩;have J:=a9 i;rw[<-fb] at J;have E:=xP (f:=m0 p n) bF g;rw[<-fb, <-V] at E;have B:m0 p n G X=if sG (p.methods.getD M default)=true then (nL M X.2 (G.reach M)).bX n ((nL M X.2 (G.reach M)).t.nodes.getD (p.methods.getD M default).node.toNat default).toNat else (nL M X.2 (G.reach M)):=by rw[c4];rfl
   rw[<-fb];have iy:=J.hp;have hR:=J.reach M;have m:∀j,bf p ((List.range j).foldl (λg k=>g.im M k (X.2.getD k default).toNat) (G.reach M)).t:=λj=>hX _ hR λg k _ h=>h.im M k (mq w k);have o:bf p (nL M X.2 (G.reach M)).t:=m _;have S:=o.nl;have hQ:0<=(p.methods.getD M default).node/\(p.methods.getD M default).node<p.nodes.length:=EC a1.aD rK;have H:=ED o hQ;have bI:∀j,(((List.range j).foldl (λg k=>g.im M k (X.2.getD k default).toNat) (G.reach M)).t.params.getD M default).length=X.2.length:=λj=>by have:=Ki (m j) rK R;omega
   have T:∀j,((List.range j).foldl (λg k=>g.im M k (X.2.getD k default).toNat) (G.reach M)).t.params.length=p.methods.length:=λj=>(m j).pl;have Cn:X.2.length<=3:=by omega
   refine aJ ?_;refine ag (uk) ?_;refine ag (ad.le (ad.cE rfl rfl rfl rfl) (aq.b6 (show _=(M:Int) by rw[sY bF, <-V,a2]))) ?_;refine bA ?_;refine ag (ad.dX rfl rfl rfl rfl rfl (v8 (i:=M) aa) ⟨aa,aa⟩) ?_;refine aiw (i:=M) rfl rfl rfl rfl rfl rfl rfl aa ?_;refine a8 ?_;refine bm (λz N=>∃j:Nat,N=⟨[(14,.i j),(13,.i (M:Int)),(12,.i i),(11,ab.bp ((eK p g.t gen a).map (·.2))),(10,ab.ints ((eK p g.t gen a).map (·.1))),(8,ab.ints a),(3,ab.ints kids),(2,.i gen),(1,.i n),(0,.p q.bz 0)],cT p A q ((List.range j).foldl (λg k=>g.im M k (X.2.getD k default).toNat) (G.reach M)) Hx⟩/\z=X.2.length - j/\j<=X.2.length) (⟨0,rfl,rfl,aa⟩) ?_;rintro z _ ⟨j,rfl,rfl,cp⟩;refine a8 ?_;refine az (λak=>?_) λak=>?_
   ·have L:j<X.2.length:=by omega
    have O:=hW.1 (w _ (bH L));have qH:=bI j;have ac:=T j;obtain⟨K,D⟩:=hW.1 ((m j).ks _ (bH (k:=M) aa) _ (bH (k:=j) aa));have a0:=jB U D;have ap:=jB U O.2;refine aV ?_;refine b0 28 143 ?_;refine ay ?_;refine bh (EY) ?_;refine aJ ?_;refine bh (EY) ?_;refine aQ ?_;refine bh (ad.dX rfl rfl rfl rfl rfl (qq (k:=M) (i:=j) aa aa) ⟨aa,aa⟩) ?_;refine bh (ad.le (ad.gm rfl rfl rfl (qq (k:=M) (i:=j) aa aa) (hN aa)) (aq.b6 K)) ?_;refine aQ ?_;refine bh (uk) ?_;refine bh (ad.le (ad.cE rfl rfl rfl rfl) (by rw[sY bF, <-V];exact aq.refl _)) ?_;refine aQ ?_;refine bh (ad.le (ad.cE rfl rfl rfl rfl) (aq.b6 O.1)) ?_;refine bh (ad.bits rfl rfl rfl rfl rfl (kt _ _ aa aa)) ?_;refine aQ ?_;refine ag (ad.dX rfl rfl rfl rfl rfl (qq (k:=M) (i:=j) aa aa) ⟨aa,aa⟩) ?_;refine T1 (k:=M) (x:=(X.2.getD j default).toNat) rfl rfl rfl rfl rfl rfl rfl aa aa rfl ?_;refine aJ ?_;exact aU (⟨j+1,by rw[lO],rfl,L⟩)
   ·obtain rfl:j=X.2.length:=by omega
    have gJ:((List.range X.2.length).foldl (λg k=>g.im M k (X.2.getD k default).toNat) (G.reach M))=(nL M X.2 (G.reach M)):=rfl;rw[gJ];obtain⟨F,hF⟩:∃F,F=(nL M X.2 (G.reach M)):=⟨_,rfl⟩;rw[<-hF] at B o S H ⊢;obtain⟨K,D⟩:=hW.1 (o.nb _ (bH (k:=n) aa));have a0:=jB U D;have pL:=jB U H.2;refine iB ?_;refine ag (ad.call .k ((HW _))) ?_;refine aQ ?_;refine bc (λaL=>?_) (λaL=>?_)
    ·have C:sG (p.methods.getD M default)=true:=aL;refine b0 31 143 ?_;refine bS ?_;refine bh (ad.dX rfl rfl rfl rfl rfl (gT (i:=n) aa) ⟨aa,aa⟩) ?_;refine bh (ad.le (ad.gm rfl rfl rfl (gT (i:=n) aa) (hN aa)) (aq.b6 K)) ?_;refine c6 ?_;refine bh (ad.dX rfl rfl rfl rfl rfl (gT (i:=(p.methods.getD M default).node.toNat) aa) ⟨aa,aa⟩) ?_;refine bh (ad.le (ad.gm rfl rfl rfl (gT (i:=(p.methods.getD M default).node.toNat) aa) (hN aa)) (aq.b6 H.1)) ?_;refine bh (ad.bits rfl rfl rfl rfl rfl (kt _ _ aa aa)) ?_;refine aQ ?_;refine ag (ad.dX rfl rfl rfl rfl rfl (gT (i:=n) aa) ⟨aa,aa⟩) ?_;refine A8 (x:=(F.t.nodes.getD (p.methods.getD M default).node.toNat default).toNat) rfl rfl rfl rfl rfl rfl rfl aa rfl ?_;refine aJ ?_;exact aU (⟨i+1,by rw[E,B,if_pos C],rfl,bF⟩)
    ·have C:sG (p.methods.getD M default)=false:=aL;refine aJ ?_;exact aU (⟨i+1,by rw[E,B,if_neg (by rw[C];decide)],rfl,bF⟩)
  ·obtain rfl:i=(eK p g.t gen a).length:=by omega
   rw[List.take_length];refine aV ?_;refine gQ [] (cT p A q (sH p n gen a g) Hx) ?_;exact⟨rfl,rfl⟩
def T8{ah}{n m o}(f:(bif !(g.t.bC.getD o default) then true else ((cC p o).gen !=(cC p m).gen))=false){B}(c:(bif (bif (cC p o).kind==(cC p m).kind then ah m o else false) then true else (bif (cC p m).kind==4 then (cC p o).kind==1 else false))=B):jZ p ah n m g o=if B=true then g.bX n (g.t.nodes.getD (cC p o).node.toNat default).toNat else g:=by
 refine Kg f ?_;rw[<-c];cases (cC p o).kind==(cC p m).kind <;> rfl
def ai0(bV:p.Small)(a1:jo p q)(h:bf p g.t){n k:Nat}(hn:n<p.nodes.length)(bD:k<p.methods.length)(df:wa p A):bP prog 159 [.p q.bz 0,.i (n:Int),.i (k:Int)] (cT p A q g Hx) (λr H1=>r= .bj []/\H1=cT p A q (sI p (bk p) n k g) Hx) (λ_ _=>False):=by
 refine aM (n:=103) func159 λB I bN=>?_;have aD:=a1.aD;have hm:=a1.many;have Av:=h.nl;have nG:=h.aj;have p6:=h.pl;have ahS:=h.hp;have gk:=jY aD;have ai1:∀i,bf p ((List.range i).foldl (jZ p (bk p) n k) g).t:=λi=>Tz h (bk p) n k i;refine bQ ?_;refine ai.qL rfl rfl rfl rfl (λbt=>?_);refine aV ?_;refine aA.nr (d:=6) rfl na ?_;refine aS ?_;refine bm (λz st=>∃i:Nat,st=⟨[(7,.i i),(6,.ptr (eS (cC p k))),(2,.i k),(1,.i n),(0,.p q.bz 0)],cT p A q ((List.range i).foldl (jZ p (bk p) n k) g) Hx⟩/\z=p.methods.length - i/\i<=p.methods.length) (⟨0,rfl,rfl,aa⟩) ?_;rintro z _ ⟨i,rfl,rfl,aN⟩;refine di ?_;refine az (λaf=>?_) λaf=>?_
 ·have bF:i<p.methods.length:=by omega
  obtain⟨G,fb⟩:∃G,G=((List.range i).foldl (jZ p (bk p) n k) g):=⟨_,rfl⟩;have Ba:=ai1 i;rw[<-fb] at Ba;have kc:=lO (f:=jZ p (bk p) n k) i g;rw[<-fb] at kc;rw[<-fb];have alU:=Ba.hp;have acR:=Ba.nl;have Ka:0<=(p.methods.getD i default).node/\(p.methods.getD i default).node<p.nodes.length:=EC aD bF;have CI:=ED Ba Ka;obtain⟨D8,lH⟩:=hW.1 (Ba.nb _ (bH (k:=n) aa));have mX:=jB hm lH;have alV:=jB hm CI.2;have T9:=aiS df (n:=n) bD bF G;refine c6 ?_;refine ai.qL rfl rfl rfl rfl (λxI=>?_);refine aS ?_;refine aA.nr (d:=8) rfl na ?_;refine aP ?_;refine ag (ad.dX rfl rfl rfl rfl rfl (v8 (i:=i) aa) ⟨aa,aa⟩) ?_;refine ag (ad.gm rfl rfl rfl (v8 (i:=i) aa) (x7 aa)) ?_;refine bQ ?_;refine aA.cond rfl (λae=>?_) (λae=>?_)
  ·have ai2:=Tx (p:=p) (ah:=bk p) (n:=n) (m:=k) (o:=i) ae;refine a8 ?_;exact aU (⟨i+1,by rw[kc,ai2],rfl,bF⟩)
  ·have alW:=Ty (p:=p) (m:=k) (o:=i) (g:=G) ae;refine dW ?_;refine ai.cG rfl rfl rfl rfl rfl rfl (λav=>(by first | exact ad.fC rfl rfl (cf av) rfl (cf av) (by rw[df.len];exact bD) | exact ad.ep rfl rfl (cf av) rfl (cf av) (by rw[df.len];exact bD))) ?_;refine aQ ?_;refine ai.cG rfl rfl rfl rfl rfl rfl (λav=>(by first | exact ad.fC rfl rfl (cf av) rfl (cf av) (by rw[df.rows k bD];exact bF) | exact ad.ep rfl rfl (cf av) rfl (cf av) (by rw[df.rows k bD];exact bF))) ?_;refine bQ ?_;refine ai.cG rfl rfl rfl rfl rfl rfl (λav=>ad.pick rfl rfl (cf av) rfl rfl (by intro h;revert h;revert av;cases hk9:((cC p i).kind==(cC p k).kind) <;> cases (cC p k).kind==4 <;> simp) (λ_=>rfl)) ?_;refine aH ?_;refine aA.cond rfl (λak=>?_) (λak=>?_)
   ·have sX:=T8 (p:=p) (ah:=(λm o=>(A.getD m default).getD o default)) (n:=n) (m:=k) (o:=i) (B:=true) ae ak;rw[T9] at sX;refine aA.cu mixed ?_;refine bW.dk 0 24 103 rfl ao rfl rfl ao ?_;refine bS ?_;refine ed.cc rfl rfl rfl (ad.dX rfl rfl rfl rfl rfl (gT (i:=n) aa) ⟨aa,aa⟩) ?_;refine ed.cc rfl rfl rfl (ad.le (ad.gm rfl rfl rfl (gT (i:=n) aa) (hN aa)) (aq.b6 D8)) ?_;refine aP ?_;refine ed.cc rfl rfl rfl (ad.dX rfl rfl rfl rfl rfl (gT (i:=(p.methods.getD i default).node.toNat) aa) ⟨aa,aa⟩) ?_;refine ed.cc rfl rfl rfl (ad.le (ad.gm rfl rfl rfl (gT (i:=(p.methods.getD i default).node.toNat) aa) (hN aa)) (aq.b6 CI.1)) ?_;refine ed.cc rfl rfl rfl (ad.bits rfl rfl rfl rfl rfl (kt _ _ aa aa)) ?_;refine aQ ?_;refine ag (ad.dX rfl rfl rfl rfl rfl (gT (i:=n) aa) ⟨aa,aa⟩) ?_;refine A8 (x:=(G.t.nodes.getD (p.methods.getD i default).node.toNat default).toNat) rfl rfl rfl rfl rfl rfl rfl aa rfl ?_;refine aJ ?_;exact aU (⟨i+1,by rw[kc,sX,if_pos rfl],rfl,bF⟩)
   ·have sX:=T8 (p:=p) (ah:=(λm o=>(A.getD m default).getD o default)) (n:=n) (m:=k) (o:=i) (B:=false) ae ak;rw[T9] at sX;refine aJ ?_;exact aU (⟨i+1,by rw[kc,sX,if_neg c8],rfl,bF⟩)
 ·obtain rfl:i=p.methods.length:=by omega
  refine aV ?_;refine gQ [] (cT p A q (sI p (bk p) n k g) Hx) ?_;exact⟨rfl,rfl⟩
end Go.Proofs.YtodccgailpkgeaaGreat

