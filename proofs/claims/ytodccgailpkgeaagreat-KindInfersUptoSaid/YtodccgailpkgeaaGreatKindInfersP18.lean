/- A part of the proof. No condition. -/
import Derived.Test.YtodccgailpkgeaaGreatKindInfersP17
set_option linter.defProp false
set_option maxHeartbeats 1000000
set_option linter.unusedVariables false
set_option linter.unusedSimpArgs false
set_option maxRecDepth 10000
namespace Go.Proofs.YtodccgailpkgeaaGreat
open Go.Proofs.Tryz
open Go.Eng
open Go.Eng.Fc
open Go.Eng.dN
variable{q:gx}{β α:Type}{f:Fact}{p:cZ->Bool}{ah:Nat->Nat->Bool}{Hx H iz H':aA}{xs ys cz cs:bl}{y:ab}{ha fe:List Fact}{k B bp:Nat}{F:aA->Prop}{l:List cZ}{path:ak}{W:bt}
def hV(q:gx):dg:=q.vs++[q.cY,q.cS]
def adA(q):(hV q).length=q.vs.length+2:=by simp[hV]
def adB{i}(h:i<q.vs.length):(hV q).getD i default=q.vs.getD i default:=by
 rw[hV,List.getD_eq_getElem?_getD,List.getElem?_append_left h,List.getD_eq_getElem?_getD]
def adC(q):(hV q).getD q.vs.length default=q.cY:=by simp[hV,List.getD_eq_getElem?_getD]
def adD(q):(hV q).getD (q.vs.length+1) default=q.cS:=by simp[hV,List.getD_eq_getElem?_getD]
section
variable{p:Prog}{ah:Nat->Nat->Bool}{q:gx}{g:GT}{Hx:aA}
def vD(f:fB p q){t}(h:bf p t){i}(j:i<p.methods.length+2):(i<p.methods.length/\e8 t i=t.params.getD i default/\(hV q).getD i default=q.vs.getD i default)\/(i=p.methods.length/\e8 t i=t.nodes/\(hV q).getD i default=q.cY)\/(i=p.methods.length+1/\e8 t i=t.av/\(hV q).getD i default=q.cS):=by
 have c:=f.oH;have g:=h.pl;rcases Nat.lt_trichotomy i p.methods.length with a | a | a
 ·exact .inl ⟨a,by rw[e8,if_pos aa],adB aa⟩
 ·refine .inr (.inl ⟨a,by rw[e8,if_neg aa,if_pos aa],?_⟩);rw[a, <-c];exact adC q
 ·obtain rfl:i=p.methods.length+1:=by omega
  refine .inr (.inr ⟨rfl,by rw[e8,if_neg aa,if_neg aa],?_⟩);rw[<-c];exact adD q
def adE(c:fB p q){t f}(h:bf p t)(a:bf p f){i}(g:i<p.methods.length+2):(e8 t i).length=(e8 f i).length:=by
 rcases vD c h g with⟨ae,e,_⟩ | ⟨rfl,e,_⟩ | ⟨rfl,e,_⟩ <;> rcases vD c a g with⟨ao,e',_⟩ | ⟨ao,e',_⟩ | ⟨ao,e',_⟩ <;> first | omega | skip
 ·have:=h.jM i ae;have:=a.jM i ae;rw[e,e'];omega
 ·rw[e,e',h.nl,a.nl]
 ·have:=h.ai;have:=a.ai;rw[e,e'];omega
def adF(c:fB p q){t}(h:bf p t){i}(a:i<p.methods.length+2):∀k∈e8 t i,ct (aJ p) k=true:=by
 rcases vD c h a with⟨ae,e,_⟩ | ⟨_,e,_⟩ | ⟨_,e,_⟩ <;> rw[e]
 ·exact h.kf _ (bI (by rw[h.pl];exact ae))
 ·exact h.nb
 ·exact h.ff
def DQ(c:(bw p).isSome):p.av<=40:=by
 obtain⟨o,f⟩:=Option.isSome_iff_exists.1 c;have a:=(iF f).1;simp[fP,Bool.and_eq_true,decide_eq_true_eq,beq_iff_eq] at a;obtain⟨⟨⟨h,g⟩,j,l⟩,m⟩:=a;have:=zK _ _ g;omega
def adG(a:fB p q){t}(h:bf p t){i}(f:i<p.methods.length+2):(e8 t i).length<=1000:=by
 rcases vD a h f with⟨ae,e,_⟩ | ⟨_,e,_⟩ | ⟨_,e,_⟩ <;> rw[e]
 ·have g:=h.jM i ae;have j:=tQ a.aH ae;obtain⟨o,c⟩:=Option.isSome_iff_exists.1 a.aH;have:=(qZ (iF c).2.2.1 (bI (l:=p.cT) (k:=(p.methods.getD i default).gen.toNat) aa)).2;omega
 ·obtain⟨o,c⟩:=Option.isSome_iff_exists.1 a.aH;have:=(sb c).2;rw[h.nl];omega
 ·have:=h.ai;have:=DQ a.aH;omega
def DR(f:fB p q)(h:bf p g.t){i j}(c:i<p.methods.length+2)(a:j<(e8 g.t i).length):.row 3 1 ((hV q).getD i default) (e8 g.t i).length ((e8 g.t i).map .i)∈bN p ah q g Hx:=by
 rcases vD f h c with⟨ae,e,bL⟩ | ⟨_,e,bL⟩ | ⟨_,e,bL⟩ <;> rw[e] at a ⊢ <;> rw[bL]
 ·exact I2 (by rw[h.pl];exact ae) a
 ·exact nD a
 ·exact tV a
def adH(a:fB p q)(h:bf p g.t){i j x}(l:i<p.methods.length+2)(c:j<(e8 g.t i).length)(f:fo p x):bO prog 106 [.p q.bx 0,.val (j5 ((hV q).getD i default) j 1),.i x] (bN p ah q g Hx) (λy m=>y= .bk []/\m=bN p ah q (g.nz i j x) Hx) (λ_ _=>False):=by
 have o:=h.pl;rcases vD a h l with⟨ae,e,bL⟩ | ⟨ae,e,bL⟩ | ⟨ae,e,bL⟩ <;> rw[e] at c <;> rw[bL]
 ·rw[GT.nz,if_pos aa];exact Q1 h a.many ae c f
 ·rw[GT.nz,if_neg aa,if_pos aa];exact Q0 h a.many (by rw[<-h.nl];exact c) f
 ·rw[GT.nz,if_neg aa,if_neg aa];exact DN h a.many (by have:=h.ai;omega) f
def adI(f:fB p q)(h:bf p g.t){B}{I}{w}(o:a7 B I w (bN p ah q g Hx)){i}(l:i<p.methods.length+2):∃a m,(hV q).getD i default= .slice a (e8 g.t i).length m:=by
 by_cases c:e8 g.t i= []
 ·rcases vD f h l with⟨ae,e,bL⟩ | ⟨_,e,bL⟩ | ⟨_,e,bL⟩
  ·exact absurd (e.symm.trans c) (tW f.aH h ae)
  ·have:=h.nl;rw[<-e,c] at this;have:=Ar f.aH;simp at*;omega
  ·rw[bL,c];refine f.p8 ?_;have:=h.ai;rw[<-e,c] at this;simpa using this.symm
 ·exact bn.zn (o.ok _ (DR f h l (j:=0) (List.length_pos_iff.2 c)))
def aB.lens{c}{r}{f}{env}{Q}(l:fB p q)(h:bf p g.t)(o:(∀i,i<p.methods.length+2->∃a j,(hV q).getD i default= .slice a (e8 g.t i).length j)->aB c r prog f ⟨env,bN p ah q g Hx⟩ Q):aB c r prog f ⟨env,bN p ah q g Hx⟩ Q:=λa w s=>
 o (λi m=>let ⟨_,_,_,aU,_⟩:=s.mem;adI l h aU m) a w s
end
def lD{f}(j)(g:β):(List.range (j+1)).foldl f g=f ((List.range j).foldl f g) j:=by rw[List.range_succ,List.foldl_append];rfl
def Q9(a b:bn)(X Y:aA):(a::b::(X++Y)).Perm (X++(a::b::Y)):=by
 refine List.Perm.trans ?_ List.perm_middle.symm;exact .cons _ List.perm_middle.symm
def adJ{p:Prog}{g:GT}(o:fB p q)(h:bf p g.t){n:Nat}(hn:n<p.nodes.length){y:hi}{cN env:ak}{eU:Int}(im:∀k∈cN,ct (aJ p) k=true){to:Nat}(DS:y.n=(to:Int))(vn:1<=to)(p1:to<aJ p):bO prog 65 [.p q.bx 0,ab.mU n y cN env eU] (bN p ah q g Hx) (λr H1=>r= .bk []/\H1=bN p ah q (pf p n to (dy cN 0) g) Hx) (λ_ _=>False):=by
 refine bO.qC (n:=91) func65 rfl ay rfl rfl (λB I bW=>?_);have hm:=o.many;have QB:=o8 o.aH;have Ra:=sS p;have akL:=Q6 p to;have gO:=ki o.aH;obtain⟨am,a3⟩:=p9 im 0;have a2:=km vn p1;have Rb:=o.oH;have akM:=adA q;refine bE ?_;refine bK (λtb=>?_);refine aY ?_;refine eA 4 ?_;refine aF ?_;refine ag (ad.le (ad.cF rfl rfl rfl rfl) (an.b4 am)) ?_;refine ag (ad.call .k ((zw _))) ?_;refine aF ?_;refine aB.weaken (st':=⟨[(17,.fn (.func 76) [] [.ptr [.i (dy cN 0)]]),(2,.ptr [.p q.bx 0]),(3,.ptr (fJ n y cN env eU)),(4,.ptr [.i y.n])],(eo p q (g).ch::eg ah q (g).t)++(gW []++Hx)⟩) hW gA ?_;refine aB.qU [] (λ_ (c:Nat)=>.i c) (λ_ _=>[]) (gf (dy cN 0)) (λpre H=>H=eo p q ((pre.foldl (iY p n to) g)).ch::eg ah q ((pre.foldl (iY p n to) g)).t) (λ_ _ _=>False) ((eo p q (g).ch::eg ah q (g).t)) (Hx) (λ_ x=>[(5,.i x),(18,.i x),(2,.ptr [.p q.bx 0]),(3,.ptr (fJ n y cN env eU)),(4,.ptr [.i y.n])]) rfl rfl rfl rfl ((vv _ (by have:=jt hm a3;omega)).b) cO ?_ ?_ ?_ ?_
 ·intro hE nw gd jN x O;refine aF ?_;exact λa w s=>⟨_,rfl,s.weaken (lQ hW) (List.Sublist.refl _)⟩
 ·intro hE L fD pre jN x H1 O nw gd lW eD;obtain rfl:=eD;have wM:x∈gf (dy cN 0):=lW.subset aS;have aK:x<aJ p:=tM a3.1 wM;obtain⟨G,fb⟩:∃G,G=(pre.foldl (iY p n to) g):=⟨_,rfl⟩;have bF:bf p G.t:=by rw[fb];exact hU _ h λg c _ h=>IQ h n vn p1 c
  have hN:=bF.bU n a2;have a0:∀i,bf p ((List.range i).foldl (eB x to) (G.bU n (2^to))).t:=λi=>hU _ hN λg i _ h=>hU _ h λg j _ h=>Ao h x i j vn p1;have F:∀i j,bf p ((List.range j).foldl (hH x to i) ((List.range i).foldl (eB x to) (G.bU n (2^to)))).t:=λi j=>hU _ (a0 i) λg j _ h=>Ao h x i j vn p1;have yA:bf p (GT.kk x to (G.bU n (2^to))).t:=IP hN x vn p1;have a5:∀k,bf p (((fH p to).take k).foldl (λg s=>if dT p x s then g else GT.begin p to g s) (GT.kk x to (G.bU n (2^to)))).t:=λk=>hU _ yA λg s _ h=>by
   split
   ·exact h
   ·exact vC h to s
  rw[<-fb];refine aI ?_;refine az (λaf=>?_) λaf=>?_
  ·have I9:x<3:=by omega
   refine aF ?_;exact aZ.mx (H:=eo p q (G).ch::eg ah q (G).t) kq (by rw[List.foldl_append, <-fb,List.foldl_cons,List.foldl_nil,iY,if_pos I9])
  ·have I9: ¬x<3:=by omega
   refine aF ?_;refine aB.perm (Q9 _ _ (eo p q (G).ch::eg ah q (G).t) _) ?_;refine bP 4 91 ?_;refine aO ?_;refine bg (ad.le (ad.cF rfl rfl rfl rfl) (an.b4 DS)) ?_;refine bg (ad.shift rfl rfl rfl rfl rfl aa (mO to ⟨aa,aa⟩)) ?_;refine aO ?_;refine cE .k ((pg (Hx:=(.loop hE fD (aD [(17,.fn (.func 76) [] [.ptr [.i (dy cN 0)]]),(2,.ptr [.p q.bx 0]),(3,.ptr (fJ n y cN env eU)),(4,.ptr [.i y.n])])::.obj L (.deferred (some []))::O)) o bF hn a2 y cN env eU).b) ?_;rintro _ _ ⟨rfl,rfl⟩;refine aY ?_;refine aB.cw mixed ?_;refine b0.r5 (X:=n2) [⟨5,31,false⟩,⟨17,43,false⟩] (λJ=>match J with | [some v,none]=>.own 23 1 v::bN p ah q (G.bU n (2^to)) (.loop hE fD (aD [(17,.fn (.func 76) [] [.ptr [.i (dy cN 0)]]),(2,.ptr [.p q.bx 0]),(3,.ptr (fJ n y cN env eU)),(4,.ptr [.i y.n])])::.obj L (.deferred (some []))::O) | [_,some u]=>.own 23 1 u::bN p ah q (G.bU n (2^to)) (.loop hE fD (aD [(17,.fn (.func 76) [] [.ptr [.i (dy cN 0)]]),(2,.ptr [.p q.bx 0]),(3,.ptr (fJ n y cN env eU)),(4,.ptr [.i y.n])])::.obj L (.deferred (some []))::O) | _=>bN p ah q (G.bU n (2^to)) (.loop hE fD (aD [(17,.fn (.func 76) [] [.ptr [.i (dy cN 0)]]),(2,.ptr [.p q.bx 0]),(3,.ptr (fJ n y cN env eU)),(4,.ptr [.i y.n])])::.obj L (.deferred (some []))::O)) (λj J=>match j,J with | 0,[some v,_]=>.as (.ai 1 (q.vs.map λv=>[ab.val v])) v | 1,[_,some u]=>.as (.ai 1 ((q.vs.map λv=>[ab.val v])++[[.val q.cY],[.val q.cS]])) u | _,_=>.any) 0 20 91 rfl aq aq rfl rfl aq rfl (λ_ _ _ _ _ _ _ _ _ h=>h.elim) ?_;refine cj [[false,false]] ⟨λf=>cJ,trivial⟩ ?_;refine cj [[false,false]] ⟨λf=>fT,trivial⟩ ?_;refine cj [[false,false]] ⟨λf=>b5,trivial⟩ ?_;refine cj [[false,false]] ⟨λf=>b5,trivial⟩ ?_;refine cj [[false,false]] ⟨λf=>cJ,trivial⟩ ?_;refine cH.j4 0 [[false,false]] rfl rfl rfl aq rfl rfl rfl ⟨λf=>⟨ed.WZ .k (λB=>(adp (vs:=q.vs) aa o.sz _).b) (λ_=>rfl) (λ_=>rfl),hI⟩,trivial⟩ ?_;refine cj [[true,false],[false,false]] ⟨λf=>cJ,λf=>cJ,trivial⟩ ?_;refine cj [[true,false],[false,false]] ⟨λf=>fT,λf=>fT,trivial⟩ ?_;refine cj [[true,false],[false,false]] ⟨λf=>b5,λf=>b5,trivial⟩ ?_;refine cj [[true,false],[false,false]] ⟨λf=>b5,λf=>b5,trivial⟩ ?_;refine cj [[true,false],[false,false]] ⟨λf=>cJ,λf=>cJ,trivial⟩ ?_;refine cj [[true,false],[false,false]] ⟨λf=>cJ,λf=>cJ,trivial⟩ ?_;refine cj [[true,false],[false,false]] ⟨λf=>fT,λf=>fT,trivial⟩ ?_;refine cj [[true,false],[false,false]] ⟨λf=>b5,λf=>b5,trivial⟩ ?_;refine cj [[true,false],[false,false]] ⟨λf=>b5,λf=>b5,trivial⟩ ?_;refine cj [[true,false],[false,false]] ⟨λf=>cJ,λf=>cJ,trivial⟩ ?_;refine cj [[true,false],[false,false]] ⟨λf=>ad.r8 [(true,.val q.cY),(true,.val q.cS)] rfl rfl rfl rfl (by simp only[List.all_cons,List.all_nil,fa,o.ow,o.mT];rfl) rfl rfl rfl,λf=>ad.r8 [(true,.val q.cY),(true,.val q.cS)] rfl rfl rfl rfl (by simp only[List.all_cons,List.all_nil,fa,o.ow,o.mT];rfl) rfl rfl rfl,trivial⟩ ?_;refine cH.j4 1 [[true,false]] rfl rfl rfl aq rfl rfl rfl ⟨λf=>⟨ed.own (news:=[[.val q.cY],[.val q.cS]]) rfl rfl rfl (an.refl _) rfl rfl (an.refl _) (xI (vs:=[q.cY,q.cS]) (by intro v bd;simp at bd;rcases bd with rfl | rfl;exact o.ow;exact o.mT)) cB cB (λ_=>df) (λ_=>rfl),hI⟩,trivial⟩ ?_;refine cj [[true,true]] ⟨λf=>wc,trivial⟩ ?_;refine cj [[true,true],[true,false],[false,false]] ⟨λf=>ad.move rfl rfl rfl,λf=>ad.move rfl rfl rfl,λf=>ad.move rfl rfl rfl,trivial⟩ ?_;refine cH.nil (λf=>?_);simp only[kD,List.map_cons,List.map_nil,List.cons_append,List.nil_append];refine b0.done rfl ?_;refine aO ?_;refine aB.le 43 (y:=.ai 1 ((hV q).map λv=>[ab.val v])) rfl (by rw[hV,List.map_append];exact an.e2 _ _) ?_;refine aB.le 44 (y:=.i ((hV q).length:Int)) rfl (an.b4 (by simp[hV])) ?_;refine bo (λm st=>∃i:Nat,st=⟨[(45,.i i),(44,.i (hV q).length),(43,.ai 1 ((hV q).map λv=>[ab.val v])),(5,.i x),(2,.ptr [.p q.bx 0]),(3,.ptr (fJ n y cN env eU)),(4,.ptr [.i y.n])],bN p ah q ((List.range i).foldl (eB x to) (G.bU n (2^to))) (.loop hE fD (aD [(17,.fn (.func 76) [] [.ptr [.i (dy cN 0)]]),(2,.ptr [.p q.bx 0]),(3,.ptr (fJ n y cN env eU)),(4,.ptr [.i y.n])])::.obj L (.deferred (some []))::O)⟩/\m=(hV q).length - i/\i<=(hV q).length) (⟨0,rfl,rfl,aa⟩) ?_;rintro m _ ⟨i,rfl,rfl,aQ⟩;refine ax ?_;refine az (λae=>?_) λae=>?_
   ·have pF:i<(hV q).length:=by omega
    have C:i<p.methods.length+2:=by omega
    refine bR ?_;refine aB.lens o (a0 i) (λhlen=>?_);refine aO ?_;refine ag (ad.Cx (hlen i C) rfl rfl rfl) ?_;refine aY ?_;refine bo (λm st=>∃j:Nat,st=⟨[(51,.i j),(50,.i (e8 ((List.range i).foldl (eB x to) (G.bU n (2^to))).t i).length),(49,.val ((hV q).getD i default)),(7,.val ((hV q).getD i default)),(45,.i i),(44,.i (hV q).length),(43,.ai 1 ((hV q).map λv=>[ab.val v])),(5,.i x),(2,.ptr [.p q.bx 0]),(3,.ptr (fJ n y cN env eU)),(4,.ptr [.i y.n])],bN p ah q ((List.range j).foldl (hH x to i) ((List.range i).foldl (eB x to) (G.bU n (2^to)))) (.loop hE fD (aD [(17,.fn (.func 76) [] [.ptr [.i (dy cN 0)]]),(2,.ptr [.p q.bx 0]),(3,.ptr (fJ n y cN env eU)),(4,.ptr [.i y.n])])::.obj L (.deferred (some []))::O)⟩/\m=(e8 ((List.range i).foldl (eB x to) (G.bU n (2^to))).t i).length - j/\j<=(e8 ((List.range i).foldl (eB x to) (G.bU n (2^to))).t i).length) (⟨0,rfl,rfl,aa⟩) ?_;rintro m _ ⟨j,rfl,rfl,cm⟩;refine ax ?_;refine az (λao=>?_) λao=>?_
    ·have a4:j<(e8 ((List.range i).foldl (eB x to) (G.bU n (2^to))).t i).length:=by omega
     have ZJ:=adE o (a0 i) (F i j) C;have nj:=adG o (F i j) C;have z:j<(e8 ((List.range j).foldl (hH x to i) ((List.range i).foldl (eB x to) (G.bU n (2^to)))).t i).length:=by omega
     have dV:=hT.1 (adF o (F i j) C _ (bI z));have lp:=lD (f:=hH x to i) j ((List.range i).foldl (eB x to) (G.bU n (2^to)));refine c4 ?_;refine ag (ad.dX rfl rfl rfl rfl rfl (DR o (F i j) C z) ⟨aa,aa⟩) ?_;refine ag (ad.le (ad.gk rfl rfl rfl (DR o (F i j) C z) (hK z)) (an.b4 dV.1)) ?_;refine aR ?_;refine ag (ad.call .k (H4 _ x aa)) ?_;refine aO ?_;refine bc (λaV=>?_) (λaV=>?_)
     ·have Y:hH x to i ((List.range j).foldl (hH x to i) ((List.range i).foldl (eB x to) (G.bU n (2^to)))) j=_:=if_pos aV;refine bP 6 91 ?_;refine aF ?_;refine bg (ad.dX rfl rfl rfl rfl rfl (DR o (F i j) C z) ⟨aa,aa⟩) ?_;refine bg (ad.le (ad.cF rfl rfl rfl rfl) (an.b4 DS)) ?_;refine bg (ad.shift rfl rfl rfl rfl rfl aa (mO to ⟨aa,aa⟩)) ?_;refine aO ?_;refine cE .k ((adH (Hx:=(.loop hE fD (aD [(17,.fn (.func 76) [] [.ptr [.i (dy cN 0)]]),(2,.ptr [.p q.bx 0]),(3,.ptr (fJ n y cN env eU)),(4,.ptr [.i y.n])])::.obj L (.deferred (some []))::O)) o (F i j) C z a2).b) ?_;rintro _ _ ⟨rfl,rfl⟩;refine aP ?_;exact aW (⟨j+1,by rw[lp,Y],rfl,a4⟩)
     ·have Y:hH x to i ((List.range j).foldl (hH x to i) ((List.range i).foldl (eB x to) (G.bU n (2^to)))) j=_:=if_neg (by rw[aV];decide);refine aP ?_;exact aW (⟨j+1,by rw[lp,Y],rfl,a4⟩)
    ·obtain rfl:j=(e8 ((List.range i).foldl (eB x to) (G.bU n (2^to))).t i).length:=by omega
     refine bY ?_;exact aW (⟨i+1,by rw[lD],rfl,pF⟩)
   ·have ac:i=G.t.params.length+2:=by have:=bF.pl;omega
    have a9:((List.range i).foldl (eB x to) (G.bU n (2^to)))=(GT.kk x to (G.bU n (2^to))):=by rw[ac];rfl
    rw[a9];refine ax ?_;refine bP 9 91 ?_;refine aY ?_;refine bg (ad.le (ad.cF rfl rfl rfl rfl) (an.b4 DS)) ?_;refine bg ((by first | exact ad.fC rfl rfl rfl rfl rfl (by rw[Ra];exact p1) | exact ad.ep rfl rfl rfl rfl rfl (by rw[Ra];exact p1))) ?_;refine bg (ad.le (ad.cF rfl rfl rfl rfl) (by rw[Q7 p1];exact an.refl _)) ?_;refine aF ?_;refine b0.done rfl ?_;refine aO ?_;refine bo (λm st=>∃k:Nat,st=⟨[(77,.i k),(76,.i (fH p to).length),(75,ab.ints (fH p to)),(5,.i x),(2,.ptr [.p q.bx 0]),(3,.ptr (fJ n y cN env eU)),(4,.ptr [.i y.n])],bN p ah q (((fH p to).take k).foldl (λg s=>if dT p x s then g else GT.begin p to g s) (GT.kk x to (G.bU n (2^to)))) (.loop hE fD (aD [(17,.fn (.func 76) [] [.ptr [.i (dy cN 0)]]),(2,.ptr [.p q.bx 0]),(3,.ptr (fJ n y cN env eU)),(4,.ptr [.i y.n])])::.obj L (.deferred (some []))::O)⟩/\m=(fH p to).length - k/\k<=(fH p to).length) (⟨0,rfl,rfl,aa⟩) ?_;rintro m _ ⟨k,rfl,rfl,bD⟩;refine ax ?_;refine az (λbu=>?_) λbu=>?_
    ·have S:k<(fH p to).length:=by omega
     have ph:=DP _ (bI S);have lp:=xH (f:=(λg s=>if dT p x s then g else GT.begin p to g s)) S (GT.kk x to (G.bU n (2^to)));refine ji ?_;refine ag (ad.qF .k (fp.ew o (a5 k) (pre:=[]) (post:=[.i (x:Int),.i ((fH p to).getD k default)])) (Af _ o.aH aK _)) ?_;refine aF ?_;refine bc (λcr=>?_) (λcr=>?_)
     ·have cr:dT p x ((fH p to).getD k default)=false:=by simpa using cr
      refine aO ?_;refine ag (ad.le (ad.cF rfl rfl rfl rfl) (an.b4 DS)) ?_;refine aR ?_;refine cE .k ((Q3 (Hx:=(.loop hE fD (aD [(17,.fn (.func 76) [] [.ptr [.i (dy cN 0)]]),(2,.ptr [.p q.bx 0]),(3,.ptr (fJ n y cN env eU)),(4,.ptr [.i y.n])])::.obj L (.deferred (some []))::O)) o (a5 k) p1 ph.1 ph.2).b) ?_;rintro _ _ ⟨rfl,rfl⟩;refine aP ?_;exact aW (⟨k+1,by rw[lp,if_neg (by rw[cr];decide)],rfl,S⟩)
     ·have cr:dT p x ((fH p to).getD k default)=true:=by simpa using cr
      refine aP ?_;exact aW (⟨k+1,by rw[lp,if_pos cr],rfl,S⟩)
    ·obtain rfl:k=(fH p to).length:=by omega
     rw[List.take_length];refine aT ?_;refine aZ.perm (Q9 _ _ (eo p q (((fH p to).foldl (λg s=>if dT p x s then g else GT.begin p to g s) (GT.kk x to (G.bU n (2^to))))).ch::eg ah q (((fH p to).foldl (λg s=>if dT p x s then g else GT.begin p to g s) (GT.kk x to (G.bU n (2^to))))).t) _).symm ?_;exact aZ.mx (H:=eo p q (((fH p to).foldl (λg s=>if dT p x s then g else GT.begin p to g s) (GT.kk x to (G.bU n (2^to))))).ch::eg ah q (((fH p to).foldl (λg s=>if dT p x s then g else GT.begin p to g s) (GT.kk x to (G.bU n (2^to))))).t) kq (by rw[List.foldl_append, <-fb,List.foldl_cons,List.foldl_nil,iY,if_neg I9])
 ·intro L H1 eD;obtain rfl:=eD;refine aR ?_;refine aZ.k1 (L::[]) (eo p q ((pf p n to (dy cN 0) g)).ch::eg ah q ((pf p n to (dy cN 0) g)).t) Hx (rs:=[]) (H':=bN p ah q (pf p n to (dy cN 0) g) Hx) rfl gA (.nil) (c0.refl _) bC ?_;exact⟨rfl,rfl⟩
 ·intro L Cb pre H1 lW qy;exact qy.elim
def fp.mono{H H2}(h:fp H xs ys)(m:∀e∈H,e∈H2):fp H2 xs ys:=λB I w j l g o c a=>h B I w j l g o (λe f=>c e (m e f)) a
def fp.par{x y}(s:fp H [x] [y])(m:fp H xs ys):fp H (x::xs) (y::ys):=λB I w c l j g f r=>by
 cases r with
 | cons _ v _ l q o=>
  obtain⟨J,z,t⟩:=s B I w c [v] j g f (.cons _ _ _ _ q .nil);obtain⟨K,gr,cv⟩:=m B I w c l j g f o;refine⟨kO w,λ_ _ h=>h,?_⟩;cases t with
  | cons _ _ _ _ a b=>exact .cons _ _ _ _ (a.bs ⟨z,λ_ _ _=>rfl⟩) (cv.bs ⟨gr,λ_ _ _=>rfl⟩)
def fp.adK{p}{g:GT}(a:fB p q)(h:bf p g.t)(f:∀e∈eo p q g.ch::eg ah q g.t,e∈H):fp H [.p q.bx 0] [ab.ew p g.t]:=
 fp.mono (fp.ew (ah:=ah) (Hx:=[]) a h (pre:=[]) (post:=[])) λe c=>f e (by simpa [bN] using c)
def adL{p}{g}(bF:fB p q)(h:bf p g.t){gen}{kinds}(bD:∀k∈kinds,ct (aJ p) k=true)(sT:(kinds.length:Int)=fG p gen)(a5:kinds.length<=1000):bO prog 53 [.p q.bx 0,.i gen,.ints kinds] (bN p ah q g Hx) (λr H1=>r= .bk [.ints ((eI p g.t gen kinds).map (·.1)),.bm ((eI p g.t gen kinds).map (·.2))]/\H1=bN p ah q g Hx) (λ_ _=>False):=by
 refine .qC func53 rfl ay rfl rfl λB I bW=>?_;have aH:=bF.aH;have b6:lF p g.t:=h.ff;have qz:=h.ai;have Cb:=nx aH;have ap:=o8 aH;have gO:=ki aH;have gF:=It aH bD;refine jj ?_;refine hh 6 3 1 ?_;refine hh 7 23 1 ?_;refine .zo (λz st=>∃(m:Nat) (v1 v2:Value),st=⟨[(21,.i m),(20,.i p.methods.length),(19,.ai 9 (p.methods.map eR)),(6,.as (.ints ((h3 p g.t gen kinds m).map (·.1))) v1),(7,.as (.bm ((h3 p g.t gen kinds m).map (·.2))) v2),(1,.i gen),(2,.ints kinds),(3,.ptr [.p q.bx 0])],.own 23 1 v2::.own 3 1 v1::eo p q g.ch::eg ah q g.t⟩/\z=p.methods.length - m/\m<=p.methods.length) [] Hx ⟨_,_,⟨0,_,_,rfl,rfl,aa⟩,hW,gA⟩ ?_;intro B;rintro z _ ⟨m,v1,v2,rfl,rfl,hm⟩;refine ax ?_;refine az (λaf=>?_) λaf=>?_
 ·have V:m<p.methods.length:=by omega
  obtain⟨M,da⟩:∃M,M=p.methods.getD m default:=iO;have a4:=IA (p:=p) (t:=g.t) (gen:=gen) (kinds:=kinds) (m:=m);have T:=IB (p:=p) (t:=g.t) (gen:=gen) (kinds:=kinds) (m:=m);have U:=IC (p:=p) (t:=g.t) (gen:=gen) (kinds:=kinds) (m:=m);rw[<-da] at a4 T U;refine ba ?_;refine bK (λbp=>?_);refine ax ?_;rw[<-da];refine eA 9 ?_;refine aP ?_;refine az (λae=>?_) λae=>?_
  ·refine aI ?_;refine .n8 B ⟨m+1,v1,v2,by rw[a4 ae],rfl,V⟩ ?_ ?_ ?_
   ·omega
   ·repeat (first | exact trivial | refine⟨rfl,?_⟩)
   ·repeat (first | exact List.Sublist.refl _ | apply List.Sublist.cons_cons | refine List.Sublist.cons _ ?_)
  ·have fw:∀x∈en kinds,ir p x M.fact:=λx aK=>by
    have qy:jr p (m:Int)=true:=by unfold jr;simp;omega
    have cr:=Ah aH qy (l:=x) EU;rw[show ((m:Int)).toNat=m from rfl, <-da] at cr;exact cr
   refine ax ?_;refine .pN (kinds.length) rfl rfl rfl rfl rfl rfl rfl rfl rfl aa h5 λcP=>?_;refine bK (λgG=>?_);refine bK (λhk=>?_);refine ax ?_;rw[IF];refine aO ?_;refine ag (.call .k ((Ir _))) ?_;refine aF ?_;refine .weaken (st':=⟨[(34,.fn (.func 116) [] [.ptr [.ints kinds]]),(8,.i m),(9,.ptr (eR M)),(10,.p gG 0),(11,.p hk 0),(21,.i m),(20,.i p.methods.length),(19,.ai 9 (p.methods.map eR)),(6,.as (.ints ((h3 p g.t gen kinds m).map (·.1))) v1),(7,.as (.bm ((h3 p g.t gen kinds m).map (·.2))) v2),(1,.i gen),(2,.ints kinds),(3,.ptr [.p q.bx 0])],(.au hk 4 [.b false]::.au gG 23 [fA cP kinds.length]::eZ cP (hl [] kinds.length)::.own 23 1 v2::.own 3 1 v1::eo p q g.ch::eg ah q g.t)++(gW B++Hx)⟩) hW gA ?_;refine .qU B (λb (_:ak)=>fA b kinds.length) (λb x=>[eZ b x]) (en kinds) (λpre H=>H=(.au hk 4 [.b (!(pre.filter (λl=>(di p g.t l M.fact).1)).isEmpty)]::.au gG 23 [fA cP kinds.length]::eZ cP (hl (pre.filter (λl=>(di p g.t l M.fact).1)) kinds.length)::.own 23 1 v2::.own 3 1 v1::eo p q g.ch::eg ah q g.t)) (λ_ _ _=>False) ((.au hk 4 [.b false]::.au gG 23 [fA cP kinds.length]::eZ cP (hl [] kinds.length)::.own 23 1 v2::.own 3 1 v1::eo p q g.ch::eg ah q g.t)) Hx (λb x=>[(12,fA b kinds.length),(35,fA b kinds.length),(9,.ptr (eR M)),(10,.p gG 0),(11,.p hk 0),(3,.ptr [.p q.bx 0])]) rfl rfl rfl rfl (Is _ gF a5) cO ?_ ?_ ?_ ?_
   ·intro hE nw gd jN x eE;refine aF ?_;exact λa w s=>⟨_,rfl,s.weaken xc w8⟩
   ·intro hE xy fD pre jN x H1 eE nw gd N eD;obtain rfl:=eD;have Z:x∈en kinds:=N.subset aS;obtain⟨pF,dV⟩:=nM Z;have a3:=rf bD Z;obtain⟨A,Q⟩:∃A,A=(pre.filter (λl=>(di p g.t l M.fact).1)):=iO;rw[<-Q];have S:∀y∈A,y∈en kinds:=λy hy=>by rw[Q] at hy;exact N.subset (List.mem_append_left _ (List.mem_filter.1 hy).1)
    refine aI ?_;refine ag (.qF .k (fp.par (fp.adK bF h (λe he=>.tail _ (.tail _ (List.mem_append_left _ (.tail _ (.tail _ (.tail _ (.tail _ (.tail _ he))))))))) (fp.outs (pre:=[ab.fact M.fact]) (post:=[]) (nb:=jN) (o:=x) (.tail _ (.tail _ (List.mem_append_right _ dv))) pF aa)) (Dv aH b6 qz a3 _ (fw x Z))) ?_;refine ag zy ?_;refine aF ?_;refine bc (λao=>?_) λao=>?_
    ·have ao:(di p g.t x M.fact).1=false:=by simpa using ao
     refine aF ?_;exact .mx (H:=(.au hk 4 [.b (!A.isEmpty)]::.au gG 23 [fA cP kinds.length]::eZ cP (hl A kinds.length)::.own 23 1 v2::.own 3 1 v1::eo p q g.ch::eg ah q g.t)) kq (by rw[xf (q:=(λl=>(di p g.t l M.fact).1)) ao, <-Q])
    ·have ao:(di p g.t x M.fact).1=true:=by simpa using ao
     refine eb ?_;rw[<-Iv A x];refine bo (λz st=>∃j:Nat,st=⟨[(45,.i j),(44,.i kinds.length),(43,fA jN kinds.length),(12,fA jN kinds.length),(9,.ptr (eR M)),(10,.p gG 0),(11,.p hk 0),(3,.ptr [.p q.bx 0])],.loop hE fD (aD [(34,.fn (.func 116) [] [.ptr [.ints kinds]]),(8,.i m),(9,.ptr (eR M)),(10,.p gG 0),(11,.p hk 0),(21,.i m),(20,.i p.methods.length),(19,.ai 9 (p.methods.map eR)),(6,.as (.ints ((h3 p g.t gen kinds m).map (·.1))) v1),(7,.as (.bm ((h3 p g.t gen kinds m).map (·.2))) v2),(1,.i gen),(2,.ints kinds),(3,.ptr [.p q.bx 0])])::.obj xy (.deferred (some []))::((.au hk 4 [.b true]::.au gG 23 [fA cP kinds.length]::eZ cP (mP A x kinds.length j)::.own 23 1 v2::.own 3 1 v1::eo p q g.ch::eg ah q g.t)++([eZ jN x]++eE))⟩/\z=kinds.length - j/\j<=kinds.length) tp ?_;rintro z _ ⟨j,rfl,rfl,cm⟩;refine ax ?_;refine az (λaV=>?_) λaV=>?_
     ·have dH:j<kinds.length:=by omega
      obtain⟨c,a1,_⟩:=dV j dH;have im:=a3 _ (bI (l:=x) (k:=j) aa);rw[a1] at im;have adM:lM A j<2^62:=Iu (m:=aJ p) aa A (λy hy=>by have IH:=(nM (S y hy)).1;have dA:=rf bD (S y hy) _ (bI (l:=y) (k:=j) aa);omega) (λy hy=>by have IH:=(nM (S y hy)).1;have dA:=rf bD (S y hy) _ (bI (l:=y) (k:=j) aa);omega);have wj:=Iy (L:=A) (x:=x) dH;rw[a1] at wj;refine aP ?_;refine ag Cz ?_;refine ag (.le (by apply ad.ij rfl rfl rfl;(case hm=>exact .tail _ (.tail _ (List.mem_append_right _ dv)));(case hy=>exact ints_at aa)) (.b4 a1)) ?_;refine aY ?_;refine bP 6 71 ?_;refine aO ?_;refine bg (ad.gU rfl rfl rfl rfl rfl aa) ?_;refine bg (ad.le EM (an.b4 (Ix dH))) ?_;refine aR ?_;refine bg (ad.shift rfl rfl rfl rfl rfl aa (mO c ⟨aa,aa⟩)) ?_;refine aO ?_;refine ag (ad.bits rfl rfl rfl rfl rfl (kg _ _ aa (Nat.pow_lt_pow_right (a:=2) (n:=63) c8 aa))) ?_;refine ag (ad.gU rfl rfl rfl rfl rfl aa) ?_;apply aj.fZ rfl rfl rfl rfl rfl rfl rfl rfl rfl rfl
      (case hu=>repeat (first | exact bG.head _ _ _ | apply bG.tail));(case hfit=>simp[yb];omega);(case hds=>exact (ints_set E2 _).trans EX)
      refine aP ?_;exact aW (⟨j+1,rfl,rfl,dH⟩)
     ·obtain rfl:j=kinds.length:=by omega
      rw[Iw];refine aT ?_;exact aZ.mx (H:=(.au hk 4 [.b true]::.au gG 23 [fA cP kinds.length]::eZ cP (hl (A++[x]) kinds.length)::.own 23 1 v2::.own 3 1 v1::eo p q g.ch::eg ah q g.t)) kq (by rw[xe (q:=(λl=>(di p g.t l M.fact).1)) ao, <-Q,show (!(A++[x]).isEmpty)=true by simp])
   ·intro ot H1 eD;obtain rfl:=eD;have a9:(en kinds).filter (λl=>(di p g.t l M.fact).1)=hb p g.t M.fact kinds:=rfl;rw[a9];refine aP ?_;refine bc (λbu=>?_) (λbu=>?_)
    ·have dZ:hb p g.t M.fact kinds≠ []:=λe=>by rw[e] at bu;simp at bu
     obtain⟨G,fb⟩:∃G,G=hl (hb p g.t M.fact kinds) kinds.length:=⟨_,rfl⟩;rw[<-fb] at U ⊢;rw[DB cP gG G 0];refine aB.perm (H':=.au cP 3 ((G.map λx=>[ab.i x]).flatten++[])::.au gG 23 ([]++fA cP kinds.length::[])::(.au hk 4 [.b (!(hb p g.t M.fact kinds).isEmpty)]::.own 23 1 v2::.own 3 1 v1::((eo p q g.ch::eg ah q g.t)++(gW (ot::B)++Hx)))) (((List.Perm.swap _ _ _).trans (.cons _ (.swap _ _ _))).trans (.swap _ _ _)) ?_;refine aB.ME (k:=1) (by rw[List.length_map,fb];simp[hl]) (λe he=>by obtain⟨y,_,rfl⟩:=List.mem_map.1 he;rfl) (Nat.le_refl _) h5 ?_;refine eA 10 ?_;refine aB.cw mixed ?_;refine b0.r5 (X:=n2) [⟨3,63,false⟩] (λJ=>match J with | [some a]=>.au hk 4 [.b (!(hb p g.t M.fact kinds).isEmpty)]::.own 23 1 v2::.own 3 1 a::((eo p q g.ch::eg ah q g.t)++(gW (ot::B)++Hx)) | _=>.au hk 4 [.b (!(hb p g.t M.fact kinds).isEmpty)]::.own 23 1 v2::.own 3 1 v1::((eo p q g.ch::eg ah q g.t)++(gW (ot::B)++Hx))) (λj J=>match j,J with | 0,[some a]=>.as (.ai 1 (((h3 p g.t gen kinds m).map (·.1)).map (λn=>[ab.i n])++[[.i (m:Int)]])) a | _,_=>.any) 0 7 71 rfl aq aq rfl rfl aq rfl (λ_ _ _ _ _ _ _ _ _ h=>h.elim) ?_;refine cj [[false]] ⟨λf=>ad.move rfl rfl rfl,trivial⟩ ?_;refine cj [[false]] ⟨λf=>ad.move rfl rfl rfl,trivial⟩ ?_;refine cj [[false]] ⟨λf=>ad.row (els:=[[.i (m:Int)]]) rfl rfl cC rfl rfl rfl rfl rfl rfl,trivial⟩ ?_;refine cH.j4 0 [[false]] rfl rfl rfl aq rfl rfl rfl ⟨λf=>⟨ed.own (news:=[[.i (m:Int)]]) rfl rfl rfl (an.refl _) rfl rfl (an.refl _) rfl Ba Ba (λ_=>df) (λ_=>rfl),hI⟩,trivial⟩ ?_;refine cj [[true],[false]] ⟨λf=>ad.move rfl rfl rfl,λf=>ad.move rfl rfl rfl,trivial⟩ ?_;refine cj [[true],[false]] ⟨λf=>cJ,λf=>cJ,trivial⟩ ?_;refine cj [[true],[false]] ⟨λf=>ad.row (els:=[[ab.ints G]]) rfl rfl cC rfl rfl rfl rfl rfl rfl,λf=>ad.row (els:=[[ab.ints G]]) rfl rfl cC rfl rfl rfl rfl rfl rfl,trivial⟩ ?_;refine cH.nil (λf=>?_);simp only[kD,List.map_cons,List.map_nil,List.cons_append,List.nil_append];refine aR ?_;refine aj.dJ rfl rfl rfl rfl rfl rfl rfl rfl (an.refl _) (rfl) (λ_=>df) Ba Ba (λxz=>?_);refine ba ?_;refine aZ.n8 (ot::B) (⟨m+1,f 63,xz,by rw[U ae dZ,ID,IE],rfl,V⟩) ?_ ?_ ?_
     ·omega
     ·repeat (first | exact trivial | refine⟨rfl,?_⟩)
     ·repeat (first | exact List.Sublist.refl _ | apply List.Sublist.cons_cons | refine List.Sublist.cons _ ?_)
    ·have dZ:hb p g.t M.fact kinds= []:=by simpa using bu
     refine aP ?_;refine aZ.n8 (ot::B) (⟨m+1,v1,v2,by rw[T dZ],rfl,V⟩) ?_ ?_ ?_
     ·omega
     ·repeat (first | exact trivial | refine⟨rfl,?_⟩)
     ·repeat (first | exact List.Sublist.refl _ | apply List.Sublist.cons_cons | refine List.Sublist.cons _ ?_)
   ·intro ot gE pre H1 N ac;exact ac.elim
 ·obtain rfl:m=p.methods.length:=by omega
  refine c4 ?_;refine aZ.k1 B (eo p q g.ch::eg ah q g.t) Hx (rs:=[.tmp 6,.tmp 7]) (H':=bN p ah q g Hx) rfl gA (.tmp rfl (.tmp rfl (.nil))) (.cons (an.e2 _ _) (.cons (an.e2 _ _) .nil)) bC ?_;exact⟨rfl,rfl⟩
def DT{enc}(h:∀x,dB (enc x)=true)(l:List α):(l.map enc).all dB=true:=by
 rw[List.all_eq_true];intro x c;obtain⟨a,_,rfl⟩:=List.mem_map.1 c;exact h a
def ox(f:Fact):Fact:=.mk 5 0 [] 0 0 [f]
def sA(a b:Fact):Fact:=.mk 6 0 [] 0 0 [a,b]
def adN(f):aG prog 268 [ab.fact f] (ab.fact (ox f)):=by
 intro H;refine aM func268 λB I a=>?_;refine aF ?_;refine bK (λdM=>?_);refine aT ?_;refine ag h7 ?_;refine aT ?_;refine .cg (rs:=[.cell 2 60]) (H':=H) rfl sQ (.cons (an.agg (.cons h8 (.cons h8 (.cons (an.nil 1) (.cons (.refl _) (.cons (.refl _) (.cons (tr [f] rfl) .nil))))))) .nil) bC ?_;exact⟨dO,rfl⟩
def adO(a b):aG prog 267 [ab.fact a,ab.fact b] (ab.fact (sA a b)):=by
 intro H;refine aM func267 λB I c=>?_;refine aY ?_;refine bK (λdM=>?_);refine ax ?_;refine ag h7 ?_;refine aT ?_;refine .cg (rs:=[.cell 4 60]) (H':=H) rfl sQ (.cons (an.agg (.cons h8 (.cons h8 (.cons (an.nil 1) (.cons (.refl _) (.cons (.refl _) (.cons (tr [a,b] rfl) .nil))))))) .nil) bC ?_;exact⟨dO,rfl⟩
def adP(a b:Fact):(a==b)=(a.op==b.op && a.arg==b.arg && a.cls==b.cls && a.n==b.n && a.path==b.path && a.kids==b.kids):=by
 rw[Bool.eq_iff_iff];simp[Bool.and_eq_true,beq_iff_eq];constructor
 ·rintro rfl;simp
 ·rintro⟨⟨⟨⟨⟨g,c⟩,j⟩,f⟩,l⟩,h⟩;exact Fact.ext' g c l j f h
def adQ(f:ha.length=fe.length)(c:k<ha.length)(a:ha.take k=fe.take k)(h:ha.getD k default=fe.getD k default):ha.take (k+1)=fe.take (k+1):=by
 rw[<-c2 c, <-c2 aa,a,h]
def adR(h:(ha.getD k default==fe.getD k default)=false):false=(ha==fe):=by
 symm;rw[beq_eq_false_iff_ne] at h ⊢;intro e;exact h (by rw[e])
def adS(j:k<=ha.length)(g:(ha.length:Int)<=k)(h:(ha.length:Int)=fe.length)(a:ha.take k=fe.take k):true=(ha==fe):=by
 have f:k=ha.length:=by omega
 subst f;have c:ha.length=fe.length:=by omega
 rw[List.take_length,c,List.take_length] at a;simp[a]
def adT(h: ¬(ha.length:Int)=fe.length):false=(ha==fe):=by
 symm;rw[beq_eq_false_iff_ne];intro e;exact h (by rw[e])
def adU{f}(a c)(h:∀x∈a,∀y B H,eY B prog (.fn f cz cs) [ab.fact x,ab.fact y] H (λz j=>z= .b (x==y)/\j=H) (λ_ _=>False)):
  aG prog 288 [ab.facts a,ab.facts c,.fn f cz cs] (.b (a==c)):=by
 intro H;refine aM func288 λB I r=>?_;refine .eG (t:=0) rfl λgV=>?_;refine .eG (t:=1) rfl λvi=>?_;refine eb ?_;refine az (λaf=>?_) λaf=>?_
 ·refine aP ?_;refine aC 6 H ?_;exact⟨bq (adT af),rfl⟩
 ·refine bE ?_;refine bo (λm l=>∃k:Nat,l=⟨[(17,.i k),(16,.i a.length),(15,ab.facts a),(0,ab.facts a),(1,ab.facts c),(2,.fn f cz cs)],H⟩/\m=a.length - k/\k<=a.length/\a.take k=c.take k) (⟨0,rfl,rfl,aa,rfl⟩) ?_;rintro m _ ⟨k,rfl,rfl,q,g⟩;refine ax ?_;refine az (λae=>?_) λae=>?_
  ·refine ba ?_;refine bK (λdM=>?_);refine bY ?_;refine bK (λb1=>?_);refine aI ?_;refine aj.n1 rfl rfl rfl rfl rfl rfl rfl rfl (.cons (.refl _) (.cons (.refl _) .nil)) (h (a.getD k default) (hQ aa) (c.getD k default) B _) ?_;rintro _ _ ⟨rfl,rfl⟩;refine aF ?_;refine bc (λao=>?_) (λao=>?_)
   ·have ao:(a.getD k default==c.getD k default)=false:=by simpa only[Bool.not_eq_true'] using ao
    refine bE ?_;refine aC 6 (H) ?_;exact⟨bq (adR ao),rfl⟩
   ·have ao:(a.getD k default==c.getD k default)=true:=by simpa only[Bool.not_eq_false'] using ao
    refine aP ?_;exact aW (⟨k+1,rfl,rfl,aa,adQ aa aa g sZ⟩)
  ·refine bE ?_;refine aC 6 (H) ?_;exact⟨bq (adS q ae af g),rfl⟩
def adV(a)(f:∀k∈a.kids,∀y,aG prog 283 [ab.fact k,ab.fact y] (.b (k==y)))(b):aG prog 283 [ab.fact a,ab.fact b] (.b (a==b)):=by
 intro H;refine aM func283 λB I g=>?_;refine Xa ?_;refine aj.db rfl rfl rfl rfl rfl rfl (λaw=>.call (.mk' rfl rfl rfl rfl c9) (YC a.path b.path)) ?_;refine ax ?_;refine aj.db rfl rfl rfl rfl rfl rfl (λaw=>ad.call (.mk' rfl rfl rfl rfl c9) (adU a.kids b.kids (λx c y B H=>eY.fn (f x c y H)))) ?_;refine aT ?_;refine aC 4 (H) ?_;exact⟨bq (by rw[adP];simp only[kd]),rfl⟩
def adW(a b:Fact):aG prog 283 [ab.fact a,ab.fact b] (.b (a==b)):=Fact.l5 (P:=λa=>∀b,aG prog 283 [ab.fact a,ab.fact b] (.b (a==b))) (λa c b=>adV a c b) a b
def ju(l:cZ):Fact:=if l.neg then ox l.f else l.f
def adX(y x):aG prog 282 [ab.lit y,.ptr (pS x)] (.b (x.neg==y.neg && x.f==y.f)):=by
 intro H;refine aM func282 λB I a=>?_;refine jI ?_;refine aj.db rfl rfl rfl rfl rfl rfl (λaw=>ad.call (.mk' rfl rfl rfl rfl c9) (adW x.f y.f)) ?_;refine aT ?_;refine aC 3 (H) ?_;exact⟨dO,rfl⟩
def adY{f}{J Jx}(l)(h:uI B prog (.fn f cz cs) ab.lit l F J Jx)(H Hx)(hF:F Hx)(j:J [] H):
  eK B prog 286 [.ai 7 (l.map pS),.fn f cz cs] (H++Hx) (wJ J Jx l Hx) (λ_ _=>False):=by
 refine .of func286 rfl ay rfl rfl λI r=>?_;refine .eG (t:=0) rfl (λgV=>?_);refine c4 ?_;refine bo (λm o=>∃(k:Nat) (c:aA),o=⟨[(8,.i k),(7,.i l.length),(0,.ai 7 (l.map pS)),(1,.fn f cz cs)],c++Hx⟩/\m=l.length - k/\k<=l.length/\J (l.take k) c) (⟨0,H,rfl,rfl,aS,j⟩) ?_;rintro m _ ⟨k,c,rfl,rfl,q,kr⟩;refine ax ?_;refine az (λaf=>?_) λaf=>?_
 ·refine gL ?_;refine aj.n1 rfl rfl rfl rfl rfl rfl rfl rfl (c0.refl _) (h (l.take k) (l.getD k default) c Hx Bn hF kr) ?_;rintro _ _ ⟨b,g,rfl,rfl,a,qt⟩;rw[c2 aa] at a qt;refine aO ?_;refine az (λae=>?_) λae=>?_
  ·refine bR ?_;refine aZ.cg (rs:=[.tmp 4]) rfl eQ cL bC ?_;exact⟨g,rfl,.inr ⟨l.take k,l.getD k default,l.drop (k+1),C5 aa,fK Bq,Bv⟩⟩
  ·refine aP ?_;exact aW (⟨k+1,g,rfl,rfl,aa,a ae⟩)
 ·refine bE ?_;refine aZ.cg (rs:=[.tmp 4]) rfl eQ cL bC ?_;exact⟨c,rfl,.inl ⟨rfl,Bi⟩⟩
def adZ{f:Fn}(c:nf prog iz (.fn f cz cs) ab.lit l p):yS prog iz 286 [.ai 7 (l.map pS),.fn f cz cs] (λy=>∃n:Int,y= .i n/\decide (n>=0)=l.any p):=
 FQ ay (λB F J m h H a j g=>adY l h H a j g) c
def ad0{f}(c:nf prog iz (.fn f cz cs) ab.lit l p):hP prog iz 281 [.ai 7 (l.map pS),.fn f cz cs] (.b (l.any p)):=by
 intro H g;refine aM func281 λB I j=>?_;refine ba ?_;refine .F4 rfl rfl rfl .k (adZ c) g λy a=>?_;obtain⟨n,rfl,h⟩:=a;refine aT ?_;refine aC 4 H ?_;exact⟨bq h,rfl⟩
def ad1{f}(a:nX prog (.fn f cz cs) ab.lit p)(l:List cZ):aG prog 281 [.ai 7 (l.map pS),.fn f cz cs] (.b (l.any p)):=(ad0 (a.on l)).pure
def a183(l)(f:l.length<=1000000)(H):bO prog 280 [ab.lits l] H (λy c=>∃v,y= .as (ab.lits l) v/\c= .own 303 7 v::H) (λ_ _=>False):=by
 refine aM func280 λB I h=>?_;refine ba ?_;refine .uQ rfl rfl rfl rfl rfl rfl rfl gu rfl rfl λxp a=>?_;refine aO ?_;refine az (λaf=>?_) λaf=>?_
 ·refine aP ?_;refine .qx 2 303 7 rfl ?_;refine aC 2 _ ?_;exact⟨_,congrArg (λx=>ab.as x _) (show ab.ai 7 []=ab.ai 7 _ by rw[a af]),rfl⟩
 ·refine aY ?_;refine aj.yU rfl rfl rfl rfl (λv5=>?_);refine aR ?_;refine aj.dJ rfl rfl rfl rfl rfl rfl rfl rfl gu (DT (λ_=>rfl) l) (λ_=>df) cB cB (λAs=>?_);refine aY ?_;refine aC 2 (_) ?_;exact⟨_,rfl,rfl⟩
def nE(out:List cZ)(x:cZ):List cZ:=if out.any (λy=>x.neg==y.neg && x.f==y.f) then out else out++[x]
def fR(a b:List cZ):List cZ:=b.foldl nE a
def ad2(a)(x):(nE a x).length<=a.length+1:=by unfold nE;split <;> simp
def Rc{a b:List cZ}(h:k<b.length):fR a (b.take (k+1))=nE (fR a (b.take k)) (b.getD k default):=by
 rw[<-c2 h,fR,List.foldl_append];rfl
def Re(a):∀b:List cZ,(fR a b).length<=a.length+b.length:=by
 intro b
 induction b generalizing a with
 | nil=>simp[fR]
 | cons x b c=>
  have:=c (nE a x);have f:=ad2 a x;show (fR (nE a x) b).length<=_;simp[List.length_cons];omega
def ad3(a b)(l:a.length<=100000)(j:b.length<=100000):aG prog 276 [ab.lits a,ab.lits b] (ab.lits (fR a b)):=by
 intro H;refine aM func276 λB I o=>?_;refine aI ?_;refine cE .k ((a183 a aa H).b) ?_;rintro _ _ ⟨v,rfl,rfl⟩;refine bR ?_;refine bo (λm c=>∃(k:Nat) (v:Value) (els:List bl),c=⟨[(12,.i k),(11,.i b.length),(10,ab.lits b),(5,.as (.ai 7 els) v)],.own 303 7 v::H⟩/\m=b.length - k/\k<=b.length/\els=(fR a (b.take k)).map pS) ⟨0,v,_,rfl,rfl,aa,rfl⟩ ?_;rintro m _ ⟨k,v,_,rfl,rfl,q,rfl⟩;refine ax ?_;refine az (λaf=>?_) λaf=>?_
 ·refine aI ?_;refine bK (λdM=>?_);refine aY ?_;refine eA 7 ?_;refine aF ?_;refine ag (.s4 .k w9 (ad1 (.of (λy=>adX y (b.getD k default))) (fR a (b.take k)))) ?_;refine aF ?_;refine bc (λae=>?_) (λae=>?_)
  ·have e:fR a (b.take (k+1))=fR a (b.take k)++[b.getD k default]:=by rw[Rc aa,nE,if_neg (by simpa only[Bool.not_eq_true',Bool.not_eq_true] using ae)]
   have g:=Re a (b.take k);rw[List.length_take] at g;refine aF ?_;refine ag (ad.row rfl rfl cC rfl rfl rfl rfl rfl rfl) ?_;refine aj.dJ rfl rfl rfl rfl rfl rfl rfl rfl (an.refl _) (rfl) (λ_=>df) (by show (List.length (List.map _ _)+1)*88<=_;rw[List.length_map];omega) EY (λad4=>?_);refine aI ?_;exact aW (⟨k+1,ad4,_,rfl,rfl,aa,(by rw[e,List.map_append])⟩)
  ·have e:fR a (b.take (k+1))=fR a (b.take k):=by rw[Rc aa,nE,if_pos (by simpa only[Bool.not_eq_false'] using ae)]
   refine aP ?_;exact aW (⟨k+1,v,_,rfl,rfl,aa,by rw[e]⟩)
 ·obtain rfl:k=b.length:=by omega
  refine bR ?_;refine aZ.cg (rs:=[.tmp 4]) (H':=H) rfl (.tmp rfl (.nil)) (.cons (an.e2 _ _) .nil) bC ?_;exact⟨by rw[List.take_length];rfl,rfl⟩
mutual
def eh:Fact->Bool->List (List cZ)
 | .mk op arg path cls n kids,c=>
  if op=1 then (if c then [] else [[]])
  else if op=5 then (sB kids (!c)).getD 0 []
  else if dm (.mk op arg path cls n kids) then [[⟨.mk op arg path cls n kids,c⟩]]
  else if c==(op==6) then (sB kids c).getD 0 []++(sB kids c).getD 1 []
  else ((sB kids c).getD 0 []).flatMap λa=>((sB kids c).getD 1 []).map (fR a)
def sB:List Fact->Bool->List (List (List cZ))
 | [],_=>[]
 | k::r,c=>eh k c::sB r c
end
theorem xJ(c):∀(l:List Fact) (i:Nat),i<l.length->(sB l c).getD i []=eh (l.getD i default) c
 | [],i,h=>by simp at h
 | k::r,0,h=>by rw[sB];rfl
 | k::r,i+1,h=>by rw[sB];exact xJ c r i gQ
def Au(h:f.op=1)(c):eh f c=if c then [] else [[]]:=by cases f;rw[eh];exact if_pos h
def Av(h:f.op=5)(a:0<f.kids.length)(c):eh f c=eh (f.kids.getD 0 default) (!c):=by
 rw[<-xJ (!c) f.kids 0 a];cases f;rw[eh];simp[Fact.op] at h;subst h;rfl
def Aw(g: ¬f.op=1)(a: ¬f.op=5)(h:dm f)(c):eh f c= [[⟨f,c⟩]]:=by
 cases f;rw[eh];simp[Fact.op] at g a;rw[if_neg g,if_neg a,if_pos h]
def Ax(a: ¬f.op=1)(h: ¬f.op=5)(j:dm f=false){c:Bool}(g:(c==(f.op==6))=true)(l:1<f.kids.length):eh f c=eh (f.kids.getD 0 default) c++eh (f.kids.getD 1 default) c:=by
 rw[<-xJ c f.kids 0 aa, <-xJ c f.kids 1 l];cases f;rw[eh];simp only[Fact.op] at a h g;rw[if_neg a,if_neg h,if_neg (by simp[j]),if_pos g];rfl
def Ay(g: ¬f.op=1)(j: ¬f.op=5)(l:dm f=false){c}(h:(c==(f.op==6))=false)(m:1<f.kids.length):eh f c=(eh (f.kids.getD 0 default) c).flatMap λa=>(eh (f.kids.getD 1 default) c).map (fR a):=by
 rw[<-xJ c f.kids 0 aa, <-xJ c f.kids 1 m];cases f;rw[eh];simp[Fact.op] at g j h;rw[if_neg g,if_neg j,if_neg (by simp[l]),if_neg (by simp[h])];rfl
/- what the walk Rf cases asks of a fact: a known operation, as many parts as it has, nothing too long -/
mutual
def okB:Fact->Bool
 | .mk op _ path _ _ kids=>decide (1<=op) && decide (op<=7) && ((kids.length:Int)==j6 op) && decide (path.length<=1000) && xK kids
def xK:List Fact->Bool
 | []=>true
 | f::r=>okB f && xK r
end
theorem Rg:∀{l:List Fact},xK l=true->∀k∈l,okB k=true
 | [],_,k,a=>by cases a
 | x::r,h,k,a=>by
  rw[xK,Bool.and_eq_true] at h;rcases List.mem_cons.1 a with e | a
  ·rw[e];exact h.1
  ·exact Rg h.2 k a
def vE(h:okB f):1<=f.op/\f.op<=7/\(f.kids.length:Int)=j6 f.op/\f.path.length<=1000/\∀k∈f.kids,okB k=true:=by
 cases f;rw[okB] at h;simp[Bool.and_eq_true,decide_eq_true_eq,beq_iff_eq] at h;exact⟨h.1.1.1.1,h.1.1.1.2,h.1.1.2,h.1.2,Rg h.2⟩
theorem DU:∀(l:List Fact),1<l.length->cU (l.getD 0 default)+cU (l.getD 1 default)<=fk l
 | a::b::r,_=>by simp[fk] <;> omega
 | [_],h=>by simp at h
theorem Rh:∀(l:List Fact),0<l.length->cU (l.getD 0 default)<=fk l
 | a::r,_=>by simp[fk]
def Az(h:okB f)(l: ¬f.op=1)(j: ¬f.op=5)(g:dm f=false):f.kids.length=2:=by
 obtain⟨a,b,c,_⟩:=vE h;simp[dm,Bool.and_eq_false_iff,decide_eq_false_iff_not] at g;have:f.op=6\/f.op=7:=by omega
 rw[j6,if_neg j,if_pos this] at c;omega
def AB(h:okB f)(g:f.op=5):f.kids.length=1:=by
 obtain⟨a,b,c,_⟩:=vE h;rw[j6,if_pos g] at c;omega
def Ja:∀(f:Fact),okB f=true->∀c,∀l∈eh f c,l.length<=cU f:=by
 refine Fact.l5 λf s m c l g=>?_;have t:=vE m;by_cases r:f.op=1
 ·rw[Au r] at g;cases c <;> simp at g;subst g;simp
 by_cases o:f.op=5
 ·have A:=AB m o;rw[Av o aa] at g;have:=s _ gX (t.2.2.2.2 _ gX) _ l g;have C:=Rh f.kids aa;rw[pY];omega
 by_cases q:dm f=true
 ·rw[Aw r o q] at g;simp at g;subst g;rw[pY];simp
 ·have j:dm f=false:=by simpa using q
  have A:=Az m r o j;have B:=DU f.kids aa;have w:=s (f.kids.getD 0 default) gX (t.2.2.2.2 _ gX) c;have v:=s (f.kids.getD 1 default) gX (t.2.2.2.2 _ gX) c;rw[pY];cases a1:(c==(f.op==6)) with
  | true=>
   rw[Ax r o j a1 aa] at g;rcases List.mem_append.1 g with h | h
   ·have:=w l h;omega
   ·have:=v l h;omega
  | false=>
   rw[Ay r o j a1 aa] at g;obtain⟨a,z,g⟩:=List.mem_flatMap.1 g;obtain⟨b,x,rfl⟩:=List.mem_map.1 g;have:=Re a b;have:=w a z;have:=v b x;omega
def sC(J Jx:List α->aA->Prop)(pre M:List α)(Hx:aA)(y:ab)(H':aA):Prop:=
 ∃b H1,y= .b b/\H'=H1++Hx/\(b=true->J (pre++M) H1)/\(b=false->∃q,q<+:M/\Jx (pre++q) H1)
def ad5{pre L:List β}{g:α->β}{M a:List α}{b:α}(h:pre++M.map g<+:L)(c:a++[b]<+:M):(pre++a.map g)++[g b]<+:L:=by
 refine List.IsPrefix.trans ?_ h;rw[List.append_assoc];refine (List.prefix_append_right_inj pre).2 ?_;have:=c.map g;simpa using this
def ad6{pre L:List β}{g:α->List β}{M a:List α}{b:α}(h:pre++M.flatMap g<+:L)(c:a++[b]<+:M):(pre++a.flatMap g)++g b<+:L:=by
 refine List.IsPrefix.trans ?_ h;rw[List.append_assoc];refine (List.prefix_append_right_inj pre).2 ?_;obtain⟨t,rfl⟩:=c;exact⟨t.flatMap g,aS⟩
def Ri{c M:List α}{b:α}(a:c++[b]<+:M):b∈M:=a.subset aS
def ad7{g}{j h}{L}{J Jx}(l:oQ B prog (.fn g j h) ab.lits L F J Jx)(a b)(w:a.length<=1000)(v:b.length<=1000)(pre)(t:pre++[fR a b]<+:L)(H Hx)(hF:F Hx)(m:J pre H):
  eK B prog 275 [ab.lits b,.ptr [.fn g j h],.ptr [ab.lits a]] (H++Hx) (λy o=>∃f c,y= .b f/\o=c++Hx/\(f=true->J (pre++[fR a b]) c)/\(f=false->Jx (pre++[fR a b]) c)) (λ_ _=>False):=by
 refine eK.of func275 rfl ay rfl rfl (λI x=>?_);refine ax ?_;refine bP 4 10 ?_;refine aF ?_;refine bg (ad.call .k (ad3 a b aa aa)) ?_;refine aO ?_;refine aj.n1 rfl rfl rfl rfl rfl rfl rfl rfl cL (l pre (fR a b) H Hx t hF m) ?_;rintro _ _ ⟨r,c,rfl,rfl,q,s⟩;refine aY ?_;refine aZ.cg (rs:=[.tmp 4]) rfl eQ cL bC ?_;exact⟨r,c,rfl,rfl,q,s⟩
def AD(B:Nat)(f:Fact)(c:Bool):Prop:=∀(dc:Nat) (g:Fn) (gs gc:bl) (L:List (List cZ)) (F:aA->Prop) (J Jx:List (List cZ)->aA->Prop),oQ B prog (.fn g gs gc) ab.lits L F J Jx->∀(pre:List (List cZ)),pre++eh f c<+:L->
 ∀(H Hx:aA),bn.au dc 301 [.fn (.func 273) [] [.p dc 0]]∈Hx->F Hx->J pre H->eK B prog 273 [ab.fact f,.b c,.fn g gs gc,.p dc 0] (H++Hx) (sC J Jx pre (eh f c) Hx) (λ_ _=>False)
def ad8{c}(S:1<f.kids.length)(K:AD B (f.kids.getD 1 default) c)(j:∀l∈eh (f.kids.getD 1 default) c,l.length<=1000){r}{g}{o m}{L}{F}{J Jx}(E:oQ B prog (.fn g o m) ab.lits L F J Jx)
  (a) (M:a.length<=1000) (pre) (P:pre++(eh (f.kids.getD 1 default) c).map (fR a)<+:L) (H Hx) (hm:bn.au r 301 [.fn (.func 273) [] [.p r 0]]∈Hx) (hF:F Hx) (G:J pre H):
  eK B prog 274 [ab.lits a,.p r 0,.ptr (fy f),.ptr [.b c],.ptr [.fn g o m]] (H++Hx) (sC J Jx pre ((eh (f.kids.getD 1 default) c).map (fR a)) Hx) (λ_ _=>False):=by
 refine eK.of func274 rfl ay rfl rfl (λI R=>?_);have t:oQ B prog (.fn (.func 275) [] [.ptr [.fn g o m],.ptr [ab.lits a]]) ab.lits (eh (f.kids.getD 1 default) c) F (λdR H=>J (pre++dR.map (fR a)) H) (λdR H=>Jx (pre++dR.map (fR a)) H):=by
  intro dR b s N D v z;refine eY.mono (eY.rU (ad7 E a b M (j b (Ri D)) (pre++dR.map (fR a)) (ad5 P D) s N v z)) ?_ (λ_ _ h=>h);rintro _ _ ⟨x,O,rfl,rfl,w,A⟩;exact⟨x,O,rfl,rfl,λh=>by simpa using w h,λh=>by simpa using A h⟩
 refine aP ?_;refine bP 7 15 ?_;refine bg (x9) ?_;refine aI ?_;refine cE .k (K r (.func 275) [] [.ptr [.fn g o m],.ptr [ab.lits a]] _ _ _ _ t [] (List.prefix_refl _) H Hx hm hF (by simpa using G)) ?_;rintro _ _ ⟨x,s,rfl,rfl,w,A⟩;refine aY ?_;refine aZ.cg (rs:=[.tmp 6]) rfl eQ cL bC ?_;exact⟨x,s,rfl,rfl,λh=>by simpa using w h,λh=>by obtain⟨q,Q,I⟩:=A h;exact⟨q.map (fR a),Q.map _,by simpa using I⟩⟩
def ad9{J Jx:List α->aA->Prop}{pre:List α}(h:J pre H):sC J Jx pre [] Hx (.b true) (H++Hx):=⟨true,H,rfl,rfl,λ_=>by simpa using h,λh=>by cases h⟩
def Rj{J Jx:List α->aA->Prop}{pre:List α}{x:α}(h:∃b a,y= .b b/\H'=a++Hx/\(b=true->J (pre++[x]) a)/\(b=false->Jx (pre++[x]) a)):sC J Jx pre [x] Hx y H':=by
 obtain⟨b,a,rfl,rfl,f,c⟩:=h;exact⟨b,a,rfl,rfl,f,λh=>⟨[x],List.prefix_refl _,c h⟩⟩
def aea{c}{J Jx:List (List cZ)->aA->Prop}{pre:List (List cZ)}(l:J pre H)(j:(!c)=true->∃b a,y= .b b/\H'=a++Hx/\(b=true->J (pre++[[]]) a)/\(b=false->Jx (pre++[[]]) a))(g:(!c)=false->y= .b false/\H'=H++Hx):
  ∃f a,y= .b f/\H'=a++Hx/\sC J Jx pre (if c then [] else [[]]) Hx (.b (bif c then true else f)) H':=by
 cases c with
 | true=>obtain⟨rfl,rfl⟩:=g rfl;exact⟨false,H,rfl,rfl,ad9 l⟩
 | false=>
  have h:=j rfl;obtain⟨b,a,rfl,rfl,e⟩:=h;exact⟨b,a,rfl,rfl,Rj ⟨b,a,rfl,rfl,e⟩⟩
def aeb{J Jx:List α->aA->Prop}{pre M N:List α}{Hx a H'}{b1:Bool}(t:b1=true->J (pre++M) a)(r:b1=false->∃q,q<+:M/\Jx (pre++q) a)(o:b1=true->sC J Jx (pre++M) N Hx y H')(j:b1=false->y= .b false/\H'=a++Hx):
  ∃g,y= .b g/\sC J Jx pre (M++N) Hx (.b (bif b1 then g else false)) H':=by
 cases b1 with
 | true=>
  obtain⟨b,m,rfl,rfl,l,s⟩:=o rfl;refine⟨b,rfl,⟨b,m,rfl,rfl,λh=>by rw[<-List.append_assoc];exact l h,λh=>?_⟩⟩;obtain⟨q,f,c⟩:=s h;exact⟨M++q,(List.prefix_append_right_inj M).2 f,by rw[<-List.append_assoc];exact c⟩
 | false=>
  obtain⟨rfl,rfl⟩:=j rfl;obtain⟨q,f,c⟩:=r rfl;exact⟨false,rfl,⟨false,a,rfl,rfl,λh=>(by cases h),λ_=>⟨q,f.trans (List.prefix_append _ _),c⟩⟩⟩
def aec{J Jx:List β->aA->Prop}{pre:List β}{M:List α}{g:α->List β}(h:sC (λdR H=>J (pre++dR.flatMap g) H) (λdR H=>∃q,q<+:dR.flatMap g/\Jx (pre++q) H) [] M Hx y H'):sC J Jx pre (M.flatMap g) Hx y H':=by
 obtain⟨b,o,rfl,rfl,l,c⟩:=h;refine⟨b,o,rfl,rfl,λh=>by simpa using l h,λh=>?_⟩;obtain⟨q,⟨t,rfl⟩,m,a,f⟩:=c h;exact⟨m,a.trans ⟨t.flatMap g,aS⟩,f⟩
def aed(hL:okB f)(hn:cU f<=1000)(fv:∀k∈f.kids,∀c,AD B k c)(c):AD B f c:=by
 intro dc g gs gc L F J Jx aw pre e5 H Hx hm hF eD;refine .of func273 rfl ay rfl rfl λI bW=>?_;have ck:=vE hL;refine jI ?_;refine az (λaf=>?_) λaf=>?_
 ·rw[Au af] at e5 ⊢;refine aT ?_;refine .LW rfl rfl rfl rfl rfl rfl rfl rfl (λh=>h) rfl (λ_=>rfl) (.cons (.nil 7) .nil) (λh=>aw pre [] H Hx (by rw[Bool.not_eq_true'] at h;subst h;exact e5) hF eD) ?_;intro y H' vt vu;obtain⟨o9,H1,rfl,rfl,bH⟩:=aea eD vt vu;refine aP ?_;refine .cg (rs:=[.tmp 7]) rfl eQ cL bC ?_;exact bH
 ·refine aI ?_;refine az (λae=>?_) λae=>?_
  ·have DV:=AB hL ae;rw[Av ae aa] at e5 ⊢;refine aR ?_;refine bP 8 71 ?_;refine bg (x9) ?_;refine ba ?_;refine cE .k (fv _ gX (!c) dc g gs gc L F J Jx aw pre e5 H Hx hm hF eD) ?_;intro y H' bH;obtain⟨o9,H1,rfl,rfl,bH⟩:=bH;refine ax ?_;refine .cg (rs:=[.tmp 7]) rfl eQ cL bC ?_;exact⟨o9,H1,rfl,rfl,bH⟩
  ·refine aF ?_;refine ag (.call .k ((OV _))) ?_;refine aF ?_;refine bc (λao=>?_) λao=>?_
   ·have AE:dm f=true:=ao;rw[Aw af ae AE] at e5 ⊢;refine ax ?_;refine ag h7 ?_;refine .n1 rfl rfl rfl rfl rfl rfl rfl rfl Xj (aw pre [⟨f,c⟩] H Hx e5 hF eD) ?_;intro y H' bH;obtain⟨o9,H1,rfl,rfl,bH⟩:=bH;refine ax ?_;refine .cg (rs:=[.tmp 7]) rfl eQ cL bC ?_;exact Rj ⟨o9,H1,rfl,rfl,bH⟩
   ·have AE:dm f=false:=ao;have mE:=Az hL af ae AE;refine bY ?_;refine bc (λaV=>?_) λaV=>?_
    ·rw[Ax af ae AE aV aa] at e5 ⊢;refine aR ?_;refine bP 7 71 ?_;refine bg (x9) ?_;refine aI ?_;refine cE .k (fv _ gX c dc g gs gc L F J Jx aw pre ((by rw[<-List.append_assoc] at e5;exact (List.prefix_append _ _).trans e5)) H Hx hm hF eD) ?_;intro y H' bH;obtain⟨b1,H1,rfl,rfl,bM,bL⟩:=bH;refine ax ?_;refine .dG 9 16 71 rfl aq rfl rfl aq ?_;refine jJ (λaw=>x9) ?_;refine aI ?_;refine .LV rfl rfl rfl rfl rfl rfl (λaw=>.mk' rfl rfl aw rfl (by simp_all [strip])) (λrS=>fv _ gX c dc g gs gc L F J Jx aw _ (by rw[List.append_assoc];exact e5) H1 Hx hm hF (bM rS)) ?_;intro y H' vt vu;obtain⟨o9,rfl,bH⟩:=aeb bM bL vt vu;obtain⟨b2,H2,qt,rfl,aee⟩:=bH;refine aP ?_;refine .cg (rs:=[.tmp 7]) rfl eQ cL bC ?_;exact⟨b2,H2,qt,rfl,aee⟩
    ·rw[Ay af ae AE aV aa] at e5 ⊢;refine aY ?_;have yF:oQ B prog (.fn (.func 274) [] [.p dc 0,.ptr (fy f),.ptr [.b c],.ptr [.fn g gs gc]]) ab.lits (eh (f.kids.getD 0 default) c) (λHx=>F Hx/\.au dc 301 [.fn (.func 273) [] [.p dc 0]]∈Hx) (λdR H=>J (pre++dR.flatMap λa=>(eh (f.kids.getD 1 default) c).map (fR a)) H) (λdR H=>∃q,q<+:(dR.flatMap λa=>(eh (f.kids.getD 1 default) c).map (fR a))/\Jx (pre++q) H):=by
      intro dR a H1 eE wF Rk kr;have hE:∀i,i<2->∀l∈eh (f.kids.getD i default) c,l.length<=1000:=λi aQ l br=>by
       have ae:=Ja _ (ck.2.2.2.2 _ gX) c l br;have ao:=DU f.kids aa;have aV:=pY f;have:i=0\/i=1:=by omega
       rcases this with rfl | rfl <;> omega
      refine eY.mono (eY.rU (ad8 aa (fv _ gX c) (hE 1 aa) aw a (hE 0 aa a (Ri wF)) _ (ad6 (g:=λa=>(eh (f.kids.getD 1 default) c).map (fR a)) e5 wF) H1 eE Rk.2 Rk.1 kr)) ?_ λ_ _ h=>h;rintro _ _ ⟨o9,H2,rfl,rfl,bM,bL⟩;refine⟨o9,H2,rfl,rfl,λh=>by simpa using bM h,λh=>?_⟩;obtain⟨q,cd,aK⟩:=bL h;exact⟨(dR.flatMap λa=>(eh (f.kids.getD 1 default) c).map (fR a))++q,by rw[List.flatMap_append];exact (List.prefix_append_right_inj _).2 (by simpa using cd),by simpa using aK⟩
     refine bP 7 71 ?_;refine bg (x9) ?_;refine aI ?_;refine cE .k (fv _ gX c dc (.func 274) [] [.p dc 0,.ptr (fy f),.ptr [.b c],.ptr [.fn g gs gc]] _ _ _ _ yF [] (List.prefix_refl _) H Hx hm ⟨hF,hm⟩ (by simpa using eD)) ?_;intro y nZ bH;obtain⟨o9,H1,rfl,rfl,bM,bL⟩:=aec bH;refine aY ?_;refine .cg (rs:=[.tmp 7]) rfl eQ cL bC ?_;exact⟨o9,H1,rfl,rfl,bM,bL⟩
def aef(f)(a:okB f)(hn:cU f<=1000)(c):AD B f c:=by
 refine Fact.l5 (P:=λf=>okB f=true->cU f<=1000->∀c,AD B f c) (λf o a hn c=>?_) f a hn c;refine aed a hn (λk m c=>o k m ((vE a).2.2.2.2 k m) ?_ c) c;have:∀l:List Fact,k∈l->cU k<=fk l:=by
  intro l
  induction l with
  | nil=>intro h;cases h
  | cons x r g=>
   intro h;rw[fk];rcases List.mem_cons.1 h with e | h
   ·rw[e];omega
   ·have:=g h;omega
 have s:=this f.kids m;have q:=pY f;omega
def aeg(f)(c):aG prog 270 [ab.fact f,.b c] (.fn (.func 272) [] [.ptr (fy f),.ptr [.b c]]):=by
 intro H;refine aM func270 λB I a=>?_;refine c4 ?_;refine aC 4 (H) ?_;exact⟨dO,rfl⟩
def aeh(f)(o:okB f)(hn:cU f<=1000)(c){g}{m l}{J Jx}(q:oQ B prog (.fn g m l) ab.lits (eh f c) (λ_=>True) J Jx)(H Hx)(r:J [] H):
  eK B prog 272 [.fn g m l,.ptr (fy f),.ptr [.b c]] (H++Hx) (λ_ H'=>∃a,H'=a++Hx/\(J (eh f c) a\/∃h,h<+:eh f c/\Jx h a)) (λ_ _=>False):=by
 refine .of func272 rfl ay rfl rfl λI w=>?_;refine aO ?_;refine bK (λdM=>?_);refine aI ?_;refine .perm (H':=H++(.au dM 301 [.fn (.func 273) [] [.p dM 0]]::Hx)) List.perm_middle.symm ?_;refine aR ?_;refine ag Bd ?_;refine aF ?_;refine cE .k (aef f o hn c dM g m l _ _ _ _ q [] (List.prefix_refl _) H (.au dM 301 [.fn (.func 273) [] [.p dM 0]]::Hx) dv trivial r) ?_;rintro _ _ ⟨t,a,rfl,rfl,s,v⟩;refine aR ?_;refine .nU (rs:=[]) (H':=a++Hx) rfl (.nil) cL (by exact (List.Sublist.refl a).append MU) ?_;exact⟨a,rfl,by cases t with | true=>exact .inl (s rfl) | false=>exact .inr (v rfl)⟩
def aei(f)(a:okB f)(hn:cU f<=1000)(c):yC B prog (.fn (.func 272) [] [.ptr (fy f),.ptr [.b c]]) ab.lits (eh f c):=
 λJ m g q o j H h l=>eY.rU (aeh f a hn c j H h l)
def nF(arg:Int)(path:ak):bl:=[.i arg,.i path.length,.i (path.getD 0 0),.i (path.getD 1 0)]
abbrev ab.spot(arg:Int)(path:ak):ab:=.agg (nF arg path)
def aej(arg slot):aG prog 290 [ab.spot arg [],.i slot] (ab.spot arg [slot]):=by
 intro H;refine aM func290 λB I a=>?_;refine aO ?_;refine .qD rfl rfl rfl rfl rfl rfl rfl λdM=>?_;refine bK (λb1=>?_);refine aI ?_;refine ag (KY) ?_;refine aP ?_;refine ag (ad.arith rfl rfl rfl rfl rfl rfl (wrap64 aS)) ?_;refine bE ?_;refine dL [.cell 4 318] (H) ?_;exact⟨dO,rfl⟩
def aek(arg a slot):aG prog 290 [ab.spot arg [a],.i slot] (ab.spot arg [a,slot]):=by
 intro H;refine aM func290 λB I c=>?_;refine aO ?_;refine .qD rfl rfl rfl rfl rfl rfl rfl λdM=>?_;refine bK (λb1=>?_);refine aI ?_;refine ag (KY) ?_;refine aP ?_;refine ag (ad.arith rfl rfl rfl rfl rfl rfl (wrap64 aS)) ?_;refine bE ?_;refine dL [.cell 4 318] (H) ?_;exact⟨dO,rfl⟩
def Jb(arg)(path)(slot)(h:path.length<2):aG prog 290 [ab.spot arg path,.i slot] (ab.spot arg (path++[slot])):=by
 match path,h with
 | [],_=>exact aej arg slot
 | [a],_=>exact aek arg a slot
structure dn where
 low:Int
 high:Int
 dz:ak
 bA:Nat
 no:Nat
 whole:Bool
 gi:Bool
 av:ak
def mV(k:dn):bl:=[.i k.low,.i k.high,ab.ints k.dz,ab.set k.bA,ab.set k.no,.b k.whole,.b k.gi,ab.ints k.av]
def kn:dn:=⟨-1000000000,1000000000,[],0,0,false,false,[]⟩
def rl(arg:Int)(path:ak):dg:=[.int .i64 arg,.int .i64 path.length,.int .i64 (path.getD 0 0),.int .i64 (path.getD 1 0)]
abbrev bJ(arg:Int)(path:ak):Value:=.agg (rl arg path).toArray
abbrev iH(W:bt)(bp:Nat):ab:=.ptr [iP W,.val (.map (some bp))]
abbrev mf(bp:Nat)(al:Value->dn):bn:=.lmap bp (ev prog 318) (λv=>mV (al v)) (mV kn)
def Rl{al:Value->dn}{key}(a:(λv=>mV (al v)) key=mV kn):an (.ptr [.i (-1000000000),.i 1000000000,.val aL,.val c1,.val c1,.val (.bool false),.val (.bool false),.val aL]) (.ptr ((λv=>mV (al v)) key)):=by
 rw[a];exact an.ptr (.cons h8 (.cons h8 (.cons (an.nil _) (.cons h8 (.cons h8 (.cons h8 (.cons h8 (.cons (an.nil _) .nil))))))))
def vF(W)(j)(al)(arg)(path)(a:ev prog 318 (bJ arg path)):
  hP prog [mf j al] 289 [iH W j,ab.spot arg path] (.ptr (mV (al (bJ arg path)))):=by
 intro H f;replace f:=f _ dv;refine aM func289 λB I l=>?_;refine aP ?_;refine bP 5 28 ?_;refine aP ?_;refine .Vu (vs:=rl arg path) rfl rfl rfl rfl rfl rfl rfl rfl gu f a ?_ λAF=>?_
 ·refine ax ?_;refine .dG 7 10 28 rfl aq rfl rfl aq ?_;refine eb ?_;refine bc (λaf=>?_) (λaf=>?_)
  ·exact absurd af aS
  ·replace af:=dC af;refine ba ?_;refine aZ.cg (rs:=[.tmp 4]) (H':=H) rfl (.tmp rfl (.nil)) (.cons (.refl _) .nil) bC ?_;exact⟨dO,rfl⟩
 ·refine ax ?_;refine b0.dG 7 10 28 rfl aq rfl rfl aq ?_;refine eb ?_;refine bc (λae=>?_) (λae=>?_)
  ·replace ae:=dC ae;refine aI ?_;refine bP 6 28 ?_;refine aI ?_;refine aj.Vv (κ:=λv=>mV (al v)) (dd:=mV kn) (vs:=rl arg path) rfl rfl rfl rfl rfl rfl rfl (an.refl _) rfl rfl (Rl AF) f a ?_;refine ba ?_;refine aZ.cg (rs:=[.tmp 4]) (H':=H) rfl (.tmp rfl (.nil)) (.cons (Rl AF) .nil) bC ?_;exact⟨dO,rfl⟩
  ·exact absurd ae aS
def lG(arg:Int)(path:ak):Prop:=0<=arg/\arg<1000/\path.length<=2/\∀s∈path,0<=s/\s<1000
def Rm(h:∀s∈path,0<=s/\s<1000)(i):0<=path.getD i 0/\path.getD i 0<1000:=by
 rw[List.getD_eq_getElem?_getD];by_cases a:i<path.length
 ·rw[List.getElem?_eq_getElem a];exact h _ (List.getElem_mem a)
 ·rw[List.getElem?_eq_none aa];decide
def xL{n}(h:0<=n/\n<1000):(Go.Lit.int .i64 n).wf=true:=by
 have c:IntKind.i64.min= -9223372036854775808:=by decide
 have a:IntKind.i64.max=9223372036854775807:=by decide
 simp[Go.Lit.wf,c,a,Bool.and_eq_true,decide_eq_true_eq];omega
def sD{arg}(h:lG arg path):ev prog 318 (bJ arg path):=
 Vr (i:=3) (ar:=198) (m:=prog.types.size - 2) ay ay ay ay ay ay ay ay (xL ⟨h.1,h.2.1⟩) (xL ⟨aa,by have:=h.2.2.1;omega⟩) (xL (Rm h.2.2.2 0)) (xL (Rm h.2.2.2 1))
def ael{arg}{s}(h:lG arg path)(f:path.length<2)(c:0<=s/\s<1000):lG arg (path++[s]):=by
 refine⟨h.1,h.2.1,cB,λx a=>?_⟩;rcases List.mem_append.1 a with a | a
 ·exact h.2.2.2 x a
 ·simp at a;subst a;exact c
structure qa(W:bt)(al:Value->dn):Prop where
 slot:∀arg path,lG arg path->∀s∈(al (bJ arg path)).av,0<=s/\s<W.owner.length
 deep:∀arg path,lG arg path->path.length=2->(al (bJ arg path)).av= []
 bA:∀v,(al v).bA<18446744073709551616
 no:∀v,(al v).no<18446744073709551616
 low:∀v,-2000000000<=(al v).low/\(al v).low<=2000000000
 dz:∀v,(al v).dz.length<=1000
def DW{al}(K:qa W al)(j:W.owner.length<=40){arg}{path}(h:lG arg path){s}(a:s∈(al (bJ arg path)).av):path.length<2/\lG arg (path++[s]):=by
 have g:=K.slot arg path h s a;have f:path.length<2:=by
  have:=h.2.2.1;rcases Nat.lt_or_ge path.length 2 with c | c
  ·exact c
  ·rw[K.deep arg path h aa] at a;cases a
 exact⟨f,ael h f ⟨g.1,aa⟩⟩
def aem(W)(a)(al)(arg:Int)(path:ak)(slot:Int)(c:path.length<2)(h:lG arg (path++[slot])):
  hP prog [mf a al] 297 [.i slot,.ptr [iH W a],.ptr (nF arg path)] (.b (!(al (bJ arg (path++[slot]))).gi)):=by
 intro H g;refine aM (n:=14) func297 λB I j=>?_;refine ax ?_;refine bP 4 14 ?_;refine aF ?_;refine bg (ad.call .k (Jb arg path slot c)) ?_;refine aO ?_;refine ag (ad.hX .k (c0.refl _) (vF W a al arg (path++[slot]) (sD h)) (λe f=>by repeat (first | exact g e f | apply List.mem_cons_of_mem))) ?_;refine aI ?_;refine aC 4 (H) ?_;exact⟨dO,rfl⟩
def aen{al}(K:qa W al)(f:W.owner.length<=40){arg}{path}(h:lG arg path):
  hP prog [mf bp al] 296 [iH W bp,ab.spot arg path] (.b ((al (bJ arg path)).av.all λs=>!(al (bJ arg (path++[s]))).gi)):=by
 intro H g;refine aM func296 λB I j=>?_;refine bE ?_;refine ag (.hX .k cL (vF W bp al arg path (sD h)) (λe a=>by repeat (first | exact g e a | apply List.mem_cons_of_mem))) ?_;refine aY ?_;refine ag (ad.hX .k (c0.refl _) (OT (.of (λs c=>aem W bp al arg path s (DW K f h c).1 (DW K f h c).2))) (λe a=>by repeat (first | exact g e a | apply List.mem_cons_of_mem))) ?_;refine aY ?_;refine aC 4 (H) ?_;exact⟨dO,rfl⟩
def Jc(al:Value->dn)(arg:Int)(path:ak):Bool:=(al (bJ arg path)).av.all λs=>!(al (bJ arg (path++[s]))).gi
def sE(cls:Int):Nat:=1 ||| 2^cls.toNat
def tX(al:Value->dn)(arg:Int)(path:ak)(cls:Int):Bool:=((l4 (al (bJ arg path)).bA (sE cls):Int)==0) && ((((al (bJ arg path)).no &&& sE cls:Nat):Int)==0) && Jc al arg path
def aeo{cls}(h:0<=cls/\cls<64):sE cls<18446744073709551616:=l9 aa (q4 aa)
def Rn{al}(K:qa W al)(j:W.owner.length<=40){arg}{path}(h:lG arg path)(cls)(c:0<=cls/\cls<64):
  hP prog [mf bp al] 295 [iH W bp,ab.spot arg path,.i cls] (.b (tX al arg path cls)):=by
 intro H f;refine aM func295 λB I l=>?_;refine bY ?_;refine ag (.hX .k (c0.refl _) (vF W bp al arg path (sD h)) (λe a=>by repeat (first | exact f e a | apply List.mem_cons_of_mem))) ?_;refine ax ?_;refine ag (.call .k (vj 1 cls c aa)) ?_;refine bY ?_;refine ag (.bits rfl rfl rfl rfl rfl (MW _ (sE cls))) ?_;refine aP ?_;refine gb (λaw=>ad.bits rfl rfl rfl (by first | rfl | exact aw) (by first | rfl | exact aw) (zA _ (sE cls) (K.no _) (aeo c))) ?_;refine aT ?_;refine aj.db rfl rfl rfl rfl rfl rfl (λaw=>ad.hX zs cL (aen K j h) (λe a=>by repeat (first | exact f e a | apply List.mem_cons_of_mem))) ?_;refine aT ?_;refine aC 6 (H) ?_;exact⟨bq (by rw[tX];simp only[kd];rfl),rfl⟩
def aep{al}(K:qa W al)(f:W.owner.length<=40){arg}{path}(h:lG arg path):
  hP prog [mf bp al] 293 [iH W bp,ab.spot arg path] (.b (!(al (bJ arg path)).whole && tX al arg path 2)):=by
 intro H c;refine aM func293 λB I g=>?_;refine bY ?_;refine ag (.hX .k (c0.refl _) (vF W bp al arg path (sD h)) (λe a=>by repeat (first | exact c e a | apply List.mem_cons_of_mem))) ?_;refine aP ?_;refine aj.db rfl rfl rfl rfl rfl rfl (λaw=>ad.hX zs cL (Rn K f h 2 aa) (λe a=>by repeat (first | exact c e a | apply List.mem_cons_of_mem))) ?_;refine aT ?_;refine aC 4 (H) ?_;exact⟨bq (by simp only[kd]),rfl⟩
end Go.Proofs.YtodccgailpkgeaaGreat

