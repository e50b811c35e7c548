/- Part 18 of the proof: contracts of functions of the program and what they need. No condition beyond those that each theorem names. -/
import Derived.Test.YtodccgailpkgeaaGreatKindLeastP17
set_option maxHeartbeats 1000000
set_option linter.unusedVariables false
set_option linter.unusedSimpArgs false
set_option maxRecDepth 10000
namespace Go.Proofs.YtodccgailpkgeaaGreat
open Go.Eng
open Go.Eng.Fc
open Go.Eng.ei
variable{q:fa}{β α:Type}{f:Fact}{p:cD->Bool}{ah:Nat->Nat->Bool}{Hx H ga H':List aj}{xs ys bM cs:List aa}{y:aa}{dU cF:List Fact}{k B bo:Nat}{F:List aj->Prop}{l:List cD}{path:List Int}{W:bb}
def iO(q:fa):List Value:=q.vs++[q.gk,q.fP]
theorem aeT(q:fa):(iO q).length=q.vs.length+2:=by simp[iO]
theorem aeU{i:Nat}(h:i<q.vs.length):(iO q).getD i default=q.vs.getD i default:=by
 rw[iO,List.getD_eq_getElem?_getD,List.getElem?_append_left h,List.getD_eq_getElem?_getD]
theorem aeV(q:fa):(iO q).getD q.vs.length default=q.gk:=by simp[iO,List.getD_eq_getElem?_getD]
theorem aeW(q:fa):(iO q).getD (q.vs.length+1) default=q.fP:=by simp[iO,List.getD_eq_getElem?_getD]
section
variable{p:Prog}{ah:Nat->Nat->Bool}{q:fa}{g:GT}{Hx:List aj}
theorem xg(ak:gC p q){t:bG}(h:bA p t){i:Nat}(av:i<p.methods.length+2):(i<p.methods.length/\fB t i=t.params.getD i default/\(iO q).getD i default=q.vs.getD i default)\/(i=p.methods.length/\fB t i=t.nodes/\(iO q).getD i default=q.gk)\/(i=p.methods.length+1/\fB t i=t.aJ/\(iO q).getD i default=q.fP):=by
 have aC:=ak.qq;have aB:=h.pl;rcases Nat.lt_trichotomy i p.methods.length with ab | ab | ab
 ·exact .inl ⟨ab,by rw[fB,if_pos ad],aeU ad⟩
 ·refine .inr (.inl ⟨ab,by rw[fB,if_neg ad,if_pos ad],?_⟩);rw[ab, <-aC];exact aeV q
 ·obtain rfl:i=p.methods.length+1:=by omega
  refine .inr (.inr ⟨rfl,by rw[fB,if_neg ad,if_neg ad],?_⟩);rw[<-aC];exact aeW q
theorem aeX(ak:gC p q){t dR:bG}(h:bA p t)(cf:bA p dR){i:Nat}(av:i<p.methods.length+2):(fB t i).length=(fB dR i).length:=by
 rcases xg ak h av with⟨ab,e,_⟩ | ⟨rfl,e,_⟩ | ⟨rfl,e,_⟩ <;> rcases xg ak cf av with⟨ae,e',_⟩ | ⟨ae,e',_⟩ | ⟨ae,e',_⟩ <;> first | omega | skip
 ·have:=h.gT i ab;have:=cf.gT i ab;rw[e,e'];omega
 ·rw[e,e',h.nl,cf.nl]
 ·have:=h.aF;have:=cf.aF;rw[e,e'];omega
theorem aeY(ak:gC p q){t:bG}(h:bA p t){i:Nat}(av:i<p.methods.length+2):∀k∈fB t i,cr (a7 p) k=true:=by
 rcases xg ak h av with⟨ab,e,_⟩ | ⟨_,e,_⟩ | ⟨_,e,_⟩ <;> rw[e]
 ·exact h.kH _ (cp (by rw[h.pl];exact ab))
 ·exact h.nb
 ·exact h.fh
theorem BZ(an:(bK p).isSome=true):p.aJ<=40:=by
 obtain⟨o,aA⟩:=Option.isSome_iff_exists.1 an;have nX:=(kF aA).1;simp only[gS,Bool.and_eq_true,decide_eq_true_eq,beq_iff_eq] at nX;obtain⟨⟨⟨fC,cy⟩,AL,al⟩,hR⟩:=nX;have:=A4 _ _ cy;omega
theorem aeZ(ak:gC p q){t:bG}(h:bA p t){i:Nat}(av:i<p.methods.length+2):(fB t i).length<=1000:=by
 rcases xg ak h av with⟨ab,e,_⟩ | ⟨_,e,_⟩ | ⟨_,e,_⟩ <;> rw[e]
 ·have ae:=h.gT i ab;have al:=w0 ak.an ab;obtain⟨o,aA⟩:=Option.isSome_iff_exists.1 ak.an;have:=(uE (kF aA).2.2.1 (cp (l:=p.du) (k:=(p.methods.getD i default).gen.toNat) ad)).2;omega
 ·obtain⟨o,aA⟩:=Option.isSome_iff_exists.1 ak.an;have:=(wk aA).2;rw[h.nl];omega
 ·have:=h.aF;have:=BZ ak.an;omega
theorem E1(ak:gC p q)(h:bA p g.t){i j:Nat}(av:i<p.methods.length+2)(aU:j<(fB g.t i).length):aj.row 3 1 ((iO q).getD i default) (fB g.t i).length ((fB g.t i).map aa.i)∈b5 p ah q g Hx:=by
 rcases xg ak h av with⟨ab,e,aW⟩ | ⟨_,e,aW⟩ | ⟨_,e,aW⟩ <;> rw[e] at aU ⊢ <;> rw[aW]
 ·exact Kn (by rw[h.pl];exact ab) aU
 ·exact oJ aU
 ·exact uW aU
theorem ae0(ak:gC p q)(h:bA p g.t){i j x:Nat}(av:i<p.methods.length+2)(aU:j<(fB g.t i).length)(ag:fj p x):b1 Tryz.prog 106 [.p q.b3 0,.val (nM ((iO q).getD i default) j 1),.i x] (b5 p ah q g Hx) (λy H1=>y= .bJ []/\H1=b5 p ah q (g.qj i j x) Hx) (λ_ _=>False):=by
 have aB:=h.pl;rcases xg ak h av with⟨ab,e,aW⟩ | ⟨ab,e,aW⟩ | ⟨ab,e,aW⟩ <;> rw[e] at aU <;> rw[aW]
 ·rw[GT.qj,if_pos ad];exact SP h ak.many ab aU ag
 ·rw[GT.qj,if_neg ad,if_pos ad];exact SO h ak.many (by rw[<-h.nl];exact aU) ag
 ·rw[GT.qj,if_neg ad,if_neg ad];exact EZ h ak.many (by have:=h.aF;omega) ag
theorem ae1(ak:gC p q)(h:bA p g.t){B:Nat}{I:a8}{w:World}(az:br B I w (b5 p ah q g Hx)){i:Nat}(av:i<p.methods.length+2):∃a il,(iO q).getD i default= .slice a (fB g.t i).length il:=by
 by_cases bq:fB g.t i= []
 ·rcases xg ak h av with⟨ab,e,aW⟩ | ⟨_,e,aW⟩ | ⟨_,e,aW⟩
  ·exact absurd (e.symm.trans bq) (BV ak.an h ab)
  ·have:=h.nl;rw[<-e,bq] at this;have:=E0 ak.an;simp at*;omega
  ·rw[aW,bq];refine ak.sa ?_;have:=h.aF;rw[<-e,bq] at this;simpa using this.symm
 ·exact aj.X2 (az.ok _ (E1 ak h av (j:=0) (List.length_pos_iff.2 bq)))
theorem aq.lens{c:Ctx}{r:Option Nat}{code:Code}{env:List (Nat×aa)}{Q:Exit->Act->World->Prop}(ak:gC p q)(h:bA p g.t)(ao:(∀i,i<p.methods.length+2->∃a il,(iO q).getD i default= .slice a (fB g.t i).length il)->aq c r Tryz.prog code ⟨env,b5 p ah q g Hx⟩ Q):aq c r Tryz.prog code ⟨env,b5 p ah q g Hx⟩ Q:=λa w s=>
 ao (λi av=>let ⟨_,_,_,az,_⟩:=s.mem;ae1 ak h az av) a w s
end
theorem uB{f:β->Nat->β}(j:Nat)(g:β):(List.range (j+1)).foldl f g=f ((List.range j).foldl f g) j:=by rw[List.range_succ,List.foldl_append];rfl
theorem SZ(a b:aj)(X Y:List aj):(a::b::(X++Y)).Perm (X++(a::b::Y)):=by
 refine List.Perm.trans ?_ List.perm_middle.symm;exact .cons _ List.perm_middle.symm
theorem ae2{p:Prog}{g:GT}(ak:gC p q)(h:bA p g.t){n:Nat}(hn:n<p.nodes.length){y:ew}{bc env:List Int}{cj:Int}(eD:∀k∈bc,cr (a7 p) k=true){to:Nat}(yX:y.n=(to:Int))(wH:1<=to)(q6:to<a7 p):b1 Tryz.prog 65 [.p q.b3 0,aa.n4 n y bc env cj] (b5 p ah q g Hx) (λr H1=>r= .bJ []/\H1=b5 p ah q (tr p n to (e8 bc 0) g) Hx) (λ_ _=>False):=by
 refine b1.rF (n:=91) Tryz.func65 rfl aM rfl rfl (λB I aO=>?_);have hm:=ak.many;have wY:=qh ak.an;have BY:=tD p;have aeQ:=SW p to;have en:=oF ak.an;obtain⟨jw,hg⟩:=uY eD 0;have Ky:=kI wH q6;have zH:=ak.qq;have alr:=aeT q;refine cw ?_;refine au.cG rfl rfl rfl rfl (λtb=>?_);refine bI ?_;refine aq.ep (d:=4) rfl ey ?_;refine bg ?_;refine aG (af.le (af.eN rfl rfl rfl rfl) (aL.dx jw)) ?_;refine aG (af.call .k ((wU _))) ?_;refine bg ?_;refine aq.weaken (st':=⟨[(17,.fn (.func 76) [] [.ptr [.i (e8 bc 0)]]),(2,.ptr [.p q.b3 0]),(3,.ptr (gE n y bc env cj)),(4,.ptr [.i y.n])],(eU p q (g).ch::eL ah q (g).t)++(hO []++Hx)⟩) h2 hp ?_;refine aq.rO [] (λ_ (c:Nat)=>.i c) (λ_ _=>[]) (hV (e8 bc 0)) (λpre H=>H=eU p q ((pre.foldl (pE p n to) g)).ch::eL ah q ((pre.foldl (pE p n to) g)).t) (λ_ _ _=>False) ((eU p q (g).ch::eL ah q (g).t)) (Hx) (λ_ x=>[(5,.i x),(18,.i x),(2,.ptr [.p q.b3 0]),(3,.ptr (gE n y bc env cj)),(4,.ptr [.i y.n])]) rfl rfl rfl rfl ((wX _ (by have:=Kt hm hg;omega)).b) dJ ?_ ?_ ?_ ?_
 ·intro eJ iY fA iM x c0;refine bg ?_;exact λa w s=>⟨_,rfl,s.weaken (j3 h2) (List.Sublist.refl _)⟩
 ·intro eJ eK dw pre iM x H1 c0 iY fA e9 bF;obtain rfl:=bF;have mz:x∈hV (e8 bc 0):=e9.subset bj;have ag:x<a7 p:=wQ hg.1 mz;obtain⟨G,c8⟩:∃G,G=(pre.foldl (pE p n to) g):=⟨_,rfl⟩;have iP:bA p G.t:=by rw[c8];exact lW _ h λg c _ h=>SE h n wH q6 c
  have S0:=iP.cz n Ky;have Kz:∀i,bA p ((List.range i).foldl (nk x to) (G.cz n (2^to))).t:=λi=>lW _ S0 λg i _ h=>lW _ h λg j _ h=>Kf h x i j wH q6;have xh:∀i j,bA p ((List.range j).foldl (oH x to i) ((List.range i).foldl (nk x to) (G.cz n (2^to)))).t:=λi j=>lW _ (Kz i) λg j _ h=>Kf h x i j wH q6;have E2:bA p (GT.oI x to (G.cz n (2^to))).t:=SD S0 x wH q6;have S1:∀k,bA p (((hC p to).take k).foldl (λg s=>if fT p x s then g else GT.begin p to g s) (GT.oI x to (G.cz n (2^to)))).t:=λk=>lW _ E2 λg s _ h=>by
   split
   ·exact h
   ·exact EV h to s
  rw[<-c8];refine bs ?_;refine aZ (λai=>?_) λai=>?_
  ·have w8:x<3:=by omega
   refine bg ?_;exact aR.nA (H:=eU p q (G).ch::eL ah q (G).t) lv (by rw[List.foldl_append, <-c8,List.foldl_cons,List.foldl_nil,pE,if_pos w8])
  ·have w8: ¬x<3:=by omega
   refine bg ?_;refine aq.perm (SZ _ _ (eU p q (G).ch::eL ah q (G).t) _) ?_;refine aq.bL mixed ?_;refine bk.b7 0 4 91 rfl ay rfl rfl ay ?_;refine bC ?_;refine bU.bB rfl rfl rfl (af.le (af.eN rfl rfl rfl rfl) (aL.dx yX)) ?_;refine bU.bB rfl rfl rfl (af.shift rfl rfl rfl rfl rfl ad (r1 to ⟨ad,ad⟩)) ?_;refine bC ?_;refine dE .k ((qk (Hx:=(.loop eJ dw (aX [(17,.fn (.func 76) [] [.ptr [.i (e8 bc 0)]]),(2,.ptr [.p q.b3 0]),(3,.ptr (gE n y bc env cj)),(4,.ptr [.i y.n])])::.obj eK (.deferred (some []))::c0)) ak iP hn Ky y bc env cj).b) ?_;rintro _ _ ⟨rfl,rfl⟩;refine bI ?_;refine aq.bL mixed ?_;refine bk.uo (X:=p0) [⟨5,31,false⟩,⟨17,43,false⟩] (λJ=>match J with | [some v,none]=>.own 23 1 v::b5 p ah q (G.cz n (2^to)) (.loop eJ dw (aX [(17,.fn (.func 76) [] [.ptr [.i (e8 bc 0)]]),(2,.ptr [.p q.b3 0]),(3,.ptr (gE n y bc env cj)),(4,.ptr [.i y.n])])::.obj eK (.deferred (some []))::c0) | [_,some u]=>.own 23 1 u::b5 p ah q (G.cz n (2^to)) (.loop eJ dw (aX [(17,.fn (.func 76) [] [.ptr [.i (e8 bc 0)]]),(2,.ptr [.p q.b3 0]),(3,.ptr (gE n y bc env cj)),(4,.ptr [.i y.n])])::.obj eK (.deferred (some []))::c0) | _=>b5 p ah q (G.cz n (2^to)) (.loop eJ dw (aX [(17,.fn (.func 76) [] [.ptr [.i (e8 bc 0)]]),(2,.ptr [.p q.b3 0]),(3,.ptr (gE n y bc env cj)),(4,.ptr [.i y.n])])::.obj eK (.deferred (some []))::c0)) (λj J=>match j,J with | 0,[some v,_]=>.as (.aF 1 (q.vs.map λv=>[aa.val v])) v | 1,[_,some u]=>.as (.aF 1 ((q.vs.map λv=>[aa.val v])++[[.val q.gk],[.val q.fP]])) u | _,_=>.any) 0 20 91 rfl ay ay rfl rfl ay rfl (λ_ _ _ _ _ _ _ _ _ h=>h.elim) ?_;refine bp.cS [[false,false]] rfl ay rfl rfl rfl ⟨λf=>dI,trivial⟩ ?_;refine bp.cS [[false,false]] rfl ay rfl rfl rfl ⟨λf=>hH,trivial⟩ ?_;refine bp.cS [[false,false]] rfl ay rfl rfl rfl ⟨λf=>cK,trivial⟩ ?_;refine bp.cS [[false,false]] rfl ay rfl rfl rfl ⟨λf=>cK,trivial⟩ ?_;refine bp.cS [[false,false]] rfl ay rfl rfl rfl ⟨λf=>dI,trivial⟩ ?_;refine bp.mC 0 [[false,false]] rfl rfl rfl ay rfl rfl rfl ⟨λf=>⟨et.Yf .k (λB=>(aeF (vs:=q.vs) ad ak.BU _).b) (λ_=>rfl) (λ_=>rfl),jn⟩,trivial⟩ ?_;refine bp.cS [[true,false],[false,false]] rfl ay rfl rfl rfl ⟨λf=>dI,λf=>dI,trivial⟩ ?_;refine bp.cS [[true,false],[false,false]] rfl ay rfl rfl rfl ⟨λf=>hH,λf=>hH,trivial⟩ ?_;refine bp.cS [[true,false],[false,false]] rfl ay rfl rfl rfl ⟨λf=>cK,λf=>cK,trivial⟩ ?_;refine bp.cS [[true,false],[false,false]] rfl ay rfl rfl rfl ⟨λf=>cK,λf=>cK,trivial⟩ ?_;refine bp.cS [[true,false],[false,false]] rfl ay rfl rfl rfl ⟨λf=>dI,λf=>dI,trivial⟩ ?_;refine bp.cS [[true,false],[false,false]] rfl ay rfl rfl rfl ⟨λf=>dI,λf=>dI,trivial⟩ ?_;refine bp.cS [[true,false],[false,false]] rfl ay rfl rfl rfl ⟨λf=>hH,λf=>hH,trivial⟩ ?_;refine bp.cS [[true,false],[false,false]] rfl ay rfl rfl rfl ⟨λf=>cK,λf=>cK,trivial⟩ ?_;refine bp.cS [[true,false],[false,false]] rfl ay rfl rfl rfl ⟨λf=>cK,λf=>cK,trivial⟩ ?_;refine bp.cS [[true,false],[false,false]] rfl ay rfl rfl rfl ⟨λf=>dI,λf=>dI,trivial⟩ ?_;refine bp.cS [[true,false],[false,false]] rfl ay rfl rfl rfl ⟨λf=>af.AJ [(true,.val q.gk),(true,.val q.fP)] rfl rfl rfl rfl (by simp only[List.all_cons,List.all_nil,ha,ak.n3,ak.rh];rfl) rfl rfl rfl,λf=>af.AJ [(true,.val q.gk),(true,.val q.fP)] rfl rfl rfl rfl (by simp only[List.all_cons,List.all_nil,ha,ak.n3,ak.rh];rfl) rfl rfl rfl,trivial⟩ ?_;refine bp.mC 1 [[true,false]] rfl rfl rfl ay rfl rfl rfl ⟨λf=>⟨et.own (news:=[[.val q.gk],[.val q.fP]]) rfl rfl rfl (aL.refl _) rfl rfl (aL.refl _) (Kw (vs:=[q.gk,q.fP]) (by intro v aC;simp at aC;rcases aC with rfl | rfl;exact ak.n3;exact ak.rh)) dj dj (λ_=>by repeat (first | exact bu.head _ _ _ | apply bu.tail)) (λ_=>rfl),jn⟩,trivial⟩ ?_;refine bp.cS [[true,true]] rfl ay rfl rfl rfl ⟨λf=>Cu,trivial⟩ ?_;refine bp.cS [[true,true],[true,false],[false,false]] rfl ay rfl rfl rfl ⟨λf=>af.move rfl rfl rfl,λf=>af.move rfl rfl rfl,λf=>af.move rfl rfl rfl,trivial⟩ ?_;refine bp.nil (λf=>?_);simp only[mB,List.map_cons,List.map_nil,List.cons_append,List.nil_append];refine bk.done rfl ?_;refine bC ?_;refine aq.le 43 (y:=.aF 1 ((iO q).map λv=>[aa.val v])) rfl (by rw[iO,List.map_append];exact aL.hb _ _) ?_;refine aq.le 44 (y:=.i ((iO q).length:Int)) rfl (aL.dx (by simp[iO])) ?_;refine cq (λm st=>∃i:Nat,st=⟨[(45,.i i),(44,.i (iO q).length),(43,.aF 1 ((iO q).map λv=>[aa.val v])),(5,.i x),(2,.ptr [.p q.b3 0]),(3,.ptr (gE n y bc env cj)),(4,.ptr [.i y.n])],b5 p ah q ((List.range i).foldl (nk x to) (G.cz n (2^to))) (.loop eJ dw (aX [(17,.fn (.func 76) [] [.ptr [.i (e8 bc 0)]]),(2,.ptr [.p q.b3 0]),(3,.ptr (gE n y bc env cj)),(4,.ptr [.i y.n])])::.obj eK (.deferred (some []))::c0)⟩/\m=(iO q).length - i/\i<=(iO q).length) (⟨0,rfl,rfl,ad⟩) ?_;rintro m _ ⟨i,rfl,rfl,av⟩;refine aT ?_;refine aZ (λab=>?_) λab=>?_
   ·have a1:i<(iO q).length:=by omega
    have k3:i<p.methods.length+2:=by omega
    refine cT ?_;refine aq.lens ak (Kz i) (λhlen=>?_);refine bC ?_;refine aG (af.Yb (hlen i k3) rfl rfl rfl) ?_;refine bI ?_;refine cq (λm st=>∃j:Nat,st=⟨[(51,.i j),(50,.i (fB ((List.range i).foldl (nk x to) (G.cz n (2^to))).t i).length),(49,.val ((iO q).getD i default)),(7,.val ((iO q).getD i default)),(45,.i i),(44,.i (iO q).length),(43,.aF 1 ((iO q).map λv=>[aa.val v])),(5,.i x),(2,.ptr [.p q.b3 0]),(3,.ptr (gE n y bc env cj)),(4,.ptr [.i y.n])],b5 p ah q ((List.range j).foldl (oH x to i) ((List.range i).foldl (nk x to) (G.cz n (2^to)))) (.loop eJ dw (aX [(17,.fn (.func 76) [] [.ptr [.i (e8 bc 0)]]),(2,.ptr [.p q.b3 0]),(3,.ptr (gE n y bc env cj)),(4,.ptr [.i y.n])])::.obj eK (.deferred (some []))::c0)⟩/\m=(fB ((List.range i).foldl (nk x to) (G.cz n (2^to))).t i).length - j/\j<=(fB ((List.range i).foldl (nk x to) (G.cz n (2^to))).t i).length) (⟨0,rfl,rfl,ad⟩) ?_;rintro m _ ⟨j,rfl,rfl,aU⟩;refine aT ?_;refine aZ (λae=>?_) λae=>?_
    ·have c3:j<(fB ((List.range i).foldl (nk x to) (G.cz n (2^to))).t i).length:=by omega
     have Bn:=aeX ak (Kz i) (xh i j) k3;have eY:=aeZ ak (xh i j) k3;have yY:j<(fB ((List.range j).foldl (oH x to i) ((List.range i).foldl (nk x to) (G.cz n (2^to)))).t i).length:=by omega
     have rH:=k6.1 (aeY ak (xh i j) k3 _ (cp yY));have eh:=uB (f:=oH x to i) j ((List.range i).foldl (nk x to) (G.cz n (2^to)));refine eb ?_;refine aG (af.jF rfl rfl rfl rfl rfl (E1 ak (xh i j) k3 yY) ⟨ad,ad⟩) ?_;refine aG (af.le (af.m9 rfl rfl rfl (E1 ak (xh i j) k3 yY) (pJ yY)) (aL.dx rH.1)) ?_;refine bt ?_;refine aG (af.call .k (JB _ x ad)) ?_;refine bC ?_;refine aq.cond rfl (λaD=>?_) (λaD=>?_)
     ·have yZ:oH x to i ((List.range j).foldl (oH x to i) ((List.range i).foldl (nk x to) (G.cz n (2^to)))) j=_:=if_pos aD;refine aq.bL mixed ?_;refine bk.b7 0 6 91 rfl ay rfl rfl ay ?_;refine bg ?_;refine bU.bB rfl rfl rfl (af.jF rfl rfl rfl rfl rfl (E1 ak (xh i j) k3 yY) ⟨ad,ad⟩) ?_;refine bU.bB rfl rfl rfl (af.le (af.eN rfl rfl rfl rfl) (aL.dx yX)) ?_;refine bU.bB rfl rfl rfl (af.shift rfl rfl rfl rfl rfl ad (r1 to ⟨ad,ad⟩)) ?_;refine bC ?_;refine dE .k ((ae0 (Hx:=(.loop eJ dw (aX [(17,.fn (.func 76) [] [.ptr [.i (e8 bc 0)]]),(2,.ptr [.p q.b3 0]),(3,.ptr (gE n y bc env cj)),(4,.ptr [.i y.n])])::.obj eK (.deferred (some []))::c0)) ak (xh i j) k3 yY Ky).b) ?_;rintro _ _ ⟨rfl,rfl⟩;refine bn ?_;exact bV (⟨j+1,by rw[eh,yZ],rfl,c3⟩)
     ·have yZ:oH x to i ((List.range j).foldl (oH x to i) ((List.range i).foldl (nk x to) (G.cz n (2^to)))) j=_:=if_neg (by rw[aD];decide);refine bn ?_;exact bV (⟨j+1,by rw[eh,yZ],rfl,c3⟩)
    ·obtain rfl:j=(fB ((List.range i).foldl (nk x to) (G.cz n (2^to))).t i).length:=by omega
     refine c6 ?_;exact bV (⟨i+1,by rw[uB],rfl,a1⟩)
   ·have zI:i=G.t.params.length+2:=by have:=iP.pl;omega
    have ae3:((List.range i).foldl (nk x to) (G.cz n (2^to)))=(GT.oI x to (G.cz n (2^to))):=by rw[zI];rfl
    rw[ae3];refine aT ?_;refine aq.bL mixed ?_;refine bk.b7 0 9 91 rfl ay rfl rfl ay ?_;refine bI ?_;refine bU.bB rfl rfl rfl (af.le (af.eN rfl rfl rfl rfl) (aL.dx yX)) ?_;refine bU.bB rfl rfl rfl ((by first | exact af.iQ rfl rfl rfl rfl rfl (by rw[BY];exact q6) | exact af.h1 rfl rfl rfl rfl rfl (by rw[BY];exact q6))) ?_;refine bU.bB rfl rfl rfl (af.le (af.eN rfl rfl rfl rfl) (by rw[SX q6];exact aL.refl _)) ?_;refine bg ?_;refine bk.done rfl ?_;refine bC ?_;refine cq (λm st=>∃k:Nat,st=⟨[(77,.i k),(76,.i (hC p to).length),(75,aa.ints (hC p to)),(5,.i x),(2,.ptr [.p q.b3 0]),(3,.ptr (gE n y bc env cj)),(4,.ptr [.i y.n])],b5 p ah q (((hC p to).take k).foldl (λg s=>if fT p x s then g else GT.begin p to g s) (GT.oI x to (G.cz n (2^to)))) (.loop eJ dw (aX [(17,.fn (.func 76) [] [.ptr [.i (e8 bc 0)]]),(2,.ptr [.p q.b3 0]),(3,.ptr (gE n y bc env cj)),(4,.ptr [.i y.n])])::.obj eK (.deferred (some []))::c0)⟩/\m=(hC p to).length - k/\k<=(hC p to).length) (⟨0,rfl,rfl,ad⟩) ?_;rintro m _ ⟨k,rfl,rfl,ao⟩;refine aT ?_;refine aZ (λaV=>?_) λaV=>?_
    ·have dP:k<(hC p to).length:=by omega
     have o8:=tu _ (cp dP);have eh:=Kv (f:=(λg s=>if fT p x s then g else GT.begin p to g s)) dP (GT.oI x to (G.cz n (2^to)));refine lL ?_;refine aG (af.sR .k (gb.e2 ak (S1 k) (pre:=[]) (post:=[.i (x:Int),.i ((hC p to).getD k default)])) (BH _ ak.an ag _)) ?_;refine bg ?_;refine aq.cond rfl (λbl=>?_) (λbl=>?_)
     ·have bl:fT p x ((hC p to).getD k default)=false:=by simpa using bl
      refine bC ?_;refine aG (af.le (af.eN rfl rfl rfl rfl) (aL.dx yX)) ?_;refine bt ?_;refine dE .k ((SS (Hx:=(.loop eJ dw (aX [(17,.fn (.func 76) [] [.ptr [.i (e8 bc 0)]]),(2,.ptr [.p q.b3 0]),(3,.ptr (gE n y bc env cj)),(4,.ptr [.i y.n])])::.obj eK (.deferred (some []))::c0)) ak (S1 k) q6 o8.1 o8.2).b) ?_;rintro _ _ ⟨rfl,rfl⟩;refine bn ?_;exact bV (⟨k+1,by rw[eh,if_neg (by rw[bl];decide)],rfl,dP⟩)
     ·have bl:fT p x ((hC p to).getD k default)=true:=by simpa using bl
      refine bn ?_;exact bV (⟨k+1,by rw[eh,if_pos bl],rfl,dP⟩)
    ·obtain rfl:k=(hC p to).length:=by omega
     rw[List.take_length];refine bz ?_;refine aR.perm (SZ _ _ (eU p q (((hC p to).foldl (λg s=>if fT p x s then g else GT.begin p to g s) (GT.oI x to (G.cz n (2^to))))).ch::eL ah q (((hC p to).foldl (λg s=>if fT p x s then g else GT.begin p to g s) (GT.oI x to (G.cz n (2^to))))).t) _).symm ?_;exact aR.nA (H:=eU p q (((hC p to).foldl (λg s=>if fT p x s then g else GT.begin p to g s) (GT.oI x to (G.cz n (2^to))))).ch::eL ah q (((hC p to).foldl (λg s=>if fT p x s then g else GT.begin p to g s) (GT.oI x to (G.cz n (2^to))))).t) lv (by rw[List.foldl_append, <-c8,List.foldl_cons,List.foldl_nil,pE,if_neg w8])
 ·intro eK H1 bF;obtain rfl:=bF;refine bt ?_;refine aR.l9 (eK::[]) (eU p q ((tr p n to (e8 bc 0) g)).ch::eL ah q ((tr p n to (e8 bc 0) g)).t) Hx (rs:=[]) (H':=b5 p ah q (tr p n to (e8 bc 0) g) Hx) rfl hp (.nil) (bO.refl _) b8 ?_;exact⟨rfl,rfl⟩
 ·intro eK r2 pre H1 e9 k5;exact k5.elim
theorem gb.mono{H db:List aj}(h:gb H xs ys)(aH:∀e∈H,e∈db):gb db xs ys:=λB I w eo vs hw az ae aK=>h B I w eo vs hw az (λe he=>ae e (aH e he)) aK
theorem gb.par{x y:aa}(ab:gb H [x] [y])(ae:gb H xs ys):gb H (x::xs) (y::ys):=λB I w eo vs hw az aH aK=>by
 cases aK with
 | cons _ v _ vs ag ht=>
  obtain⟨J,qP,nF⟩:=ab B I w eo [v] hw az aH (.cons _ _ _ _ ag .nil);obtain⟨K,lI,c1⟩:=ae B I w eo vs hw az aH ht;refine⟨mM w,λ_ _ h=>h,?_⟩;cases nF with
  | cons _ _ _ _ a b=>exact .cons _ _ _ _ (a.bQ ⟨qP,λ_ _ _=>rfl⟩) (c1.bQ ⟨lI,λ_ _ _=>rfl⟩)
theorem gb.ae4{p:Prog}{g:GT}(ak:gC p q)(h:bA p g.t)(aH:∀e∈eU p q g.ch::eL ah q g.t,e∈H):gb H [.p q.b3 0] [aa.e2 p g.t]:=
 gb.mono (gb.e2 (ah:=ah) (Hx:=[]) ak h (pre:=[]) (post:=[])) λe he=>aH e (by simpa [b5] using he)
theorem ae5{p:Prog}{g:GT}(Bx:gC p q)(h:bA p g.t){gen:Int}{kinds:List Int}(ao:∀k∈kinds,cr (a7 p) k=true)(dP:(kinds.length:Int)=gU p gen)(BL:kinds.length<=1000):b1 Tryz.prog 53 [.p q.b3 0,.i gen,aa.ints kinds] (b5 p ah q g Hx) (λr H1=>r= .bJ [aa.ints ((hj p g.t gen kinds).map (·.1)),aa.bD ((hj p g.t gen kinds).map (·.2))]/\H1=b5 p ah q g Hx) (λ_ _=>False):=by
 refine b1.rF (n:=71) Tryz.func53 rfl aM rfl rfl (λB I aO=>?_);have an:=Bx.an;have aH:pB p g.t:=h.fh;have eZ:=h.aF;have EN:=qg an;have wY:=qh an;have en:=oF an;have eD:=J2 an ao;refine ma ?_;refine aq.iq 6 3 1 rfl ?_;refine aq.iq 7 23 1 rfl ?_;refine aq.AK (λz st=>∃(m:Nat) (v1 v2:Value),st=⟨[(21,.i m),(20,.i p.methods.length),(19,.aF 9 (p.methods.map fw)),(6,.as (aa.ints ((jH p g.t gen kinds m).map (·.1))) v1),(7,.as (aa.bD ((jH p g.t gen kinds m).map (·.2))) v2),(1,.i gen),(2,aa.ints kinds),(3,.ptr [.p q.b3 0])],.own 23 1 v2::.own 3 1 v1::eU p q g.ch::eL ah q g.t⟩/\z=p.methods.length - m/\m<=p.methods.length) [] Hx ⟨_,_,⟨0,_,_,rfl,rfl,ad⟩,h2,hp⟩ ?_;intro hP;rintro z _ ⟨m,v1,v2,rfl,rfl,hm⟩;refine aT ?_;refine aZ (λai=>?_) λai=>?_
 ·have ld:m<p.methods.length:=by omega
  obtain⟨M,bT⟩:∃M,M=p.methods.getD m default:=⟨_,rfl⟩;have wK:=Sm (p:=p) (t:=g.t) (gen:=gen) (kinds:=kinds) (m:=m);have BM:=Sn (p:=p) (t:=g.t) (gen:=gen) (kinds:=kinds) (m:=m);have w5:=Sp (p:=p) (t:=g.t) (gen:=gen) (kinds:=kinds) (m:=m);rw[<-bT] at wK BM w5;refine bS ?_;refine au.cG rfl rfl rfl rfl (λbo=>?_);refine aT ?_;rw[<-bT];refine aq.ep (d:=9) rfl ey ?_;refine bn ?_;refine aZ (λab=>?_) λab=>?_
  ·refine bs ?_;refine aR.pe hP (⟨m+1,v1,v2,by rw[wK ab],rfl,ld⟩) ?_ ?_ ?_
   ·omega
   ·repeat (first | exact trivial | refine⟨rfl,?_⟩)
   ·repeat (first | exact List.Sublist.refl _ | apply List.Sublist.cons_cons | refine List.Sublist.cons _ ?_)
  ·have uv:∀x∈fU kinds,jD p x M.fact:=λx ag=>by
    have pc:ln p (m:Int)=true:=by unfold ln;simp;omega
    have bl:=EI an pc (l:=x) L9;rw[show ((m:Int)).toNat=m from rfl, <-bT] at bl;exact bl
   refine aT ?_;refine au.Ap (kinds.length) rfl rfl rfl rfl rfl rfl rfl rfl (rfl) ad lu (λde=>?_);refine au.cG rfl rfl rfl rfl (λhx=>?_);refine au.cG rfl rfl rfl rfl (λie=>?_);refine aT ?_;rw[Ss];refine bC ?_;refine aG (af.call .k ((J0 _))) ?_;refine bg ?_;refine aq.weaken (st':=⟨[(34,.fn (.func 116) [] [.ptr [aa.ints kinds]]),(8,.i m),(9,.ptr (fw M)),(10,.p hx 0),(11,.p ie 0),(21,.i m),(20,.i p.methods.length),(19,.aF 9 (p.methods.map fw)),(6,.as (aa.ints ((jH p g.t gen kinds m).map (·.1))) v1),(7,.as (aa.bD ((jH p g.t gen kinds m).map (·.2))) v2),(1,.i gen),(2,aa.ints kinds),(3,.ptr [.p q.b3 0])],(.aI ie 4 [.b false]::.aI hx 23 [gV de kinds.length]::fW de (iL [] kinds.length)::.own 23 1 v2::.own 3 1 v1::eU p q g.ch::eL ah q g.t)++(hO hP++Hx)⟩) h2 hp ?_;refine aq.rO hP (λb (_:List Int)=>gV b kinds.length) (λb x=>[fW b x]) (fU kinds) (λpre H=>H=(.aI ie 4 [.b (!(pre.filter (λl=>(e1 p g.t l M.fact).1)).isEmpty)]::.aI hx 23 [gV de kinds.length]::fW de (iL (pre.filter (λl=>(e1 p g.t l M.fact).1)) kinds.length)::.own 23 1 v2::.own 3 1 v1::eU p q g.ch::eL ah q g.t)) (λ_ _ _=>False) ((.aI ie 4 [.b false]::.aI hx 23 [gV de kinds.length]::fW de (iL [] kinds.length)::.own 23 1 v2::.own 3 1 v1::eU p q g.ch::eL ah q g.t)) (Hx) (λb x=>[(12,gV b kinds.length),(35,gV b kinds.length),(9,.ptr (fw M)),(10,.p hx 0),(11,.p ie 0),(3,.ptr [.p q.b3 0])]) rfl rfl rfl rfl (J1 _ eD BL) dJ ?_ ?_ ?_ ?_
   ·intro eJ iY fA iM x c0;refine bg ?_;exact λa w s=>⟨_,rfl,s.weaken (j3 h2) (List.Sublist.refl _)⟩
   ·intro eJ eK dw pre iM x H1 c0 iY fA e9 bF;obtain rfl:=bF;have mz:x∈fU kinds:=e9.subset bj;obtain⟨my,EO⟩:=rq mz;have dp:=w4 ao mz;obtain⟨A,tj⟩:∃A,A=(pre.filter (λl=>(e1 p g.t l M.fact).1)):=⟨_,rfl⟩;rw[<-tj];have tk:∀y∈A,y∈fU kinds:=λy hy=>by rw[tj] at hy;exact e9.subset (List.mem_append_left _ (List.mem_filter.1 hy).1)
    refine bs ?_;refine aG (af.sR .k (gb.par (gb.ae4 Bx h (λe he=>.tail _ (.tail _ (List.mem_append_left _ (.tail _ (.tail _ (.tail _ (.tail _ (.tail _ he))))))))) (gb.outs (pre:=[aa.fact M.fact]) (post:=[]) (nb:=iM) (o:=x) (.tail _ (.tail _ (List.mem_append_right _ (.head _)))) my ad)) (EE an aH eZ dp _ (uv x mz))) ?_;refine aG (af.call .k ((yL _))) ?_;refine bg ?_;refine aq.cond rfl (λae=>?_) (λae=>?_)
    ·have ae:(e1 p g.t x M.fact).1=false:=by simpa using ae
     refine bg ?_;exact aR.nA (H:=(.aI ie 4 [.b (!A.isEmpty)]::.aI hx 23 [gV de kinds.length]::fW de (iL A kinds.length)::.own 23 1 v2::.own 3 1 v1::eU p q g.ch::eL ah q g.t)) lv (by rw[AU (q:=(λl=>(e1 p g.t l M.fact).1)) ae, <-tj])
    ·have ae:(e1 p g.t x M.fact).1=true:=by simpa using ae
     refine fk ?_;rw[<-Si A x];refine cq (λz st=>∃j:Nat,st=⟨[(45,.i j),(44,.i kinds.length),(43,gV iM kinds.length),(12,gV iM kinds.length),(9,.ptr (fw M)),(10,.p hx 0),(11,.p ie 0),(3,.ptr [.p q.b3 0])],.loop eJ dw (aX [(34,.fn (.func 116) [] [.ptr [aa.ints kinds]]),(8,.i m),(9,.ptr (fw M)),(10,.p hx 0),(11,.p ie 0),(21,.i m),(20,.i p.methods.length),(19,.aF 9 (p.methods.map fw)),(6,.as (aa.ints ((jH p g.t gen kinds m).map (·.1))) v1),(7,.as (aa.bD ((jH p g.t gen kinds m).map (·.2))) v2),(1,.i gen),(2,aa.ints kinds),(3,.ptr [.p q.b3 0])])::.obj eK (.deferred (some []))::((.aI ie 4 [.b true]::.aI hx 23 [gV de kinds.length]::fW de (oG A x kinds.length j)::.own 23 1 v2::.own 3 1 v1::eU p q g.ch::eL ah q g.t)++([fW iM x]++c0))⟩/\z=kinds.length - j/\j<=kinds.length) (⟨0,rfl,rfl,ad⟩) ?_;rintro z _ ⟨j,rfl,rfl,aU⟩;refine aT ?_;refine aZ (λaD=>?_) λaD=>?_
     ·have c3:j<kinds.length:=by omega
      obtain⟨c,ak,_⟩:=EO j c3;have im:=dp _ (cp (l:=x) (k:=j) ad);rw[ak] at im;have ly:mn A j<2^62:=Sh (m:=a7 p) ad A (λy hy=>by have J4:=(rq (tk y hy)).1;have di:=w4 ao (tk y hy) _ (cp (l:=y) (k:=j) ad);omega) (λy hy=>by have J4:=(rq (tk y hy)).1;have di:=w4 ao (tk y hy) _ (cp (l:=y) (k:=j) ad);omega);have h4:=Sl (L:=A) (x:=x) c3;rw[ak] at h4;refine bn ?_;refine aG (af.m6 rfl rfl rfl rfl rfl ad) ?_;refine aG (af.le (by apply af.lr rfl rfl rfl;(case hm=>exact .tail _ (.tail _ (List.mem_append_right _ (.head _))));(case hy=>exact ints_at ad)) (aL.dx ak)) ?_;refine bI ?_;refine aq.bL mixed ?_;refine bk.b7 0 6 71 rfl ay rfl rfl ay ?_;refine bC ?_;refine bU.bB rfl rfl rfl (af.m6 rfl rfl rfl rfl rfl ad) ?_;refine bU.bB rfl rfl rfl (af.le LR (aL.dx (Sk c3))) ?_;refine bt ?_;refine bU.bB rfl rfl rfl (af.shift rfl rfl rfl rfl rfl ad (r1 c ⟨ad,ad⟩)) ?_;refine bC ?_;refine aG (af.bits rfl rfl rfl rfl rfl (wO _ _ ad (Nat.pow_lt_pow_right (a:=2) (n:=63) e3 ad))) ?_;refine aG (af.m6 rfl rfl rfl rfl rfl ad) ?_;apply au.j9 rfl rfl rfl rfl rfl rfl rfl rfl rfl rfl
      (case hu=>repeat (first | exact bu.head _ _ _ | apply bu.tail));(case hfit=>simp[Cz];omega);(case hds=>exact (ints_set Mm _).trans Mj)
      refine bn ?_;exact bV (⟨j+1,rfl,rfl,c3⟩)
     ·obtain rfl:j=kinds.length:=by omega
      rw[Sj];refine bz ?_;exact aR.nA (H:=(.aI ie 4 [.b true]::.aI hx 23 [gV de kinds.length]::fW de (iL (A++[x]) kinds.length)::.own 23 1 v2::.own 3 1 v1::eU p q g.ch::eL ah q g.t)) lv (by rw[AT (q:=(λl=>(e1 p g.t l M.fact).1)) ae, <-tj,show (!(A++[x]).isEmpty)=true by simp])
   ·intro ni H1 bF;obtain rfl:=bF;have J5:(fU kinds).filter (λl=>(e1 p g.t l M.fact).1)=iZ p g.t M.fact kinds:=rfl;rw[J5];refine bn ?_;refine aq.cond rfl (λaV=>?_) (λaV=>?_)
    ·have cy:iZ p g.t M.fact kinds≠ []:=λe=>by rw[e] at aV;simp at aV
     obtain⟨G,c8⟩:∃G,G=iL (iZ p g.t M.fact kinds) kinds.length:=⟨_,rfl⟩;rw[<-c8] at w5 ⊢;rw[St de hx G 0];refine aq.perm (H':=.aI de 3 ((G.map λx=>[aa.i x]).flatten++[])::.aI hx 23 ([]++gV de kinds.length::[])::(.aI ie 4 [.b (!(iZ p g.t M.fact kinds).isEmpty)]::.own 23 1 v2::.own 3 1 v1::((eU p q g.ch::eL ah q g.t)++(hO (ni::hP)++Hx)))) (((List.Perm.swap _ _ _).trans (.cons _ (.swap _ _ _))).trans (.swap _ _ _)) ?_;refine aq.On (k:=1) (by rw[List.length_map,c8];simp[iL]) (λe he=>by obtain⟨y,_,rfl⟩:=List.mem_map.1 he;rfl) (Nat.le_refl _) lu ?_;refine aq.ep (d:=10) rfl ey ?_;refine aq.bL mixed ?_;refine bk.uo (X:=p0) [⟨3,63,false⟩] (λJ=>match J with | [some a]=>.aI ie 4 [.b (!(iZ p g.t M.fact kinds).isEmpty)]::.own 23 1 v2::.own 3 1 a::((eU p q g.ch::eL ah q g.t)++(hO (ni::hP)++Hx)) | _=>.aI ie 4 [.b (!(iZ p g.t M.fact kinds).isEmpty)]::.own 23 1 v2::.own 3 1 v1::((eU p q g.ch::eL ah q g.t)++(hO (ni::hP)++Hx))) (λj J=>match j,J with | 0,[some a]=>.as (.aF 1 (((jH p g.t gen kinds m).map (·.1)).map (λn=>[aa.i n])++[[.i (m:Int)]])) a | _,_=>.any) 0 7 71 rfl ay ay rfl rfl ay rfl (λ_ _ _ _ _ _ _ _ _ h=>h.elim) ?_;refine bp.cS [[false]] rfl ay rfl rfl rfl ⟨λf=>af.move rfl rfl rfl,trivial⟩ ?_;refine bp.cS [[false]] rfl ay rfl rfl rfl ⟨λf=>af.move rfl rfl rfl,trivial⟩ ?_;refine bp.cS [[false]] rfl ay rfl rfl rfl ⟨λf=>af.row (els:=[[.i (m:Int)]]) rfl rfl c4 rfl rfl rfl rfl rfl rfl,trivial⟩ ?_;refine bp.mC 0 [[false]] rfl rfl rfl ay rfl rfl rfl ⟨λf=>⟨et.own (news:=[[.i (m:Int)]]) rfl rfl rfl (aL.refl _) rfl rfl (aL.refl _) rfl Cn Cn (λ_=>by repeat (first | exact bu.head _ _ _ | apply bu.tail)) (λ_=>rfl),jn⟩,trivial⟩ ?_;refine bp.cS [[true],[false]] rfl ay rfl rfl rfl ⟨λf=>af.move rfl rfl rfl,λf=>af.move rfl rfl rfl,trivial⟩ ?_;refine bp.cS [[true],[false]] rfl ay rfl rfl rfl ⟨λf=>dI,λf=>dI,trivial⟩ ?_;refine bp.cS [[true],[false]] rfl ay rfl rfl rfl ⟨λf=>af.row (els:=[[aa.ints G]]) rfl rfl c4 rfl rfl rfl rfl rfl rfl,λf=>af.row (els:=[[aa.ints G]]) rfl rfl c4 rfl rfl rfl rfl rfl rfl,trivial⟩ ?_;refine bp.nil (λf=>?_);simp only[mB,List.map_cons,List.map_nil,List.cons_append,List.nil_append];refine bt ?_;refine au.gu rfl rfl rfl rfl rfl rfl rfl rfl (aL.refl _) (rfl) (λv=>by repeat (first | exact bu.head _ _ _ | apply bu.tail)) Cn Cn (λJ6=>?_);refine bS ?_;refine aR.pe (ni::hP) (⟨m+1,f 63,J6,by rw[w5 ab cy,Sq,Sr],rfl,ld⟩) ?_ ?_ ?_
     ·omega
     ·repeat (first | exact trivial | refine⟨rfl,?_⟩)
     ·repeat (first | exact List.Sublist.refl _ | apply List.Sublist.cons_cons | refine List.Sublist.cons _ ?_)
    ·have cy:iZ p g.t M.fact kinds= []:=by simpa using aV
     refine bn ?_;refine aR.pe (ni::hP) (⟨m+1,v1,v2,by rw[BM cy],rfl,ld⟩) ?_ ?_ ?_
     ·omega
     ·repeat (first | exact trivial | refine⟨rfl,?_⟩)
     ·repeat (first | exact List.Sublist.refl _ | apply List.Sublist.cons_cons | refine List.Sublist.cons _ ?_)
   ·intro ni r2 pre H1 e9 k5;exact k5.elim
 ·obtain rfl:m=p.methods.length:=by omega
  refine eb ?_;refine aR.l9 hP (eU p q g.ch::eL ah q g.t) Hx (rs:=[.tmp 6,.tmp 7]) (H':=b5 p ah q g Hx) rfl hp (.tmp rfl (.tmp rfl (.nil))) (.cons (aL.hb _ _) (.cons (aL.hb _ _) .nil)) b8 ?_;exact⟨rfl,rfl⟩
theorem S2{enc:α->List aa}(h:∀x,eG (enc x)=true)(l:List α):(l.map enc).all eG=true:=by
 rw[List.all_eq_true];intro x ag;obtain⟨a,_,rfl⟩:=List.mem_map.1 ag;exact h a
def tv(f:Fact):Fact:=.mk 5 0 [] 0 0 [f]
def tf(a b:Fact):Fact:=.mk 6 0 [] 0 0 [a,b]
theorem ae6(f:Fact):ba Tryz.prog 268 [aa.fact f] (aa.fact (tv f)):=by
 intro H;refine bh (n:=6) Tryz.func268 λB I aO=>?_;refine bg ?_;refine au.cG rfl rfl rfl rfl (λfo=>?_);refine bz ?_;refine aG (af.row rfl rfl c4 rfl rfl rfl rfl rfl rfl) ?_;refine bz ?_;refine aR.c5 (rs:=[.cell 2 60]) (H':=H) rfl (zf) (.cons (aL.agg (.cons (.refl _) (.cons (.refl _) (.cons (aL.nil 1) (.cons (.refl _) (.cons (.refl _) (.cons (AP [f] rfl) .nil))))))) .nil) b8 ?_;exact⟨eg,rfl⟩
theorem ae7(a b:Fact):ba Tryz.prog 267 [aa.fact a,aa.fact b] (aa.fact (tf a b)):=by
 intro H;refine bh (n:=9) Tryz.func267 λB I aO=>?_;refine bI ?_;refine au.cG rfl rfl rfl rfl (λfo=>?_);refine aT ?_;refine aG (af.row rfl rfl c4 rfl rfl rfl rfl rfl rfl) ?_;refine bz ?_;refine aR.c5 (rs:=[.cell 4 60]) (H':=H) rfl (zf) (.cons (aL.agg (.cons (.refl _) (.cons (.refl _) (.cons (aL.nil 1) (.cons (.refl _) (.cons (.refl _) (.cons (AP [a,b] rfl) .nil))))))) .nil) b8 ?_;exact⟨eg,rfl⟩
theorem ae8(a b:Fact):(a==b)=(a.op==b.op && a.arg==b.arg && a.cls==b.cls && a.n==b.n && a.path==b.path && a.kids==b.kids):=by
 rw[Bool.eq_iff_iff];simp only[Bool.and_eq_true,beq_iff_eq];constructor
 ·rintro rfl;simp
 ·rintro⟨⟨⟨⟨⟨ab,ae⟩,aD⟩,aV⟩,bl⟩,cP⟩;exact Fact.ext' ab ae bl aD aV cP
theorem ae9(ax:dU.length=cF.length)(ao:k<dU.length)(aB:dU.take k=cF.take k)(h:dU.getD k default=cF.getD k default):dU.take (k+1)=cF.take (k+1):=by
 rw[<-eE ao, <-eE ad,aB,h]
theorem afa(h:(dU.getD k default==cF.getD k default)=false):false=(dU==cF):=by
 symm;rw[beq_eq_false_iff_ne] at h ⊢;intro e;exact h (by rw[e])
theorem afb(ao:k<=dU.length)(ab:(dU.length:Int)<=k)(ai:(dU.length:Int)=cF.length)(aB:dU.take k=cF.take k):true=(dU==cF):=by
 have a6:k=dU.length:=by omega
 subst a6;have aW:dU.length=cF.length:=by omega
 rw[List.take_length,aW,List.take_length] at aB;simp[aB]
theorem afc(h: ¬(dU.length:Int)=cF.length):false=(dU==cF):=by
 symm;rw[beq_eq_false_iff_ne];intro e;exact h (by rw[e])
theorem afd{f:Fn}(dU cF:List Fact)(al:∀x∈dU,∀y B H,e4 B Tryz.prog (.fn f bM cs) [aa.fact x,aa.fact y] H (λz H'=>z= .b (x==y)/\H'=H) (λ_ _=>False)):
  ba Tryz.prog 288 [aa.facts dU,aa.facts cF,.fn f bM cs] (.b (dU==cF)):=by
 intro H;refine bh (n:=32) Tryz.func288 λB I aO=>?_;refine aq.fi (t:=0) rfl (λhg=>?_);refine aq.fi (t:=1) rfl (λgn=>?_);refine fk ?_;refine aZ (λai=>?_) λai=>?_
 ·refine bn ?_;refine aS 6 (H) ?_;exact⟨bR (afc ai),rfl⟩
 ·refine cw ?_;refine cq (λm st=>∃k:Nat,st=⟨[(17,.i k),(16,.i dU.length),(15,aa.facts dU),(0,aa.facts dU),(1,aa.facts cF),(2,.fn f bM cs)],H⟩/\m=dU.length - k/\k<=dU.length/\dU.take k=cF.take k) (⟨0,rfl,rfl,ad,rfl⟩) ?_;rintro m _ ⟨k,rfl,rfl,ao,aB⟩;refine aT ?_;refine aZ (λab=>?_) λab=>?_
  ·refine bS ?_;refine au.cG rfl rfl rfl rfl (λfo=>?_);refine c6 ?_;refine au.cG rfl rfl rfl rfl (λkd=>?_);refine bs ?_;refine au.o1 rfl rfl rfl rfl rfl rfl rfl rfl (.cons (.refl _) (.cons (.refl _) .nil)) (al (dU.getD k default) (hT ad) (cF.getD k default) B _) ?_;rintro _ _ ⟨rfl,rfl⟩;refine bg ?_;refine aq.cond rfl (λae=>?_) (λae=>?_)
   ·have ae:(dU.getD k default==cF.getD k default)=false:=by simpa only[Bool.not_eq_true'] using ae
    refine cw ?_;refine aS 6 (H) ?_;exact⟨bR (afa ae),rfl⟩
   ·have ae:(dU.getD k default==cF.getD k default)=true:=by simpa only[Bool.not_eq_false'] using ae
    refine bn ?_;exact bV (⟨k+1,rfl,rfl,ad,ae9 ad ad aB xM⟩)
  ·refine cw ?_;refine aS 6 (H) ?_;exact⟨bR (afb ao ab ai aB),rfl⟩
theorem afe(a:Fact)(bm:∀k∈a.kids,∀y,ba Tryz.prog 283 [aa.fact k,aa.fact y] (.b (k==y)))(b:Fact):ba Tryz.prog 283 [aa.fact a,aa.fact b] (.b (a==b)):=by
 intro H;refine bh (n:=45) Tryz.func283 λB I aO=>?_;refine Yp ?_;refine au.cb rfl rfl rfl rfl rfl rfl (λal=>af.call (.mk' rfl rfl rfl rfl dv) (ZH a.path b.path)) ?_;refine aT ?_;refine au.cb rfl rfl rfl rfl rfl rfl (λal=>af.call (.mk' rfl rfl rfl rfl dv) (afd a.kids b.kids (λx ag y B H=>e4.fn (bm x ag y H)))) ?_;refine bz ?_;refine aS 4 (H) ?_;exact⟨bR (by rw[ae8];simp only[uJ]),rfl⟩
theorem aff(a b:Fact):ba Tryz.prog 283 [aa.fact a,aa.fact b] (.b (a==b)):=Fact.p8 (P:=λa=>∀b,ba Tryz.prog 283 [aa.fact a,aa.fact b] (.b (a==b))) (λa bm b=>afe a bm b) a b
def KA(l:cD):Fact:=if l.neg then tv l.f else l.f
theorem afg(y x:cD):ba Tryz.prog 282 [aa.lit y,.ptr (qX x)] (.b (x.neg==y.neg && x.f==y.f)):=by
 intro H;refine bh (n:=16) Tryz.func282 λB I aO=>?_;refine kC ?_;refine au.cb rfl rfl rfl rfl rfl rfl (λal=>af.call (.mk' rfl rfl rfl rfl dv) (aff x.f y.f)) ?_;refine bz ?_;refine aS 3 (H) ?_;exact⟨eg,rfl⟩
theorem afh{f:Fn}{J Jx:List cD->List aj->Prop}(l:List cD)(al:vA B Tryz.prog (.fn f bM cs) aa.lit l F J Jx)(H Hx:List aj)(hF:F Hx)(bF:J [] H):
  dC B Tryz.prog 286 [.aF 7 (l.map qX),.fn f bM cs] (H++Hx) (xY J Jx l Hx) (λ_ _=>False):=by
 refine dC.of (n:=19) Tryz.func286 rfl aM rfl rfl (λI aO=>?_);refine aq.fi (t:=0) rfl (λhg=>?_);refine eb ?_;refine cq (λm st=>∃(k:Nat) (H1:List aj),st=⟨[(8,.i k),(7,.i l.length),(0,.aF 7 (l.map qX)),(1,.fn f bM cs)],H1++Hx⟩/\m=l.length - k/\k<=l.length/\J (l.take k) H1) (⟨0,H,rfl,rfl,bj,bF⟩) ?_;rintro m _ ⟨k,H1,rfl,rfl,ao,fp⟩;refine aT ?_;refine aZ (λai=>?_) λai=>?_
 ·refine hB ?_;refine au.o1 rfl rfl rfl rfl rfl rfl rfl rfl (bO.refl _) (al (l.take k) (l.getD k default) H1 Hx CE hF fp) ?_;rintro _ _ ⟨b,db,rfl,rfl,gn,mU⟩;rw[eE ad] at gn mU;refine bC ?_;refine aZ (λab=>?_) λab=>?_
  ·refine cT ?_;refine aR.c5 (rs:=[.tmp 4]) rfl (.tmp rfl (.nil)) (bO.refl _) b8 ?_;exact⟨db,rfl,.inr ⟨l.take k,l.getD k default,l.drop (k+1),DK ad,gp CG,CJ⟩⟩
  ·refine bn ?_;exact bV (⟨k+1,db,rfl,rfl,ad,gn ab⟩)
 ·refine cw ?_;refine aR.c5 (rs:=[.tmp 4]) rfl (.tmp rfl (.nil)) (bO.refl _) b8 ?_;exact⟨H1,rfl,.inl ⟨rfl,Cy⟩⟩
theorem afi{f:Fn}(al:oo Tryz.prog ga (.fn f bM cs) aa.lit l p):vH Tryz.prog ga 286 [.aF 7 (l.map qX),.fn f bM cs] (λy=>∃n:Int,y= .i n/\decide (n>=0)=l.any p):=
 GN aM (λB F J Jx h H Hx hF bF=>afh l h H Hx hF bF) al
theorem afj{f:Fn}(al:oo Tryz.prog ga (.fn f bM cs) aa.lit l p):jf Tryz.prog ga 281 [.aF 7 (l.map qX),.fn f bM cs] (.b (l.any p)):=by
 intro H hm;refine bh (n:=9) Tryz.func281 λB I aO=>?_;refine bS ?_;refine au.G6 rfl rfl rfl .k (afi al) hm (λy hy=>?_);obtain⟨n,rfl,hn⟩:=hy;refine bz ?_;refine aS 4 (H) ?_;exact⟨bR hn,rfl⟩
theorem afk{f:Fn}(al:oZ Tryz.prog (.fn f bM cs) aa.lit p)(l:List cD):ba Tryz.prog 281 [.aF 7 (l.map qX),.fn f bM cs] (.b (l.any p)):=(afj (al.on l)).pure
theorem a183(l:List cD)(ax:l.length<=1000000)(H:List aj):b1 Tryz.prog 280 [aa.lits l] H (λy H'=>∃v,y= .as (aa.lits l) v/\H'= .own 303 7 v::H) (λ_ _=>False):=by
 refine bh (n:=8) Tryz.func280 λB I aO=>?_;refine bS ?_;refine au.tX rfl rfl rfl rfl rfl rfl rfl (aL.refl _) rfl rfl (λwz pt=>?_);refine bC ?_;refine aZ (λai=>?_) λai=>?_
 ·refine bn ?_;refine aR.iq 2 303 7 rfl ?_;refine aS 2 (_) ?_;exact⟨_,congrArg (λx=>aa.as x _) (show aa.aF 7 []=aa.aF 7 _ by rw[pt ai]),rfl⟩
 ·refine bI ?_;refine au.C8 rfl rfl rfl rfl (λv5=>?_);refine bt ?_;refine au.gu rfl rfl rfl rfl rfl rfl rfl rfl (aL.refl _) (S2 (λ_=>rfl) l) (λv=>by repeat (first | exact bu.head _ _ _ | apply bu.tail)) dj dj (λBW=>?_);refine bI ?_;refine aS 2 (_) ?_;exact⟨_,rfl,rfl⟩
def sb(out:List cD)(x:cD):List cD:=if out.any (λy=>x.neg==y.neg && x.f==y.f) then out else out++[x]
def hY(a b:List cD):List cD:=b.foldl sb a
theorem afl(out:List cD)(x:cD):(sb out x).length<=out.length+1:=by unfold sb;split <;> simp
theorem S3{a b:List cD}(h:k<b.length):hY a (b.take (k+1))=sb (hY a (b.take k)) (b.getD k default):=by
 rw[<-eE h,hY,List.foldl_append];rfl
theorem S4(a:List cD):∀b:List cD,(hY a b).length<=a.length+b.length:=by
 intro b
 induction b generalizing a with
 | nil=>simp[hY]
 | cons x b bm=>
  have:=bm (sb a x);have ae:=afl a x;show (hY (sb a x) b).length<=_;simp only[List.length_cons];omega
theorem afm(a b:List cD)(bN:a.length<=100000)(aw:b.length<=100000):ba Tryz.prog 276 [aa.lits a,aa.lits b] (aa.lits (hY a b)):=by
 intro H;refine bh (n:=26) Tryz.func276 λB I aO=>?_;refine bs ?_;refine dE .k ((a183 a ad H).b) ?_;rintro _ _ ⟨v,rfl,rfl⟩;refine cT ?_;refine cq (λm st=>∃(k:Nat) (v:Value) (els:List (List aa)),st=⟨[(12,.i k),(11,.i b.length),(10,aa.lits b),(5,.as (.aF 7 els) v)],.own 303 7 v::H⟩/\m=b.length - k/\k<=b.length/\els=(hY a (b.take k)).map qX) (⟨0,v,_,rfl,rfl,ad,rfl⟩) ?_;rintro m _ ⟨k,v,_,rfl,rfl,ao,rfl⟩;refine aT ?_;refine aZ (λai=>?_) λai=>?_
 ·refine bs ?_;refine au.cG rfl rfl rfl rfl (λfo=>?_);refine bI ?_;refine aq.ep (d:=7) rfl ey ?_;refine bg ?_;refine aG (af.vv .k (.cons (aL.hb _ _) (.cons (.refl _) .nil)) (afk (.of (λy=>afg y (b.getD k default))) (hY a (b.take k)))) ?_;refine bg ?_;refine aq.cond rfl (λab=>?_) (λab=>?_)
  ·have e:hY a (b.take (k+1))=hY a (b.take k)++[b.getD k default]:=by rw[S3 ad,sb,if_neg (by simpa only[Bool.not_eq_true',Bool.not_eq_true] using ab)]
   have aU:=S4 a (b.take k);rw[List.length_take] at aU;refine bg ?_;refine aG (af.row rfl rfl c4 rfl rfl rfl rfl rfl rfl) ?_;refine au.gu rfl rfl rfl rfl rfl rfl rfl rfl (aL.refl _) (rfl) (λv=>by repeat (first | exact bu.head _ _ _ | apply bu.tail)) (by show (List.length (List.map _ _)+1)*88<=_;rw[List.length_map];omega) VC (λafn=>?_);refine bs ?_;exact bV (⟨k+1,afn,_,rfl,rfl,ad,(by rw[e,List.map_append])⟩)
  ·have e:hY a (b.take (k+1))=hY a (b.take k):=by rw[S3 ad,sb,if_pos (by simpa only[Bool.not_eq_false'] using ab)]
   refine bn ?_;exact bV (⟨k+1,v,_,rfl,rfl,ad,by rw[e]⟩)
 ·obtain rfl:k=b.length:=by omega
  refine cT ?_;refine aR.c5 (rs:=[.tmp 4]) (H':=H) rfl (.tmp rfl (.nil)) (.cons (aL.hb _ _) .nil) b8 ?_;exact⟨by rw[List.take_length];rfl,rfl⟩
mutual
def fL:Fact->Bool->List (List cD)
 | .mk op arg path cls n kids,c=>
  if op=1 then (if c then [] else [[]])
  else if op=5 then (tw kids (!c)).getD 0 []
  else if dO (.mk op arg path cls n kids) then [[⟨.mk op arg path cls n kids,c⟩]]
  else if c==(op==6) then (tw kids c).getD 0 []++(tw kids c).getD 1 []
  else ((tw kids c).getD 0 []).flatMap λa=>((tw kids c).getD 1 []).map (hY a)
def tw:List Fact->Bool->List (List (List cD))
 | [],_=>[]
 | k::r,c=>fL k c::tw r c
end
theorem y0(c:Bool):∀(l:List Fact) (i:Nat),i<l.length->(tw l c).getD i []=fL (l.getD i default) c
 | [],i,h=>by simp at h
 | k::r,0,h=>by rw[tw];rfl
 | k::r,i+1,h=>by rw[tw];exact y0 c r i h3
theorem KB(h:f.op=1)(c:Bool):fL f c=if c then [] else [[]]:=by cases f;rw[fL];exact if_pos h
theorem KC(h:f.op=5)(ao:0<f.kids.length)(c:Bool):fL f c=fL (f.kids.getD 0 default) (!c):=by
 rw[<-y0 (!c) f.kids 0 ao];cases f;rw[fL];simp only[Fact.op] at h;subst h;rfl
theorem KD(ab: ¬f.op=1)(bl: ¬f.op=5)(ax:dO f=true)(c:Bool):fL f c= [[⟨f,c⟩]]:=by
 cases f;rw[fL];simp only[Fact.op] at ab bl;rw[if_neg ab,if_neg bl,if_pos ax]
theorem KE(ab: ¬f.op=1)(bl: ¬f.op=5)(ax:dO f=false){c:Bool}(ak:(c==(f.op==6))=true)(ao:1<f.kids.length):fL f c=fL (f.kids.getD 0 default) c++fL (f.kids.getD 1 default) c:=by
 rw[<-y0 c f.kids 0 ad, <-y0 c f.kids 1 ao];cases f;rw[fL];simp only[Fact.op] at ab bl ak;rw[if_neg ab,if_neg bl,if_neg (by simp[ax]),if_pos ak];rfl
theorem KF(ab: ¬f.op=1)(bl: ¬f.op=5)(ax:dO f=false){c:Bool}(ak:(c==(f.op==6))=false)(ao:1<f.kids.length):fL f c=(fL (f.kids.getD 0 default) c).flatMap λa=>(fL (f.kids.getD 1 default) c).map (hY a):=by
 rw[<-y0 c f.kids 0 ad, <-y0 c f.kids 1 ao];cases f;rw[fL];simp only[Fact.op] at ab bl ak;rw[if_neg ab,if_neg bl,if_neg (by simp[ax]),if_neg (by simp[ak])];rfl
/- what the walk S5 cases asks of a fact: a known operation, as many parts as it has, nothing too long -/
mutual
def okB:Fact->Bool
 | .mk op _ path _ _ kids=>decide (1<=op) && decide (op<=7) && ((kids.length:Int)==kZ op) && decide (path.length<=1000) && y1 kids
def y1:List Fact->Bool
 | []=>true
 | f::r=>okB f && y1 r
end
theorem S6:∀{l:List Fact},y1 l=true->∀k∈l,okB k=true
 | [],_,k,ao=>by cases ao
 | x::r,h,k,ao=>by
  rw[y1,Bool.and_eq_true] at h;rcases List.mem_cons.1 ao with e | ao
  ·rw[e];exact h.1
  ·exact S6 h.2 k ao
theorem B0(h:okB f=true):1<=f.op/\f.op<=7/\(f.kids.length:Int)=kZ f.op/\f.path.length<=1000/\∀k∈f.kids,okB k=true:=by
 cases f;rw[okB] at h;simp only[Bool.and_eq_true,decide_eq_true_eq,beq_iff_eq] at h;exact⟨h.1.1.1.1,h.1.1.1.2,h.1.1.2,h.1.2,S6 h.2⟩
theorem S7:∀(l:List Fact),1<l.length->ej (l.getD 0 default)+ej (l.getD 1 default)<=gf l
 | a::b::r,_=>by simp[gf] <;> omega
 | [_],h=>by simp at h
theorem afo:∀(l:List Fact),0<l.length->ej (l.getD 0 default)<=gf l
 | a::r,_=>by simp[gf]
theorem KG(h:okB f=true)(ab: ¬f.op=1)(bl: ¬f.op=5)(ax:dO f=false):f.kids.length=2:=by
 obtain⟨a,b,c,_⟩:=B0 h;simp only[dO,Bool.and_eq_false_iff,decide_eq_false_iff_not] at ax;have:f.op=6\/f.op=7:=by omega
 rw[kZ,if_neg bl,if_pos this] at c;omega
theorem KH(h:okB f=true)(bl:f.op=5):f.kids.length=1:=by
 obtain⟨a,b,c,_⟩:=B0 h;rw[kZ,if_pos bl] at c;omega
theorem S8:∀(f:Fact),okB f=true->∀c,∀l∈fL f c,l.length<=ej f:=by
 refine Fact.p8 λf bm cA c l ax=>?_;have aB:=B0 cA;by_cases ab:f.op=1
 ·rw[KB ab] at ax;cases c <;> simp at ax;subst ax;simp
 by_cases bl:f.op=5
 ·have ao:=KH cA bl;rw[KC bl ad] at ax;have:=bm _ (hT ad) (aB.2.2.2.2 _ (hT ad)) _ l ax;have ae:=afo f.kids ad;rw[wq];omega
 by_cases k2:dO f=true
 ·rw[KD ab bl k2] at ax;simp at ax;subst ax;rw[wq];simp
 ·have xi:dO f=false:=by simpa using k2
  have ao:=KG cA ab bl xi;have iV:=S7 f.kids ad;have i0:=bm (f.kids.getD 0 default) (hT ad) (aB.2.2.2.2 _ (hT ad)) c;have i1:=bm (f.kids.getD 1 default) (hT ad) (aB.2.2.2.2 _ (hT ad)) c;rw[wq];cases ak:(c==(f.op==6)) with
  | true=>
   rw[KE ab bl xi ak ad] at ax;rcases List.mem_append.1 ax with h | h
   ·have:=i0 l h;omega
   ·have:=i1 l h;omega
  | false=>
   rw[KF ab bl xi ak ad] at ax;obtain⟨a,bN,ax⟩:=List.mem_flatMap.1 ax;obtain⟨b,aw,rfl⟩:=List.mem_map.1 ax;have:=S4 a b;have:=i0 a bN;have:=i1 b aw;omega
def tz(J Jx:List α->List aj->Prop)(pre M:List α)(Hx:List aj)(y:aa)(H':List aj):Prop:=
 ∃b H1,y= .b b/\H'=H1++Hx/\(b=true->J (pre++M) H1)/\(b=false->∃q,q<+:M/\Jx (pre++q) H1)
theorem afp{pre L:List β}{g:α->β}{M b9:List α}{b:α}(h:pre++M.map g<+:L)(aB:b9++[b]<+:M):(pre++b9.map g)++[g b]<+:L:=by
 refine List.IsPrefix.trans ?_ h;rw[List.append_assoc];refine (List.prefix_append_right_inj pre).2 ?_;have:=aB.map g;simpa using this
theorem afq{pre L:List β}{g:α->List β}{M b9:List α}{b:α}(h:pre++M.flatMap g<+:L)(aB:b9++[b]<+:M):(pre++b9.flatMap g)++g b<+:L:=by
 refine List.IsPrefix.trans ?_ h;rw[List.append_assoc];refine (List.prefix_append_right_inj pre).2 ?_;obtain⟨t,rfl⟩:=aB;exact⟨t.flatMap g,bj⟩
theorem S9{b9 M:List α}{b:α}(aB:b9++[b]<+:M):b∈M:=aB.subset bj
theorem afr{g:Fn}{gs gc:List aa}{L:List (List cD)}{J Jx:List (List cD)->List aj->Prop}(al:pW B Tryz.prog (.fn g gs gc) aa.lits L F J Jx)(a b:List cD)(bN:a.length<=1000)(aw:b.length<=1000)(pre:List (List cD))(df:pre++[hY a b]<+:L)(H Hx:List aj)(hF:F Hx)(bF:J pre H):
  dC B Tryz.prog 275 [aa.lits b,.ptr [.fn g gs gc],.ptr [aa.lits a]] (H++Hx) (λy H'=>∃dk H1,y= .b dk/\H'=H1++Hx/\(dk=true->J (pre++[hY a b]) H1)/\(dk=false->Jx (pre++[hY a b]) H1)) (λ_ _=>False):=by
 refine dC.of (n:=10) Tryz.func275 rfl aM rfl rfl (λI aO=>?_);refine aT ?_;refine aq.bL mixed ?_;refine bk.b7 0 4 10 rfl ay rfl rfl ay ?_;refine bg ?_;refine bU.bB rfl rfl rfl (af.call .k (afm a b ad ad)) ?_;refine bC ?_;refine au.o1 rfl rfl rfl rfl rfl rfl rfl rfl (bO.refl _) (al pre (hY a b) H Hx df hF bF) ?_;rintro _ _ ⟨hU,H1,rfl,rfl,a6,aW⟩;refine bI ?_;refine aR.c5 (rs:=[.tmp 4]) rfl (.tmp rfl (.nil)) (bO.refl _) b8 ?_;exact⟨hU,H1,rfl,rfl,a6,aW⟩
def B1(B:Nat)(f:Fact)(c:Bool):Prop:=∀(cE:Nat) (g:Fn) (gs gc:List aa) (L:List (List cD)) (F:List aj->Prop) (J Jx:List (List cD)->List aj->Prop),pW B Tryz.prog (.fn g gs gc) aa.lits L F J Jx->∀(pre:List (List cD)),pre++fL f c<+:L->
 ∀(H Hx:List aj),aj.aI cE 301 [.fn (.func 273) [] [.p cE 0]]∈Hx->F Hx->J pre H->dC B Tryz.prog 273 [aa.fact f,.b c,.fn g gs gc,.p cE 0] (H++Hx) (tz J Jx pre (fL f c) Hx) (λ_ _=>False)
theorem afs{c:Bool}(ao:1<f.kids.length)(bm:B1 B (f.kids.getD 1 default) c)(hlen:∀l∈fL (f.kids.getD 1 default) c,l.length<=1000){cE:Nat}{g:Fn}{gs gc:List aa}{L:List (List cD)}{F:List aj->Prop}{J Jx:List (List cD)->List aj->Prop}(al:pW B Tryz.prog (.fn g gs gc) aa.lits L F J Jx)
  (a:List cD) (bN:a.length<=1000) (pre:List (List cD)) (df:pre++(fL (f.kids.getD 1 default) c).map (hY a)<+:L) (H Hx:List aj) (hm:aj.aI cE 301 [.fn (.func 273) [] [.p cE 0]]∈Hx) (hF:F Hx) (bF:J pre H):
  dC B Tryz.prog 274 [aa.lits a,.p cE 0,.ptr (ix f),.ptr [.b c],.ptr [.fn g gs gc]] (H++Hx) (tz J Jx pre ((fL (f.kids.getD 1 default) c).map (hY a)) Hx) (λ_ _=>False):=by
 refine dC.of (n:=15) Tryz.func274 rfl aM rfl rfl (λI aO=>?_);have iT:pW B Tryz.prog (.fn (.func 275) [] [.ptr [.fn g gs gc],.ptr [aa.lits a]]) aa.lits (fL (f.kids.getD 1 default) c) F (λb9 H=>J (pre++b9.map (hY a)) H) (λb9 H=>Jx (pre++b9.map (hY a)) H):=by
  intro b9 b H1 c0 aB E3 fp;refine e4.mono (e4.sG (afr al a b bN (hlen b (S9 aB)) (pre++b9.map (hY a)) (afp df aB) H1 c0 E3 fp)) ?_ (λ_ _ h=>h);rintro _ _ ⟨hU,db,rfl,rfl,a6,aW⟩;exact⟨hU,db,rfl,rfl,λh=>by simpa using a6 h,λh=>by simpa using aW h⟩
 refine bn ?_;refine aq.bL mixed ?_;refine bk.b7 0 7 15 rfl ay rfl rfl ay ?_;refine bU.bB rfl rfl rfl (zj) ?_;refine bs ?_;refine dE .k (bm cE (.func 275) [] [.ptr [.fn g gs gc],.ptr [aa.lits a]] _ _ _ _ iT [] (List.prefix_refl _) H Hx hm hF (by simpa using bF)) ?_;rintro _ _ ⟨hU,H1,rfl,rfl,a6,aW⟩;refine bI ?_;refine aR.c5 (rs:=[.tmp 6]) rfl (.tmp rfl (.nil)) (bO.refl _) b8 ?_;exact⟨hU,H1,rfl,rfl,λh=>by simpa using a6 h,λh=>by obtain⟨q,bd,ag⟩:=aW h;exact⟨q.map (hY a),bd.map _,by simpa using ag⟩⟩
theorem aft{J Jx:List α->List aj->Prop}{pre:List α}(h:J pre H):tz J Jx pre [] Hx (.b true) (H++Hx):=⟨true,H,rfl,rfl,λ_=>by simpa using h,λh=>by cases h⟩
theorem Ta{J Jx:List α->List aj->Prop}{pre:List α}{x:α}(h:∃b H1,y= .b b/\H'=H1++Hx/\(b=true->J (pre++[x]) H1)/\(b=false->Jx (pre++[x]) H1)):tz J Jx pre [x] Hx y H':=by
 obtain⟨b,H1,rfl,rfl,ab,ae⟩:=h;exact⟨b,H1,rfl,rfl,ab,λh=>⟨[x],List.prefix_refl _,ae h⟩⟩
theorem afu{c:Bool}{J Jx:List (List cD)->List aj->Prop}{pre:List (List cD)}(bF:J pre H)(ab:(!c)=true->∃b H1,y= .b b/\H'=H1++Hx/\(b=true->J (pre++[[]]) H1)/\(b=false->Jx (pre++[[]]) H1))(ae:(!c)=false->y= .b false/\H'=H++Hx):
  ∃hU H1,y= .b hU/\H'=H1++Hx/\tz J Jx pre (if c then [] else [[]]) Hx (.b (bif c then true else hU)) H':=by
 cases c with
 | true=>obtain⟨rfl,rfl⟩:=ae rfl;exact⟨false,H,rfl,rfl,aft bF⟩
 | false=>
  have h:=ab rfl;obtain⟨b,H1,rfl,rfl,e⟩:=h;exact⟨b,H1,rfl,rfl,Ta ⟨b,H1,rfl,rfl,e⟩⟩
theorem afv{J Jx:List α->List aj->Prop}{pre M N:List α}{Hx H1 H':List aj}{kd:Bool}(a6:kd=true->J (pre++M) H1)(aW:kd=false->∃q,q<+:M/\Jx (pre++q) H1)(ab:kd=true->tz J Jx (pre++M) N Hx y H')(ae:kd=false->y= .b false/\H'=H1++Hx):
  ∃hU,y= .b hU/\tz J Jx pre (M++N) Hx (.b (bif kd then hU else false)) H':=by
 cases kd with
 | true=>
  obtain⟨b,db,rfl,rfl,f1,f2⟩:=ab rfl;refine⟨b,rfl,⟨b,db,rfl,rfl,λh=>by rw[<-List.append_assoc];exact f1 h,λh=>?_⟩⟩;obtain⟨q,bd,ag⟩:=f2 h;exact⟨M++q,(List.prefix_append_right_inj M).2 bd,by rw[<-List.append_assoc];exact ag⟩
 | false=>
  obtain⟨rfl,rfl⟩:=ae rfl;obtain⟨q,bd,ag⟩:=aW rfl;exact⟨false,rfl,⟨false,H1,rfl,rfl,λh=>(by cases h),λ_=>⟨q,bd.trans (List.prefix_append _ _),ag⟩⟩⟩
theorem afw{J Jx:List β->List aj->Prop}{pre:List β}{M:List α}{g:α->List β}(h:tz (λb9 H=>J (pre++b9.flatMap g) H) (λb9 H=>∃q,q<+:b9.flatMap g/\Jx (pre++q) H) [] M Hx y H'):tz J Jx pre (M.flatMap g) Hx y H':=by
 obtain⟨b,H1,rfl,rfl,a6,aW⟩:=h;refine⟨b,H1,rfl,rfl,λh=>by simpa using a6 h,λh=>?_⟩;obtain⟨q,⟨t,rfl⟩,ff,afx,ag⟩:=aW h;exact⟨ff,afx.trans ⟨t.flatMap g,bj⟩,ag⟩
theorem afy(cA:okB f=true)(hn:ej f<=1000)(bm:∀k∈f.kids,∀c,B1 B k c)(c:Bool):B1 B f c:=by
 intro cE g gs gc L F J Jx al pre df H Hx hm hF bF;refine dC.of (n:=71) Tryz.func273 rfl aM rfl rfl (λI aO=>?_);have aB:=B0 cA;refine kC ?_;refine aZ (λai=>?_) λai=>?_
 ·rw[KB ai] at df ⊢;refine bz ?_;refine au.Nj rfl rfl rfl rfl rfl rfl rfl rfl (λh=>h) rfl (λ_=>rfl) (.cons (aL.nil 7) .nil) (λh=>al pre [] H Hx (by rw[Bool.not_eq_true'] at h;subst h;exact df) hF bF) ?_;intro y H' wV wW;obtain⟨hU,H1,rfl,rfl,aK⟩:=afu bF wV wW;refine bn ?_;refine aR.c5 (rs:=[.tmp 7]) rfl (.tmp rfl (.nil)) (bO.refl _) b8 ?_;exact aK
 ·refine bs ?_;refine aZ (λab=>?_) λab=>?_
  ·have k4:=KH cA ab;rw[KC ab ad] at df ⊢;refine bt ?_;refine aq.bL mixed ?_;refine bk.b7 0 8 71 rfl ay rfl rfl ay ?_;refine bU.bB rfl rfl rfl (zj) ?_;refine bS ?_;refine dE .k (bm _ (hT ad) (!c) cE g gs gc L F J Jx al pre df H Hx hm hF bF) ?_;intro y H' aK;obtain⟨hU,H1,rfl,rfl,aK⟩:=aK;refine aT ?_;refine aR.c5 (rs:=[.tmp 7]) rfl (.tmp rfl (.nil)) (bO.refl _) b8 ?_;exact⟨hU,H1,rfl,rfl,aK⟩
  ·refine bg ?_;refine aG (af.call .k ((Qy _))) ?_;refine bg ?_;refine aq.cond rfl (λae=>?_) (λae=>?_)
   ·have k2:dO f=true:=ae;rw[KD ai ab k2] at df ⊢;refine aT ?_;refine aG (af.row rfl rfl c4 rfl rfl rfl rfl rfl rfl) ?_;refine au.o1 rfl rfl rfl rfl rfl rfl rfl rfl (.cons (.refl _) .nil) (al pre [⟨f,c⟩] H Hx df hF bF) ?_;intro y H' aK;obtain⟨hU,H1,rfl,rfl,aK⟩:=aK;refine aT ?_;refine aR.c5 (rs:=[.tmp 7]) rfl (.tmp rfl (.nil)) (bO.refl _) b8 ?_;exact Ta ⟨hU,H1,rfl,rfl,aK⟩
   ·have k2:dO f=false:=ae;have gD:=KG cA ai ab k2;refine c6 ?_;refine aq.cond rfl (λaD=>?_) (λaD=>?_)
    ·rw[KE ai ab k2 aD ad] at df ⊢;refine bt ?_;refine aq.bL mixed ?_;refine bk.b7 0 7 71 rfl ay rfl rfl ay ?_;refine bU.bB rfl rfl rfl (zj) ?_;refine bs ?_;refine dE .k (bm _ (hT ad) c cE g gs gc L F J Jx al pre ((by rw[<-List.append_assoc] at df;exact (List.prefix_append _ _).trans df)) H Hx hm hF bF) ?_;intro y H' aK;obtain⟨kd,H1,rfl,rfl,a6,aW⟩:=aK;refine aT ?_;refine bk.b7 9 16 71 rfl ay rfl rfl ay ?_;refine bU.cb rfl rfl rfl rfl rfl (λal=>zj) ?_;refine bs ?_;refine au.Ni rfl rfl rfl rfl rfl rfl (λal=>.mk' rfl rfl al rfl (by simp_all [strip])) (λdB=>bm _ (hT ad) c cE g gs gc L F J Jx al _ (by rw[List.append_assoc];exact df) H1 Hx hm hF (a6 dB)) ?_;intro y H' wV wW;obtain⟨hU,rfl,aK⟩:=afv a6 aW wV wW;obtain⟨kf,db,mU,rfl,w1⟩:=aK;refine bn ?_;refine aR.c5 (rs:=[.tmp 7]) rfl (.tmp rfl (.nil)) (bO.refl _) b8 ?_;exact⟨kf,db,mU,rfl,w1⟩
    ·rw[KF ai ab k2 aD ad] at df ⊢;refine bI ?_;have iT:pW B Tryz.prog (.fn (.func 274) [] [.p cE 0,.ptr (ix f),.ptr [.b c],.ptr [.fn g gs gc]]) aa.lits (fL (f.kids.getD 0 default) c) (λHx=>F Hx/\aj.aI cE 301 [.fn (.func 273) [] [.p cE 0]]∈Hx) (λb9 H=>J (pre++b9.flatMap λa=>(fL (f.kids.getD 1 default) c).map (hY a)) H) (λb9 H=>∃q,q<+:(b9.flatMap λa=>(fL (f.kids.getD 1 default) c).map (hY a))/\Jx (pre++q) H):=by
      intro b9 a H1 c0 pX E3 fp;have eJ:∀i,i<2->∀l∈fL (f.kids.getD i default) c,l.length<=1000:=λi av l ax=>by
       have ab:=S8 _ (aB.2.2.2.2 _ (hT ad)) c l ax;have ae:=S7 f.kids ad;have aD:=wq f;have:i=0\/i=1:=by omega
       rcases this with rfl | rfl <;> omega
      refine e4.mono (e4.sG (afs ad (bm _ (hT ad) c) (eJ 1 ad) al a (eJ 0 ad a (S9 pX)) _ (afq (g:=λa=>(fL (f.kids.getD 1 default) c).map (hY a)) df pX) H1 c0 E3.2 E3.1 fp)) ?_ (λ_ _ h=>h);rintro _ _ ⟨hU,db,rfl,rfl,a6,aW⟩;refine⟨hU,db,rfl,rfl,λh=>by simpa using a6 h,λh=>?_⟩;obtain⟨q,bd,ag⟩:=aW h;exact⟨(b9.flatMap λa=>(fL (f.kids.getD 1 default) c).map (hY a))++q,by rw[List.flatMap_append];exact (List.prefix_append_right_inj _).2 (by simpa using bd),by simpa using ag⟩
     refine aq.bL mixed ?_;refine bk.b7 0 7 71 rfl ay rfl rfl ay ?_;refine bU.bB rfl rfl rfl (zj) ?_;refine bs ?_;refine dE .k (bm _ (hT ad) c cE (.func 274) [] [.p cE 0,.ptr (ix f),.ptr [.b c],.ptr [.fn g gs gc]] _ _ _ _ iT [] (List.prefix_refl _) H Hx hm ⟨hF,hm⟩ (by simpa using bF)) ?_;intro y ot aK;obtain⟨hU,H1,rfl,rfl,a6,aW⟩:=afw aK;refine bI ?_;refine aR.c5 (rs:=[.tmp 7]) rfl (.tmp rfl (.nil)) (bO.refl _) b8 ?_;exact⟨hU,H1,rfl,rfl,a6,aW⟩
theorem afz(f:Fact)(cA:okB f=true)(hn:ej f<=1000)(c:Bool):B1 B f c:=by
 refine Fact.p8 (P:=λf=>okB f=true->ej f<=1000->∀c,B1 B f c) (λf bm cA hn c=>?_) f cA hn c;refine afy cA hn (λk ao c=>bm k ao ((B0 cA).2.2.2.2 k ao) ?_ c) c;have:∀l:List Fact,k∈l->ej k<=gf l:=by
  intro l
  induction l with
  | nil=>intro h;cases h
  | cons x r afA=>
   intro h;rw[gf];rcases List.mem_cons.1 h with e | h
   ·rw[e];omega
   ·have:=afA h;omega
 have ab:=this f.kids ao;have ae:=wq f;omega
theorem afB(f:Fact)(c:Bool):ba Tryz.prog 270 [aa.fact f,.b c] (.fn (.func 272) [] [.ptr (ix f),.ptr [.b c]]):=by
 intro H;refine bh (n:=6) Tryz.func270 λB I aO=>?_;refine eb ?_;refine aS 4 (H) ?_;exact⟨eg,rfl⟩
theorem afC(f:Fact)(cA:okB f=true)(hn:ej f<=1000)(c:Bool){g:Fn}{gs gc:List aa}{J Jx:List (List cD)->List aj->Prop}(al:pW B Tryz.prog (.fn g gs gc) aa.lits (fL f c) (λ_=>True) J Jx)(H Hx:List aj)(bF:J [] H):
  dC B Tryz.prog 272 [.fn g gs gc,.ptr (ix f),.ptr [.b c]] (H++Hx) (λ_ H'=>∃H1,H'=H1++Hx/\(J (fL f c) H1\/∃pre,pre<+:fL f c/\Jx pre H1)) (λ_ _=>False):=by
 refine dC.of (n:=11) Tryz.func272 rfl aM rfl rfl (λI aO=>?_);refine bC ?_;refine au.cG rfl rfl rfl rfl (λfo=>?_);refine bs ?_;refine aq.perm (H':=H++(.aI fo 301 [.fn (.func 273) [] [.p fo 0]]::Hx)) List.perm_middle.symm ?_;refine bt ?_;refine aG (Ct) ?_;refine bg ?_;refine dE .k (afz f cA hn c fo g gs gc _ _ _ _ al [] (List.prefix_refl _) H (.aI fo 301 [.fn (.func 273) [] [.p fo 0]]::Hx) (.head _) trivial bF) ?_;rintro _ _ ⟨hU,H1,rfl,rfl,a6,aW⟩;refine bt ?_;refine aR.oY (rs:=[]) (H':=H1++Hx) rfl (.nil) (bO.refl _) (by exact (List.Sublist.refl H1).append (List.sublist_cons_self _ _)) ?_;exact⟨H1,rfl,by cases hU with | true=>exact .inl (a6 rfl) | false=>exact .inr (aW rfl)⟩
theorem afD(f:Fact)(cA:okB f=true)(hn:ej f<=1000)(c:Bool):zQ B Tryz.prog (.fn (.func 272) [] [.ptr (ix f),.ptr [.b c]]) aa.lits (fL f c):=
 λJ Jx g gs gc al H Hx bF=>e4.sG (afC f cA hn c al H Hx bF)
def oK(arg:Int)(path:List Int):List aa:=[.i arg,.i path.length,.i (path.getD 0 0),.i (path.getD 1 0)]
abbrev aa.spot(arg:Int)(path:List Int):aa:=.agg (oK arg path)
theorem afE(arg slot:Int):ba Tryz.prog 290 [aa.spot arg [],.i slot] (aa.spot arg [slot]):=by
 intro H;refine bh (n:=15) Tryz.func290 λB I aO=>?_;refine bC ?_;refine au.tW rfl rfl rfl rfl rfl rfl rfl (λfo=>?_);refine au.cG rfl rfl rfl rfl (λkd=>?_);refine bs ?_;refine aG (Ma) ?_;refine bn ?_;refine aG (af.arith rfl rfl rfl rfl rfl rfl (wrap64 bj)) ?_;refine cw ?_;refine fR [.cell 4 318] (H) ?_;exact⟨eg,rfl⟩
theorem afF(arg a slot:Int):ba Tryz.prog 290 [aa.spot arg [a],.i slot] (aa.spot arg [a,slot]):=by
 intro H;refine bh (n:=15) Tryz.func290 λB I aO=>?_;refine bC ?_;refine au.tW rfl rfl rfl rfl rfl rfl rfl (λfo=>?_);refine au.cG rfl rfl rfl rfl (λkd=>?_);refine bs ?_;refine aG (Ma) ?_;refine bn ?_;refine aG (af.arith rfl rfl rfl rfl rfl rfl (wrap64 bj)) ?_;refine cw ?_;refine fR [.cell 4 318] (H) ?_;exact⟨eg,rfl⟩
theorem KI(arg:Int)(path:List Int)(slot:Int)(h:path.length<2):ba Tryz.prog 290 [aa.spot arg path,.i slot] (aa.spot arg (path++[slot])):=by
 match path,h with
 | [],_=>exact afE arg slot
 | [a],_=>exact afF arg a slot
structure cm where
 low:Int
 high:Int
 c2:List Int
 cn:Nat
 no:Nat
 whole:Bool
 hE:Bool
 aJ:List Int
def n5(k:cm):List aa:=[.i k.low,.i k.high,aa.ints k.c2,aa.set k.cn,aa.set k.no,.b k.whole,.b k.hE,aa.ints k.aJ]
def lq:cm:=⟨-1000000000,1000000000,[],0,0,false,false,[]⟩
def sc(arg:Int)(path:List Int):List Value:=[.int .i64 arg,.int .i64 path.length,.int .i64 (path.getD 0 0),.int .i64 (path.getD 1 0)]
abbrev b2(arg:Int)(path:List Int):Value:=.agg (sc arg path).toArray
abbrev jY(W:bb)(bo:Nat):aa:=.ptr [kg W,.val (.map (some bo))]
abbrev nn(bo:Nat)(aE:Value->cm):aj:=.lmap bo (e0 Tryz.prog 318) (λv=>n5 (aE v)) (n5 lq)
theorem Tb{aE:Value->cm}{key:Value}(p2:(λv=>n5 (aE v)) key=n5 lq):aL (.ptr [.i (-1000000000),.i 1000000000,.val (.slice none 0 0),.val (.int .u64 0),.val (.int .u64 0),.val (.bool false),.val (.bool false),.val (.slice none 0 0)]) (.ptr ((λv=>n5 (aE v)) key)):=by
 rw[p2];exact aL.ptr (.cons (.refl _) (.cons (.refl _) (.cons (aL.nil _) (.cons (.refl _) (.cons (.refl _) (.cons (.refl _) (.cons (.refl _) (.cons (aL.nil _) .nil))))))))
theorem xj(W:bb)(bo:Nat)(aE:Value->cm)(arg:Int)(path:List Int)(kB:e0 Tryz.prog 318 (b2 arg path)):
  jf Tryz.prog [nn bo aE] 289 [jY W bo,aa.spot arg path] (.ptr (n5 (aE (b2 arg path)))):=by
 intro H hm;replace hm:=hm _ (.head _);refine bh (n:=28) Tryz.func289 λB I aO=>?_;refine bn ?_;refine aq.bL mixed ?_;refine bk.b7 0 5 28 rfl ay rfl rfl ay ?_;refine bn ?_;refine au.WQ (vs:=sc arg path) rfl rfl rfl rfl rfl rfl rfl rfl (aL.refl _) hm kB ?_ (λp2=>?_)
 ·refine aT ?_;refine bk.b7 7 10 28 rfl ay rfl rfl ay ?_;refine fk ?_;refine aq.cond rfl (λai=>?_) (λai=>?_)
  ·exact absurd ai bj
  ·replace ai:=dZ ai;refine bS ?_;refine aR.c5 (rs:=[.tmp 4]) (H':=H) rfl (.tmp rfl (.nil)) (.cons (.refl _) .nil) b8 ?_;exact⟨eg,rfl⟩
 ·refine aT ?_;refine bk.b7 7 10 28 rfl ay rfl rfl ay ?_;refine fk ?_;refine aq.cond rfl (λab=>?_) (λab=>?_)
  ·replace ab:=dZ ab;refine bs ?_;refine aq.bL mixed ?_;refine bk.b7 0 6 28 rfl ay rfl rfl ay ?_;refine bs ?_;refine au.WR (κ:=λv=>n5 (aE v)) (dd:=n5 lq) (vs:=sc arg path) rfl rfl rfl rfl rfl rfl rfl (aL.refl _) rfl rfl (Tb p2) hm kB ?_;refine bS ?_;refine aR.c5 (rs:=[.tmp 4]) (H':=H) rfl (.tmp rfl (.nil)) (.cons (Tb p2) .nil) b8 ?_;exact⟨eg,rfl⟩
  ·exact absurd ab bj
def mN(arg:Int)(path:List Int):Prop:=0<=arg/\arg<1000/\path.length<=2/\∀s∈path,0<=s/\s<1000
theorem Tc(h:∀s∈path,0<=s/\s<1000)(i:Nat):0<=path.getD i 0/\path.getD i 0<1000:=by
 rw[List.getD_eq_getElem?_getD];by_cases av:i<path.length
 ·rw[List.getElem?_eq_getElem av];exact h _ (List.getElem_mem av)
 ·rw[List.getElem?_eq_none ad];decide
theorem y2{n:Int}(h:0<=n/\n<1000):(Go.Lit.int .i64 n).wf=true:=by
 have a6:IntKind.i64.min= -9223372036854775808:=by decide
 have aW:IntKind.i64.max=9223372036854775807:=by decide
 simp only[Go.Lit.wf,a6,aW,Bool.and_eq_true,decide_eq_true_eq];omega
theorem tA{arg:Int}(h:mN arg path):e0 Tryz.prog 318 (b2 arg path):=
 WL (i:=3) (ar:=198) (m:=Tryz.prog.types.size - 2) aM aM aM aM aM aM aM aM (y2 ⟨h.1,h.2.1⟩) (y2 ⟨ad,by have:=h.2.2.1;omega⟩) (y2 (Tc h.2.2.2 0)) (y2 (Tc h.2.2.2 1))
theorem afG{arg:Int}{s:Int}(h:mN arg path)(ax:path.length<2)(aH:0<=s/\s<1000):mN arg (path++[s]):=by
 refine⟨h.1,h.2.1,dj,λx ag=>?_⟩;rcases List.mem_append.1 ag with ag | ag
 ·exact h.2.2.2 x ag
 ·simp at ag;subst ag;exact aH
structure ri(W:bb)(aE:Value->cm):Prop where
 slot:∀arg path,mN arg path->∀s∈(aE (b2 arg path)).aJ,0<=s/\s<W.owner.length
 deep:∀arg path,mN arg path->path.length=2->(aE (b2 arg path)).aJ= []
 cn:∀v,(aE v).cn<18446744073709551616
 no:∀v,(aE v).no<18446744073709551616
 low:∀v,-2000000000<=(aE v).low/\(aE v).low<=2000000000
 c2:∀v,(aE v).c2.length<=1000
theorem E4{aE:Value->cm}(K:ri W aE)(dD:W.owner.length<=40){arg:Int}{path:List Int}(h:mN arg path){s:Int}(aH:s∈(aE (b2 arg path)).aJ):path.length<2/\mN arg (path++[s]):=by
 have ab:=K.slot arg path h s aH;have ax:path.length<2:=by
  have:=h.2.2.1;rcases Nat.lt_or_ge path.length 2 with ae | ae
  ·exact ae
  ·rw[K.deep arg path h ad] at aH;cases aH
 exact⟨ax,afG h ax ⟨ab.1,ad⟩⟩
theorem afH(W:bb)(bo:Nat)(aE:Value->cm)(arg:Int)(path:List Int)(slot:Int)(ax:path.length<2)(h:mN arg (path++[slot])):
  jf Tryz.prog [nn bo aE] 297 [.i slot,.ptr [jY W bo],.ptr (oK arg path)] (.b (!(aE (b2 arg (path++[slot]))).hE)):=by
 intro H hm;refine bh (n:=14) Tryz.func297 λB I aO=>?_;refine aT ?_;refine aq.bL mixed ?_;refine bk.b7 0 4 14 rfl ay rfl rfl ay ?_;refine bg ?_;refine bU.bB rfl rfl rfl (af.call .k (KI arg path slot ax)) ?_;refine bC ?_;refine aG (af.jB .k (bO.refl _) (xj W bo aE arg (path++[slot]) (tA h)) (λe he=>by repeat (first | exact hm e he | apply List.mem_cons_of_mem))) ?_;refine bs ?_;refine aS 4 (H) ?_;exact⟨eg,rfl⟩
theorem afI{aE:Value->cm}(K:ri W aE)(dD:W.owner.length<=40){arg:Int}{path:List Int}(h:mN arg path):
  jf Tryz.prog [nn bo aE] 296 [jY W bo,aa.spot arg path] (.b ((aE (b2 arg path)).aJ.all λs=>!(aE (b2 arg (path++[s]))).hE)):=by
 intro H hm;refine bh (n:=13) Tryz.func296 λB I aO=>?_;refine cw ?_;refine aG (af.jB .k (bO.refl _) (xj W bo aE arg path (tA h)) (λe he=>by repeat (first | exact hm e he | apply List.mem_cons_of_mem))) ?_;refine bI ?_;refine aG (af.jB .k (bO.refl _) (Qw (.of (λs aH=>afH W bo aE arg path s (E4 K dD h aH).1 (E4 K dD h aH).2))) (λe he=>by repeat (first | exact hm e he | apply List.mem_cons_of_mem))) ?_;refine bI ?_;refine aS 4 (H) ?_;exact⟨eg,rfl⟩
def KJ(aE:Value->cm)(arg:Int)(path:List Int):Bool:=(aE (b2 arg path)).aJ.all λs=>!(aE (b2 arg (path++[s]))).hE
def xk(cls:Int):Nat:=1 ||| 2^cls.toNat
def uZ(aE:Value->cm)(arg:Int)(path:List Int)(cls:Int):Bool:=((lM (aE (b2 arg path)).cn (xk cls):Int)==0) && ((((aE (b2 arg path)).no &&& xk cls:Nat):Int)==0) && KJ aE arg path
theorem afJ{cls:Int}(h:0<=cls/\cls<64):xk cls<18446744073709551616:=nh ad (rW ad)
theorem Td{aE:Value->cm}(K:ri W aE)(dD:W.owner.length<=40){arg:Int}{path:List Int}(h:mN arg path)(cls:Int)(ak:0<=cls/\cls<64):
  jf Tryz.prog [nn bo aE] 295 [jY W bo,aa.spot arg path,.i cls] (.b (uZ aE arg path cls)):=by
 intro H hm;refine bh (n:=35) Tryz.func295 λB I aO=>?_;refine c6 ?_;refine aG (af.jB .k (bO.refl _) (xj W bo aE arg path (tA h)) (λe he=>by repeat (first | exact hm e he | apply List.mem_cons_of_mem))) ?_;refine aT ?_;refine aG (af.call .k (wA 1 cls ak ad)) ?_;refine c6 ?_;refine aG (af.bits rfl rfl rfl rfl rfl (OC _ (xk cls))) ?_;refine bn ?_;refine au.cb rfl rfl rfl rfl rfl rfl (λal=>af.bits rfl rfl rfl (by first | rfl | exact al) (by first | rfl | exact al) (AO _ (xk cls) (K.no _) (afJ ak))) ?_;refine bz ?_;refine au.cb rfl rfl rfl rfl rfl rfl (λal=>af.jB (.mk' rfl rfl rfl rfl dv) (bO.refl _) (afI K dD h) (λe he=>by repeat (first | exact hm e he | apply List.mem_cons_of_mem))) ?_;refine bz ?_;refine aS 6 (H) ?_;exact⟨bR (by rw[uZ];simp only[uJ];rfl),rfl⟩
theorem afK{aE:Value->cm}(K:ri W aE)(dD:W.owner.length<=40){arg:Int}{path:List Int}(h:mN arg path):
  jf Tryz.prog [nn bo aE] 293 [jY W bo,aa.spot arg path] (.b (!(aE (b2 arg path)).whole && uZ aE arg path 2)):=by
 intro H hm;refine bh (n:=17) Tryz.func293 λB I aO=>?_;refine c6 ?_;refine aG (af.jB .k (bO.refl _) (xj W bo aE arg path (tA h)) (λe he=>by repeat (first | exact hm e he | apply List.mem_cons_of_mem))) ?_;refine bn ?_;refine au.cb rfl rfl rfl rfl rfl rfl (λal=>af.jB (.mk' rfl rfl rfl rfl dv) (bO.refl _) (Td K dD h 2 ad) (λe he=>by repeat (first | exact hm e he | apply List.mem_cons_of_mem))) ?_;refine bz ?_;refine aS 4 (H) ?_;exact⟨bR (by simp only[uJ]),rfl⟩
end Go.Proofs.YtodccgailpkgeaaGreat

