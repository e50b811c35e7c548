/- A part of the proof. No condition. -/
import Derived.Test.YtodccgailpkgeaaGreatKindClosesP17
set_option linter.defProp false
set_option maxHeartbeats 1000000
set_option linter.unusedVariables false
set_option linter.unusedSimpArgs false
set_option maxRecDepth 10000
namespace Go.Proofs.YtodccgailpkgeaaGreat
open Go.Proofs.Tryz
open Go.Eng
open Go.Eng.Fc
open Go.Eng.dO
variable{q:gB}{β α:Type}{f:Fact}{p:c1->Bool}{ah:Nat->Nat->Bool}{Hx H iH H':aC}{xs ys cA cs:bl}{y:ab}{hc ff:List Fact}{k B bt:Nat}{F:aC->Prop}{l:List c1}{path:al}{W:bx}
def hY(q:gB):dj:=q.vs++[q.cZ,q.cV]
def aer(q):(hY q).length=q.vs.length+2:=by simp[hY]
def aes{i}(h:i<q.vs.length):(hY q).getD i default=q.vs.getD i default:=by
 rw[hY,List.getD_eq_getElem?_getD,List.getElem?_append_left h,List.getD_eq_getElem?_getD]
def aet(q):(hY q).getD q.vs.length default=q.cZ:=by simp[hY,List.getD_eq_getElem?_getD]
def aeu(q):(hY q).getD (q.vs.length+1) default=q.cV:=by simp[hY,List.getD_eq_getElem?_getD]
section
variable{p:Prog}{ah:Nat->Nat->Bool}{q:gB}{g:GT}{Hx:aC}
def vH(f:fB p q){t}(h:bf p t){i}(j:i<p.methods.length+2):(i<p.methods.length/\e9 t i=t.params.getD i default/\(hY q).getD i default=q.vs.getD i default)\/(i=p.methods.length/\e9 t i=t.nodes/\(hY q).getD i default=q.cZ)\/(i=p.methods.length+1/\e9 t i=t.aw/\(hY q).getD i default=q.cV):=by
 have c:=f.oQ;have g:=h.pl;rcases Nat.lt_trichotomy i p.methods.length with a | a | a
 ·exact .inl ⟨a,by rw[e9,if_pos aa],aes aa⟩
 ·refine .inr (.inl ⟨a,by rw[e9,if_neg aa,if_pos aa],?_⟩);rw[a, <-c];exact aet q
 ·obtain rfl:i=p.methods.length+1:=by omega
  refine .inr (.inr ⟨rfl,by rw[e9,if_neg aa,if_neg aa],?_⟩);rw[<-c];exact aeu q
def aev(c:fB p q){t f}(h:bf p t)(a:bf p f){i}(g:i<p.methods.length+2):(e9 t i).length=(e9 f i).length:=by
 rcases vH c h g with⟨ae,e,_⟩ | ⟨rfl,e,_⟩ | ⟨rfl,e,_⟩ <;> rcases vH c a g with⟨ak,e',_⟩ | ⟨ak,e',_⟩ | ⟨ak,e',_⟩ <;> first | omega | skip
 ·have:=h.jW i ae;have:=a.jW i ae;rw[e,e'];omega
 ·rw[e,e',h.nl,a.nl]
 ·have:=h.aj;have:=a.aj;rw[e,e'];omega
def aew(c:fB p q){t}(h:bf p t){i}(a:i<p.methods.length+2):∀k∈e9 t i,cq (aG p) k=true:=by
 rcases vH c h a with⟨ae,e,_⟩ | ⟨_,e,_⟩ | ⟨_,e,_⟩ <;> rw[e]
 ·exact h.ks _ (bH (by rw[h.pl];exact ae))
 ·exact h.nb
 ·exact h.fg
def D3(c:(bu p).isSome):p.aw<=40:=by
 obtain⟨o,f⟩:=Option.isSome_iff_exists.1 c;have a:=(jf f).1;simp[fO,Bool.and_eq_true,decide_eq_true_eq,beq_iff_eq] at a;obtain⟨⟨⟨h,g⟩,j,l⟩,m⟩:=a;have:=zS _ _ g;omega
def aex(a:fB p q){t}(h:bf p t){i}(f:i<p.methods.length+2):(e9 t i).length<=1000:=by
 rcases vH a h f with⟨ae,e,_⟩ | ⟨_,e,_⟩ | ⟨_,e,_⟩ <;> rw[e]
 ·have g:=h.jW i ae;have j:=tV a.aD ae;obtain⟨o,c⟩:=Option.isSome_iff_exists.1 a.aD;have:=(sj (jf c).2.2.1 (bH (l:=p.c2) (k:=(p.methods.getD i default).gen.toNat) aa)).2;omega
 ·obtain⟨o,c⟩:=Option.isSome_iff_exists.1 a.aD;have:=(sk c).2;rw[h.nl];omega
 ·have:=h.aj;have:=D3 a.aD;omega
def D4(f:fB p q)(h:bf p g.t){i j}(c:i<p.methods.length+2)(a:j<(e9 g.t i).length):.row 3 1 ((hY q).getD i default) (e9 g.t i).length ((e9 g.t i).map .i)∈bO p ah q g Hx:=by
 rcases vH f h c with⟨ae,e,bJ⟩ | ⟨_,e,bJ⟩ | ⟨_,e,bJ⟩ <;> rw[e] at a ⊢ <;> rw[bJ]
 ·exact Jo (by rw[h.pl];exact ae) a
 ·exact nN a
 ·exact tZ a
def aey(a:fB p q)(h:bf p g.t){i j x}(l:i<p.methods.length+2)(c:j<(e9 g.t i).length)(f:fp p x):bP prog 106 [.p q.bz 0,.val (ki ((hY q).getD i default) j 1),.i x] (bO p ah q g Hx) (λy m=>y= .bj []/\m=bO p ah q (g.nK i j x) Hx) (λ_ _=>False):=by
 have o:=h.pl;rcases vH a h l with⟨ae,e,bJ⟩ | ⟨ae,e,bJ⟩ | ⟨ae,e,bJ⟩ <;> rw[e] at c <;> rw[bJ]
 ·rw[GT.nK,if_pos aa];exact RE h a.many ae c f
 ·rw[GT.nK,if_neg aa,if_pos aa];exact RD h a.many (by rw[<-h.nl];exact c) f
 ·rw[GT.nK,if_neg aa,if_neg aa];exact D0 h a.many (by have:=h.aj;omega) f
def aez(f:fB p q)(h:bf p g.t){B}{I}{w}(o:a7 B I w (bO p ah q g Hx)){i}(l:i<p.methods.length+2):∃a m,(hY q).getD i default= .slice a (e9 g.t i).length m:=by
 by_cases c:e9 g.t i= []
 ·rcases vH f h l with⟨ae,e,bJ⟩ | ⟨_,e,bJ⟩ | ⟨_,e,bJ⟩
  ·exact absurd (e.symm.trans c) (ua f.aD h ae)
  ·have:=h.nl;rw[<-e,c] at this;have:=AD f.aD;simp at*;omega
  ·rw[bJ,c];refine f.qf ?_;have:=h.aj;rw[<-e,c] at this;simpa using this.symm
 ·exact br.zu (o.ok _ (D4 f h l (j:=0) (List.length_pos_iff.2 c)))
def aA.lens{c}{r}{f}{env}{Q}(l:fB p q)(h:bf p g.t)(o:(∀i,i<p.methods.length+2->∃a j,(hY q).getD i default= .slice a (e9 g.t i).length j)->aA c r prog f ⟨env,bO p ah q g Hx⟩ Q):aA c r prog f ⟨env,bO p ah q g Hx⟩ Q:=λa w s=>
 o (λi m=>let ⟨_,_,_,aW,_⟩:=s.mem;aez l h aW m) a w s
end
def lO{f}(j)(g:β):(List.range (j+1)).foldl f g=f ((List.range j).foldl f g) j:=by rw[List.range_succ,List.foldl_append];rfl
def RM(a b:br)(X Y:aC):(a::b::(X++Y)).Perm (X++(a::b::Y)):=by
 refine List.Perm.trans ?_ List.perm_middle.symm;exact .cons _ List.perm_middle.symm
def aeA{p:Prog}{g:GT}(o:fB p q)(h:bf p g.t){n:Nat}(hn:n<p.nodes.length){y:gR}{cO env:al}{eV:Int}(iy:∀k∈cO,cq (aG p) k=true){to:Nat}(D5:y.n=(to:Int))(vo:1<=to)(p7:to<aG p):bP prog 65 [.p q.bz 0,ab.m3 n y cO env eV] (bO p ah q g Hx) (λr H1=>r= .bj []/\H1=bO p ah q (ps p n to (dD cO 0) g) Hx) (λ_ _=>False):=by
 refine bP.qK (n:=91) func65 rfl ax rfl rfl (λB I bN=>?_);have hm:=o.many;have IX:=oA o.aD;have RN:=s6 p;have alI:=RJ p to;have gk:=jY o.aD;obtain⟨am,a3⟩:=qg iy 0;have a2:=kv vo p7;have RO:=o.oQ;have alJ:=aer q;refine bA ?_;refine bT (λtb=>?_);refine aV ?_;refine eB 4 ?_;refine aH ?_;refine ag (ad.le (ad.cE rfl rfl rfl rfl) (aq.b6 am)) ?_;refine ag (ad.call .k ((zD _))) ?_;refine aH ?_;refine aA.weaken (st':=⟨[(17,.fn (.func 76) [] [.ptr [.i (dD cO 0)]]),(2,.ptr [.p q.bz 0]),(3,.ptr (fI n y cO env eV)),(4,.ptr [.i y.n])],(eo p q (g).ch::eh ah q (g).t)++(gY []++Hx)⟩) h1 gE ?_;refine aA.q3 [] (λ_ (c:Nat)=>.i c) (λ_ _=>[]) (fP (dD cO 0)) (λpre H=>H=eo p q ((pre.foldl (jj p n to) g)).ch::eh ah q ((pre.foldl (jj p n to) g)).t) (λ_ _ _=>False) ((eo p q (g).ch::eh ah q (g).t)) (Hx) (λ_ x=>[(5,.i x),(18,.i x),(2,.ptr [.p q.bz 0]),(3,.ptr (fI n y cO env eV)),(4,.ptr [.i y.n])]) rfl rfl rfl rfl ((vx _ (by have:=jB hm a3;omega)).b) cM ?_ ?_ ?_ ?_
 ·intro hH nI gf jX x O;refine aH ?_;exact λa w s=>⟨_,rfl,s.weaken (lZ h1) (List.Sublist.refl _)⟩
 ·intro hH L fD pre jX x H1 O nI gf l5 eF;obtain rfl:=eF;have wP:x∈fP (dD cO 0):=l5.subset aT;have aK:x<aG p:=tT a3.1 wP;obtain⟨G,fb⟩:∃G,G=(pre.foldl (jj p n to) g):=⟨_,rfl⟩;have bI:bf p G.t:=by rw[fb];exact hX _ h λg c _ h=>Jd h n vo p7 c
  have hQ:=bI.bX n a2;have a0:∀i,bf p ((List.range i).foldl (eC x to) (G.bX n (2^to))).t:=λi=>hX _ hQ λg i _ h=>hX _ h λg j _ h=>Ay h x i j vo p7;have F:∀i j,bf p ((List.range j).foldl (hK x to i) ((List.range i).foldl (eC x to) (G.bX n (2^to)))).t:=λi j=>hX _ (a0 i) λg j _ h=>Ay h x i j vo p7;have yI:bf p (GT.ku x to (G.bX n (2^to))).t:=Jc hQ x vo p7;have a5:∀k,bf p (((fG p to).take k).foldl (λg s=>if dK p x s then g else GT.begin p to g s) (GT.ku x to (G.bX n (2^to)))).t:=λk=>hX _ yI λg s _ h=>by
   split
   ·exact h
   ·exact vG h to s
  rw[<-fb];refine aJ ?_;refine az (λaf=>?_) λaf=>?_
  ·have Jv:x<3:=by omega
   refine aH ?_;exact aZ.mH (H:=eo p q (G).ch::eh ah q (G).t) kD (by rw[List.foldl_append, <-fb,List.foldl_cons,List.foldl_nil,jj,if_pos Jv])
  ·have Jv: ¬x<3:=by omega
   refine aH ?_;refine aA.perm (RM _ _ (eo p q (G).ch::eh ah q (G).t) _) ?_;refine b0 4 91 ?_;refine aQ ?_;refine bh (ad.le (ad.cE rfl rfl rfl rfl) (aq.b6 D5)) ?_;refine bh (ad.shift rfl rfl rfl rfl rfl aa (ml to ⟨aa,aa⟩)) ?_;refine aQ ?_;refine cI .k ((pt (Hx:=(.loop hH fD (aE [(17,.fn (.func 76) [] [.ptr [.i (dD cO 0)]]),(2,.ptr [.p q.bz 0]),(3,.ptr (fI n y cO env eV)),(4,.ptr [.i y.n])])::.obj L (.deferred (some []))::O)) o bI hn a2 y cO env eV).b) ?_;rintro _ _ ⟨rfl,rfl⟩;refine aV ?_;refine aA.cu mixed ?_;refine bW.sd (X:=ob) [⟨5,31,false⟩,⟨17,43,false⟩] (λJ=>match J with | [some v,none]=>.own 23 1 v::bO p ah q (G.bX n (2^to)) (.loop hH fD (aE [(17,.fn (.func 76) [] [.ptr [.i (dD cO 0)]]),(2,.ptr [.p q.bz 0]),(3,.ptr (fI n y cO env eV)),(4,.ptr [.i y.n])])::.obj L (.deferred (some []))::O) | [_,some u]=>.own 23 1 u::bO p ah q (G.bX n (2^to)) (.loop hH fD (aE [(17,.fn (.func 76) [] [.ptr [.i (dD cO 0)]]),(2,.ptr [.p q.bz 0]),(3,.ptr (fI n y cO env eV)),(4,.ptr [.i y.n])])::.obj L (.deferred (some []))::O) | _=>bO p ah q (G.bX n (2^to)) (.loop hH fD (aE [(17,.fn (.func 76) [] [.ptr [.i (dD cO 0)]]),(2,.ptr [.p q.bz 0]),(3,.ptr (fI n y cO env eV)),(4,.ptr [.i y.n])])::.obj L (.deferred (some []))::O)) (λj J=>match j,J with | 0,[some v,_]=>.as (.aj 1 (q.vs.map λv=>[ab.val v])) v | 1,[_,some u]=>.as (.aj 1 ((q.vs.map λv=>[ab.val v])++[[.val q.cZ],[.val q.cV]])) u | _,_=>.any) 0 20 91 rfl ao ao rfl rfl ao rfl (λ_ _ _ _ _ _ _ _ _ h=>h.elim) ?_;refine cn [[false,false]] ⟨λf=>cP,trivial⟩ ?_;refine cn [[false,false]] ⟨λf=>fU,trivial⟩ ?_;refine cn [[false,false]] ⟨λf=>b9,trivial⟩ ?_;refine cn [[false,false]] ⟨λf=>b9,trivial⟩ ?_;refine cn [[false,false]] ⟨λf=>cP,trivial⟩ ?_;refine cN.kg 0 [[false,false]] rfl rfl rfl ao rfl rfl rfl ⟨λf=>⟨ee.XD .k (λB=>(aeg (vs:=q.vs) aa o.sL _).b) (λ_=>rfl) (λ_=>rfl),hL⟩,trivial⟩ ?_;refine cn [[true,false],[false,false]] ⟨λf=>cP,λf=>cP,trivial⟩ ?_;refine cn [[true,false],[false,false]] ⟨λf=>fU,λf=>fU,trivial⟩ ?_;refine cn [[true,false],[false,false]] ⟨λf=>b9,λf=>b9,trivial⟩ ?_;refine cn [[true,false],[false,false]] ⟨λf=>b9,λf=>b9,trivial⟩ ?_;refine cn [[true,false],[false,false]] ⟨λf=>cP,λf=>cP,trivial⟩ ?_;refine cn [[true,false],[false,false]] ⟨λf=>cP,λf=>cP,trivial⟩ ?_;refine cn [[true,false],[false,false]] ⟨λf=>fU,λf=>fU,trivial⟩ ?_;refine cn [[true,false],[false,false]] ⟨λf=>b9,λf=>b9,trivial⟩ ?_;refine cn [[true,false],[false,false]] ⟨λf=>b9,λf=>b9,trivial⟩ ?_;refine cn [[true,false],[false,false]] ⟨λf=>cP,λf=>cP,trivial⟩ ?_;refine cn [[true,false],[false,false]] ⟨λf=>ad.sg [(true,.val q.cZ),(true,.val q.cV)] rfl rfl rfl rfl (by simp only[List.all_cons,List.all_nil,fa,o.oF,o.m2];rfl) rfl rfl rfl,λf=>ad.sg [(true,.val q.cZ),(true,.val q.cV)] rfl rfl rfl rfl (by simp only[List.all_cons,List.all_nil,fa,o.oF,o.m2];rfl) rfl rfl rfl,trivial⟩ ?_;refine cN.kg 1 [[true,false]] rfl rfl rfl ao rfl rfl rfl ⟨λf=>⟨ee.own (news:=[[.val q.cZ],[.val q.cV]]) rfl rfl rfl (aq.refl _) rfl rfl (aq.refl _) (xQ (vs:=[q.cZ,q.cV]) (by intro v bd;simp at bd;rcases bd with rfl | rfl;exact o.oF;exact o.m2)) cF cF (λ_=>dt) (λ_=>rfl),hL⟩,trivial⟩ ?_;refine cn [[true,true]] ⟨λf=>Bn,trivial⟩ ?_;refine cn [[true,true],[true,false],[false,false]] ⟨λf=>ad.move rfl rfl rfl,λf=>ad.move rfl rfl rfl,λf=>ad.move rfl rfl rfl,trivial⟩ ?_;refine cN.nil (λf=>?_);simp only[kN,List.map_cons,List.map_nil,List.cons_append,List.nil_append];refine bW.done rfl ?_;refine aQ ?_;refine aA.le 43 (y:=.aj 1 ((hY q).map λv=>[ab.val v])) rfl (by rw[hY,List.map_append];exact aq.eY _ _) ?_;refine aA.le 44 (y:=.i ((hY q).length:Int)) rfl (aq.b6 (by simp[hY])) ?_;refine bm (λm st=>∃i:Nat,st=⟨[(45,.i i),(44,.i (hY q).length),(43,.aj 1 ((hY q).map λv=>[ab.val v])),(5,.i x),(2,.ptr [.p q.bz 0]),(3,.ptr (fI n y cO env eV)),(4,.ptr [.i y.n])],bO p ah q ((List.range i).foldl (eC x to) (G.bX n (2^to))) (.loop hH fD (aE [(17,.fn (.func 76) [] [.ptr [.i (dD cO 0)]]),(2,.ptr [.p q.bz 0]),(3,.ptr (fI n y cO env eV)),(4,.ptr [.i y.n])])::.obj L (.deferred (some []))::O)⟩/\m=(hY q).length - i/\i<=(hY q).length) (⟨0,rfl,rfl,aa⟩) ?_;rintro m _ ⟨i,rfl,rfl,aN⟩;refine ay ?_;refine az (λae=>?_) λae=>?_
   ·have pL:i<(hY q).length:=by omega
    have C:i<p.methods.length+2:=by omega
    refine bS ?_;refine aA.lens o (a0 i) (λhlen=>?_);refine aQ ?_;refine ag (ad.CJ (hlen i C) rfl rfl rfl) ?_;refine aV ?_;refine bm (λm st=>∃j:Nat,st=⟨[(51,.i j),(50,.i (e9 ((List.range i).foldl (eC x to) (G.bX n (2^to))).t i).length),(49,.val ((hY q).getD i default)),(7,.val ((hY q).getD i default)),(45,.i i),(44,.i (hY q).length),(43,.aj 1 ((hY q).map λv=>[ab.val v])),(5,.i x),(2,.ptr [.p q.bz 0]),(3,.ptr (fI n y cO env eV)),(4,.ptr [.i y.n])],bO p ah q ((List.range j).foldl (hK x to i) ((List.range i).foldl (eC x to) (G.bX n (2^to)))) (.loop hH fD (aE [(17,.fn (.func 76) [] [.ptr [.i (dD cO 0)]]),(2,.ptr [.p q.bz 0]),(3,.ptr (fI n y cO env eV)),(4,.ptr [.i y.n])])::.obj L (.deferred (some []))::O)⟩/\m=(e9 ((List.range i).foldl (eC x to) (G.bX n (2^to))).t i).length - j/\j<=(e9 ((List.range i).foldl (eC x to) (G.bX n (2^to))).t i).length) (⟨0,rfl,rfl,aa⟩) ?_;rintro m _ ⟨j,rfl,rfl,cp⟩;refine ay ?_;refine az (λak=>?_) λak=>?_
    ·have a4:j<(e9 ((List.range i).foldl (eC x to) (G.bX n (2^to))).t i).length:=by omega
     have aav:=aev o (a0 i) (F i j) C;have ny:=aex o (F i j) C;have z:j<(e9 ((List.range j).foldl (hK x to i) ((List.range i).foldl (eC x to) (G.bX n (2^to)))).t i).length:=by omega
     have dU:=hW.1 (aew o (F i j) C _ (bH z));have kc:=lO (f:=hK x to i) j ((List.range i).foldl (eC x to) (G.bX n (2^to)));refine c6 ?_;refine ag (ad.dX rfl rfl rfl rfl rfl (D4 o (F i j) C z) ⟨aa,aa⟩) ?_;refine ag (ad.le (ad.gm rfl rfl rfl (D4 o (F i j) C z) (hN z)) (aq.b6 dU.1)) ?_;refine aR ?_;refine ag (ad.call .k (Ij _ x aa)) ?_;refine aQ ?_;refine bc (λaL=>?_) (λaL=>?_)
     ·have Y:hK x to i ((List.range j).foldl (hK x to i) ((List.range i).foldl (eC x to) (G.bX n (2^to)))) j=_:=if_pos aL;refine b0 6 91 ?_;refine aH ?_;refine bh (ad.dX rfl rfl rfl rfl rfl (D4 o (F i j) C z) ⟨aa,aa⟩) ?_;refine bh (ad.le (ad.cE rfl rfl rfl rfl) (aq.b6 D5)) ?_;refine bh (ad.shift rfl rfl rfl rfl rfl aa (ml to ⟨aa,aa⟩)) ?_;refine aQ ?_;refine cI .k ((aey (Hx:=(.loop hH fD (aE [(17,.fn (.func 76) [] [.ptr [.i (dD cO 0)]]),(2,.ptr [.p q.bz 0]),(3,.ptr (fI n y cO env eV)),(4,.ptr [.i y.n])])::.obj L (.deferred (some []))::O)) o (F i j) C z a2).b) ?_;rintro _ _ ⟨rfl,rfl⟩;refine aP ?_;exact aU (⟨j+1,by rw[kc,Y],rfl,a4⟩)
     ·have Y:hK x to i ((List.range j).foldl (hK x to i) ((List.range i).foldl (eC x to) (G.bX n (2^to)))) j=_:=if_neg (by rw[aL];decide);refine aP ?_;exact aU (⟨j+1,by rw[kc,Y],rfl,a4⟩)
    ·obtain rfl:j=(e9 ((List.range i).foldl (eC x to) (G.bX n (2^to))).t i).length:=by omega
     refine bQ ?_;exact aU (⟨i+1,by rw[lO],rfl,pL⟩)
   ·have ac:i=G.t.params.length+2:=by have:=bI.pl;omega
    have a9:((List.range i).foldl (eC x to) (G.bX n (2^to)))=(GT.ku x to (G.bX n (2^to))):=by rw[ac];rfl
    rw[a9];refine ay ?_;refine b0 9 91 ?_;refine aV ?_;refine bh (ad.le (ad.cE rfl rfl rfl rfl) (aq.b6 D5)) ?_;refine bh ((by first | exact ad.fC rfl rfl rfl rfl rfl (by rw[RN];exact p7) | exact ad.ep rfl rfl rfl rfl rfl (by rw[RN];exact p7))) ?_;refine bh (ad.le (ad.cE rfl rfl rfl rfl) (by rw[RK p7];exact aq.refl _)) ?_;refine aH ?_;refine bW.done rfl ?_;refine aQ ?_;refine bm (λm st=>∃k:Nat,st=⟨[(77,.i k),(76,.i (fG p to).length),(75,ab.ints (fG p to)),(5,.i x),(2,.ptr [.p q.bz 0]),(3,.ptr (fI n y cO env eV)),(4,.ptr [.i y.n])],bO p ah q (((fG p to).take k).foldl (λg s=>if dK p x s then g else GT.begin p to g s) (GT.ku x to (G.bX n (2^to)))) (.loop hH fD (aE [(17,.fn (.func 76) [] [.ptr [.i (dD cO 0)]]),(2,.ptr [.p q.bz 0]),(3,.ptr (fI n y cO env eV)),(4,.ptr [.i y.n])])::.obj L (.deferred (some []))::O)⟩/\m=(fG p to).length - k/\k<=(fG p to).length) (⟨0,rfl,rfl,aa⟩) ?_;rintro m _ ⟨k,rfl,rfl,bD⟩;refine ay ?_;refine az (λbo=>?_) λbo=>?_
    ·have S:k<(fG p to).length:=by omega
     have pw:=D2 _ (bH S);have kc:=xP (f:=(λg s=>if dK p x s then g else GT.begin p to g s)) S (GT.ku x to (G.bX n (2^to)));refine iB ?_;refine ag (ad.qO .k (fq.ew o (a5 k) (pre:=[]) (post:=[.i (x:Int),.i ((fG p to).getD k default)])) (Ao _ o.aD aK _)) ?_;refine aH ?_;refine bc (λcm=>?_) (λcm=>?_)
     ·have cm:dK p x ((fG p to).getD k default)=false:=by simpa using cm
      refine aQ ?_;refine ag (ad.le (ad.cE rfl rfl rfl rfl) (aq.b6 D5)) ?_;refine aR ?_;refine cI .k ((RG (Hx:=(.loop hH fD (aE [(17,.fn (.func 76) [] [.ptr [.i (dD cO 0)]]),(2,.ptr [.p q.bz 0]),(3,.ptr (fI n y cO env eV)),(4,.ptr [.i y.n])])::.obj L (.deferred (some []))::O)) o (a5 k) p7 pw.1 pw.2).b) ?_;rintro _ _ ⟨rfl,rfl⟩;refine aP ?_;exact aU (⟨k+1,by rw[kc,if_neg (by rw[cm];decide)],rfl,S⟩)
     ·have cm:dK p x ((fG p to).getD k default)=true:=by simpa using cm
      refine aP ?_;exact aU (⟨k+1,by rw[kc,if_pos cm],rfl,S⟩)
    ·obtain rfl:k=(fG p to).length:=by omega
     rw[List.take_length];refine aS ?_;refine aZ.perm (RM _ _ (eo p q (((fG p to).foldl (λg s=>if dK p x s then g else GT.begin p to g s) (GT.ku x to (G.bX n (2^to))))).ch::eh ah q (((fG p to).foldl (λg s=>if dK p x s then g else GT.begin p to g s) (GT.ku x to (G.bX n (2^to))))).t) _).symm ?_;exact aZ.mH (H:=eo p q (((fG p to).foldl (λg s=>if dK p x s then g else GT.begin p to g s) (GT.ku x to (G.bX n (2^to))))).ch::eh ah q (((fG p to).foldl (λg s=>if dK p x s then g else GT.begin p to g s) (GT.ku x to (G.bX n (2^to))))).t) kD (by rw[List.foldl_append, <-fb,List.foldl_cons,List.foldl_nil,jj,if_neg Jv])
 ·intro L H1 eF;obtain rfl:=eF;refine aR ?_;refine aZ.ld (L::[]) (eo p q ((ps p n to (dD cO 0) g)).ch::eh ah q ((ps p n to (dD cO 0) g)).t) Hx (rs:=[]) (H':=bO p ah q (ps p n to (dD cO 0) g) Hx) rfl gE (.nil) (c5.refl _) bE ?_;exact⟨rfl,rfl⟩
 ·intro L Cn pre H1 l5 qG;exact qG.elim
def fq.mono{H H2}(h:fq H xs ys)(m:∀e∈H,e∈H2):fq H2 xs ys:=λB I w j l g o c a=>h B I w j l g o (λe f=>c e (m e f)) a
def fq.par{x y}(s:fq H [x] [y])(m:fq H xs ys):fq H (x::xs) (y::ys):=λB I w c l j g f r=>by
 cases r with
 | cons _ v _ l q o=>
  obtain⟨J,z,t⟩:=s B I w c [v] j g f (.cons _ _ _ _ q .nil);obtain⟨K,gu,cx⟩:=m B I w c l j g f o;refine⟨kY w,λ_ _ h=>h,?_⟩;cases t with
  | cons _ _ _ _ a b=>exact .cons _ _ _ _ (a.bw ⟨z,λ_ _ _=>rfl⟩) (cx.bw ⟨gu,λ_ _ _=>rfl⟩)
def fq.aeB{p}{g:GT}(a:fB p q)(h:bf p g.t)(f:∀e∈eo p q g.ch::eh ah q g.t,e∈H):fq H [.p q.bz 0] [ab.ew p g.t]:=
 fq.mono (fq.ew (ah:=ah) (Hx:=[]) a h (pre:=[]) (post:=[])) λe c=>f e (by simpa [bO] using c)
def aeC{p}{g}(bI:fB p q)(h:bf p g.t){gen}{kinds}(bD:∀k∈kinds,cq (aG p) k=true)(lU:(kinds.length:Int)=gg p gen)(a5:kinds.length<=1000):bP prog 53 [.p q.bz 0,.i gen,.ints kinds] (bO p ah q g Hx) (λr H1=>r= .bj [.ints ((eK p g.t gen kinds).map (·.1)),.bp ((eK p g.t gen kinds).map (·.2))]/\H1=bO p ah q g Hx) (λ_ _=>False):=by
 refine .qK func53 rfl ax rfl rfl λB I bN=>?_;have aD:=bI.aD;have b4:ln p g.t:=h.fg;have qH:=h.aj;have Cn:=mm aD;have ap:=oA aD;have gk:=jY aD;have gJ:=II aD bD;refine iY ?_;refine hi 6 3 1 ?_;refine hi 7 23 1 ?_;refine .zw (λz st=>∃(m:Nat) (v1 v2:Value),st=⟨[(21,.i m),(20,.i p.methods.length),(19,.aj 9 (p.methods.map eS)),(6,.as (.ints ((h8 p g.t gen kinds m).map (·.1))) v1),(7,.as (.bp ((h8 p g.t gen kinds m).map (·.2))) v2),(1,.i gen),(2,.ints kinds),(3,.ptr [.p q.bz 0])],.own 23 1 v2::.own 3 1 v1::eo p q g.ch::eh ah q g.t⟩/\z=p.methods.length - m/\m<=p.methods.length) [] Hx ⟨_,_,⟨0,_,_,rfl,rfl,aa⟩,h1,gE⟩ ?_;intro B;rintro z _ ⟨m,v1,v2,rfl,rfl,hm⟩;refine ay ?_;refine az (λaf=>?_) λaf=>?_
 ·have V:m<p.methods.length:=by omega
  obtain⟨M,c4⟩:∃M,M=p.methods.getD m default:=iZ;have a4:=IQ (p:=p) (t:=g.t) (gen:=gen) (kinds:=kinds) (m:=m);have T:=IS (p:=p) (t:=g.t) (gen:=gen) (kinds:=kinds) (m:=m);have U:=IT (p:=p) (t:=g.t) (gen:=gen) (kinds:=kinds) (m:=m);rw[<-c4] at a4 T U;refine a8 ?_;refine bT (λbt=>?_);refine ay ?_;rw[<-c4];refine eB 9 ?_;refine aP ?_;refine az (λae=>?_) λae=>?_
  ·refine aJ ?_;refine .oi B ⟨m+1,v1,v2,by rw[a4 ae],rfl,V⟩ ?_ ?_ ?_
   ·omega
   ·repeat (first | exact trivial | refine⟨rfl,?_⟩)
   ·repeat (first | exact List.Sublist.refl _ | apply List.Sublist.cons_cons | refine List.Sublist.cons _ ?_)
  ·have fw:∀x∈eb kinds,ib p x M.fact:=λx aK=>by
    have qG:iO p (m:Int)=true:=by unfold iO;simp;omega
    have cm:=xD aD qG (l:=x) E3;rw[show ((m:Int)).toNat=m from rfl, <-c4] at cm;exact cm
   refine ay ?_;refine .pR (kinds.length) rfl rfl rfl rfl rfl rfl rfl rfl rfl aa ia λcR=>?_;refine bT (λgK=>?_);refine bT (λhk=>?_);refine ay ?_;rw[IW];refine aQ ?_;refine ag (.call .k ((IG _))) ?_;refine aH ?_;refine .weaken (st':=⟨[(34,.fn (.func 116) [] [.ptr [.ints kinds]]),(8,.i m),(9,.ptr (eS M)),(10,.p gK 0),(11,.p hk 0),(21,.i m),(20,.i p.methods.length),(19,.aj 9 (p.methods.map eS)),(6,.as (.ints ((h8 p g.t gen kinds m).map (·.1))) v1),(7,.as (.bp ((h8 p g.t gen kinds m).map (·.2))) v2),(1,.i gen),(2,.ints kinds),(3,.ptr [.p q.bz 0])],(.au hk 4 [.b false]::.au gK 23 [fA cR kinds.length]::e1 cR (hl [] kinds.length)::.own 23 1 v2::.own 3 1 v1::eo p q g.ch::eh ah q g.t)++(gY B++Hx)⟩) h1 gE ?_;refine .q3 B (λb (_:al)=>fA b kinds.length) (λb x=>[e1 b x]) (eb kinds) (λpre H=>H=(.au hk 4 [.b (!(pre.filter (λl=>(cX p g.t l M.fact).1)).isEmpty)]::.au gK 23 [fA cR kinds.length]::e1 cR (hl (pre.filter (λl=>(cX p g.t l M.fact).1)) kinds.length)::.own 23 1 v2::.own 3 1 v1::eo p q g.ch::eh ah q g.t)) (λ_ _ _=>False) ((.au hk 4 [.b false]::.au gK 23 [fA cR kinds.length]::e1 cR (hl [] kinds.length)::.own 23 1 v2::.own 3 1 v1::eo p q g.ch::eh ah q g.t)) Hx (λb x=>[(12,fA b kinds.length),(35,fA b kinds.length),(9,.ptr (eS M)),(10,.p gK 0),(11,.p hk 0),(3,.ptr [.p q.bz 0])]) rfl rfl rfl rfl (IH _ gJ a5) cM ?_ ?_ ?_ ?_
   ·intro hH nI gf jX x eG;refine aH ?_;exact λa w s=>⟨_,rfl,s.weaken xf xb⟩
   ·intro hH xC fD pre jX x H1 eG nI gf N eF;obtain rfl:=eF;have Z:x∈eb kinds:=N.subset aT;obtain⟨pL,dU⟩:=nd Z;have a3:=qa bD Z;obtain⟨A,Q⟩:∃A,A=(pre.filter (λl=>(cX p g.t l M.fact).1)):=iZ;rw[<-Q];have S:∀y∈A,y∈eb kinds:=λy hy=>by rw[Q] at hy;exact N.subset (List.mem_append_left _ (List.mem_filter.1 hy).1)
    refine aJ ?_;refine ag (.qO .k (fq.par (fq.aeB bI h (λe he=>.tail _ (.tail _ (List.mem_append_left _ (.tail _ (.tail _ (.tail _ (.tail _ (.tail _ he))))))))) (fq.outs (pre:=[ab.fact M.fact]) (post:=[]) (nb:=jX) (o:=x) (.tail _ (.tail _ (List.mem_append_right _ dB))) pL aa)) (DE aD b4 qH a3 _ (fw x Z))) ?_;refine ag zF ?_;refine aH ?_;refine bc (λak=>?_) λak=>?_
    ·have ak:(cX p g.t x M.fact).1=false:=by simpa using ak
     refine aH ?_;exact .mH (H:=(.au hk 4 [.b (!A.isEmpty)]::.au gK 23 [fA cR kinds.length]::e1 cR (hl A kinds.length)::.own 23 1 v2::.own 3 1 v1::eo p q g.ch::eh ah q g.t)) kD (by rw[xi (q:=(λl=>(cX p g.t l M.fact).1)) ak, <-Q])
    ·have ak:(cX p g.t x M.fact).1=true:=by simpa using ak
     refine dW ?_;rw[<-IK A x];refine bm (λz st=>∃j:Nat,st=⟨[(45,.i j),(44,.i kinds.length),(43,fA jX kinds.length),(12,fA jX kinds.length),(9,.ptr (eS M)),(10,.p gK 0),(11,.p hk 0),(3,.ptr [.p q.bz 0])],.loop hH fD (aE [(34,.fn (.func 116) [] [.ptr [.ints kinds]]),(8,.i m),(9,.ptr (eS M)),(10,.p gK 0),(11,.p hk 0),(21,.i m),(20,.i p.methods.length),(19,.aj 9 (p.methods.map eS)),(6,.as (.ints ((h8 p g.t gen kinds m).map (·.1))) v1),(7,.as (.bp ((h8 p g.t gen kinds m).map (·.2))) v2),(1,.i gen),(2,.ints kinds),(3,.ptr [.p q.bz 0])])::.obj xC (.deferred (some []))::((.au hk 4 [.b true]::.au gK 23 [fA cR kinds.length]::e1 cR (mW A x kinds.length j)::.own 23 1 v2::.own 3 1 v1::eo p q g.ch::eh ah q g.t)++([e1 jX x]++eG))⟩/\z=kinds.length - j/\j<=kinds.length) tz ?_;rintro z _ ⟨j,rfl,rfl,cp⟩;refine ay ?_;refine az (λaL=>?_) λaL=>?_
     ·have dz:j<kinds.length:=by omega
      obtain⟨c,a1,_⟩:=dU j dz;have iy:=a3 _ (bH (l:=x) (k:=j) aa);rw[a1] at iy;have aeD:lV A j<2^62:=IJ (m:=aG p) aa A (λy hy=>by have I0:=(nd (S y hy)).1;have dF:=qa bD (S y hy) _ (bH (l:=y) (k:=j) aa);omega) (λy hy=>by have I0:=(nd (S y hy)).1;have dF:=qa bD (S y hy) _ (bH (l:=y) (k:=j) aa);omega);have wo:=IN (L:=A) (x:=x) dz;rw[a1] at wo;refine aP ?_;refine ag CL ?_;refine ag (.le (by apply ad.iv rfl rfl rfl;(case hm=>exact .tail _ (.tail _ (List.mem_append_right _ dB)));(case hy=>exact ints_at aa)) (.b6 a1)) ?_;refine aV ?_;refine b0 6 71 ?_;refine aQ ?_;refine bh (ad.gX rfl rfl rfl rfl rfl aa) ?_;refine bh (ad.le EW (aq.b6 (IM dz))) ?_;refine aR ?_;refine bh (ad.shift rfl rfl rfl rfl rfl aa (ml c ⟨aa,aa⟩)) ?_;refine aQ ?_;refine ag (ad.bits rfl rfl rfl rfl rfl (kt _ _ aa (Nat.pow_lt_pow_right (a:=2) (n:=63) c8 aa))) ?_;refine ag (ad.gX rfl rfl rfl rfl rfl aa) ?_;apply ai.gb rfl rfl rfl rfl rfl rfl rfl rfl rfl rfl
      (case hu=>repeat (first | exact bG.head _ _ _ | apply bG.tail));(case hfit=>simp[yk];omega);(case hds=>exact (ints_set Fa _).trans E6)
      refine aP ?_;exact aU (⟨j+1,rfl,rfl,dz⟩)
     ·obtain rfl:j=kinds.length:=by omega
      rw[IL];refine aS ?_;exact aZ.mH (H:=(.au hk 4 [.b true]::.au gK 23 [fA cR kinds.length]::e1 cR (hl (A++[x]) kinds.length)::.own 23 1 v2::.own 3 1 v1::eo p q g.ch::eh ah q g.t)) kD (by rw[xh (q:=(λl=>(cX p g.t l M.fact).1)) ak, <-Q,show (!(A++[x]).isEmpty)=true by simp])
   ·intro oC H1 eF;obtain rfl:=eF;have a9:(eb kinds).filter (λl=>(cX p g.t l M.fact).1)=hd p g.t M.fact kinds:=rfl;rw[a9];refine aP ?_;refine bc (λbo=>?_) (λbo=>?_)
    ·have df:hd p g.t M.fact kinds≠ []:=λe=>by rw[e] at bo;simp at bo
     obtain⟨G,fb⟩:∃G,G=hl (hd p g.t M.fact kinds) kinds.length:=⟨_,rfl⟩;rw[<-fb] at U ⊢;rw[DO cR gK G 0];refine aA.perm (H':=.au cR 3 ((G.map λx=>[ab.i x]).flatten++[])::.au gK 23 ([]++fA cR kinds.length::[])::(.au hk 4 [.b (!(hd p g.t M.fact kinds).isEmpty)]::.own 23 1 v2::.own 3 1 v1::((eo p q g.ch::eh ah q g.t)++(gY (oC::B)++Hx)))) (((List.Perm.swap _ _ _).trans (.cons _ (.swap _ _ _))).trans (.swap _ _ _)) ?_;refine aA.M1 (k:=1) (by rw[List.length_map,fb];simp[hl]) (λe he=>by obtain⟨y,_,rfl⟩:=List.mem_map.1 he;rfl) (Nat.le_refl _) ia ?_;refine eB 10 ?_;refine aA.cu mixed ?_;refine bW.sd (X:=ob) [⟨3,63,false⟩] (λJ=>match J with | [some a]=>.au hk 4 [.b (!(hd p g.t M.fact kinds).isEmpty)]::.own 23 1 v2::.own 3 1 a::((eo p q g.ch::eh ah q g.t)++(gY (oC::B)++Hx)) | _=>.au hk 4 [.b (!(hd p g.t M.fact kinds).isEmpty)]::.own 23 1 v2::.own 3 1 v1::((eo p q g.ch::eh ah q g.t)++(gY (oC::B)++Hx))) (λj J=>match j,J with | 0,[some a]=>.as (.aj 1 (((h8 p g.t gen kinds m).map (·.1)).map (λn=>[ab.i n])++[[.i (m:Int)]])) a | _,_=>.any) 0 7 71 rfl ao ao rfl rfl ao rfl (λ_ _ _ _ _ _ _ _ _ h=>h.elim) ?_;refine cn [[false]] ⟨λf=>ad.move rfl rfl rfl,trivial⟩ ?_;refine cn [[false]] ⟨λf=>ad.move rfl rfl rfl,trivial⟩ ?_;refine cn [[false]] ⟨λf=>ad.row (els:=[[.i (m:Int)]]) rfl rfl cD rfl rfl rfl rfl rfl rfl,trivial⟩ ?_;refine cN.kg 0 [[false]] rfl rfl rfl ao rfl rfl rfl ⟨λf=>⟨ee.own (news:=[[.i (m:Int)]]) rfl rfl rfl (aq.refl _) rfl rfl (aq.refl _) rfl Bk Bk (λ_=>dt) (λ_=>rfl),hL⟩,trivial⟩ ?_;refine cn [[true],[false]] ⟨λf=>ad.move rfl rfl rfl,λf=>ad.move rfl rfl rfl,trivial⟩ ?_;refine cn [[true],[false]] ⟨λf=>cP,λf=>cP,trivial⟩ ?_;refine cn [[true],[false]] ⟨λf=>ad.row (els:=[[ab.ints G]]) rfl rfl cD rfl rfl rfl rfl rfl rfl,λf=>ad.row (els:=[[ab.ints G]]) rfl rfl cD rfl rfl rfl rfl rfl rfl,trivial⟩ ?_;refine cN.nil (λf=>?_);simp only[kN,List.map_cons,List.map_nil,List.cons_append,List.nil_append];refine aR ?_;refine ai.dJ rfl rfl rfl rfl rfl rfl rfl rfl (aq.refl _) (rfl) (λ_=>dt) Bk Bk (λxE=>?_);refine a8 ?_;refine aZ.oi (oC::B) (⟨m+1,f 63,xE,by rw[U ae df,IU,IV],rfl,V⟩) ?_ ?_ ?_
     ·omega
     ·repeat (first | exact trivial | refine⟨rfl,?_⟩)
     ·repeat (first | exact List.Sublist.refl _ | apply List.Sublist.cons_cons | refine List.Sublist.cons _ ?_)
    ·have df:hd p g.t M.fact kinds= []:=by simpa using bo
     refine aP ?_;refine aZ.oi (oC::B) (⟨m+1,v1,v2,by rw[T df],rfl,V⟩) ?_ ?_ ?_
     ·omega
     ·repeat (first | exact trivial | refine⟨rfl,?_⟩)
     ·repeat (first | exact List.Sublist.refl _ | apply List.Sublist.cons_cons | refine List.Sublist.cons _ ?_)
   ·intro oC gH pre H1 N ac;exact ac.elim
 ·obtain rfl:m=p.methods.length:=by omega
  refine c6 ?_;refine aZ.ld B (eo p q g.ch::eh ah q g.t) Hx (rs:=[.tmp 6,.tmp 7]) (H':=bO p ah q g Hx) rfl gE (.tmp rfl (.tmp rfl (.nil))) (.cons (aq.eY _ _) (.cons (aq.eY _ _) .nil)) bE ?_;exact⟨rfl,rfl⟩
def D6{enc}(h:∀x,dG (enc x)=true)(l:List α):(l.map enc).all dG=true:=by
 rw[List.all_eq_true];intro x c;obtain⟨a,_,rfl⟩:=List.mem_map.1 c;exact h a
def oG(f:Fact):Fact:=.mk 5 0 [] 0 0 [f]
def sM(a b:Fact):Fact:=.mk 6 0 [] 0 0 [a,b]
def aeE(f):aI prog 268 [ab.fact f] (ab.fact (oG f)):=by
 intro H;refine aM func268 λB I a=>?_;refine aH ?_;refine bT (λdN=>?_);refine aS ?_;refine ag ie ?_;refine aS ?_;refine .cl (rs:=[.cell 2 60]) (H':=H) rfl s4 (.cons (aq.agg (.cons ig (.cons ig (.cons (aq.nil 1) (.cons (.refl _) (.cons (.refl _) (.cons (tB [f] rfl) .nil))))))) .nil) bE ?_;exact⟨dP,rfl⟩
def aeF(a b):aI prog 267 [ab.fact a,ab.fact b] (ab.fact (sM a b)):=by
 intro H;refine aM func267 λB I c=>?_;refine aV ?_;refine bT (λdN=>?_);refine ay ?_;refine ag ie ?_;refine aS ?_;refine .cl (rs:=[.cell 4 60]) (H':=H) rfl s4 (.cons (aq.agg (.cons ig (.cons ig (.cons (aq.nil 1) (.cons (.refl _) (.cons (.refl _) (.cons (tB [a,b] rfl) .nil))))))) .nil) bE ?_;exact⟨dP,rfl⟩
def aeG(a b:Fact):(a==b)=(a.op==b.op && a.arg==b.arg && a.cls==b.cls && a.n==b.n && a.path==b.path && a.kids==b.kids):=by
 rw[Bool.eq_iff_iff];simp[Bool.and_eq_true,beq_iff_eq];constructor
 ·rintro rfl;simp
 ·rintro⟨⟨⟨⟨⟨g,c⟩,j⟩,f⟩,l⟩,h⟩;exact Fact.ext' g c l j f h
def aeH(f:hc.length=ff.length)(c:k<hc.length)(a:hc.take k=ff.take k)(h:hc.getD k default=ff.getD k default):hc.take (k+1)=ff.take (k+1):=by
 rw[<-c3 c, <-c3 aa,a,h]
def aeI(h:(hc.getD k default==ff.getD k default)=false):false=(hc==ff):=by
 symm;rw[beq_eq_false_iff_ne] at h ⊢;intro e;exact h (by rw[e])
def aeJ(j:k<=hc.length)(g:(hc.length:Int)<=k)(h:(hc.length:Int)=ff.length)(a:hc.take k=ff.take k):true=(hc==ff):=by
 have f:k=hc.length:=by omega
 subst f;have c:hc.length=ff.length:=by omega
 rw[List.take_length,c,List.take_length] at a;simp[a]
def aeK(h: ¬(hc.length:Int)=ff.length):false=(hc==ff):=by
 symm;rw[beq_eq_false_iff_ne];intro e;exact h (by rw[e])
def aeL{f}(a c)(h:∀x∈a,∀y B H,eZ B prog (.fn f cA cs) [ab.fact x,ab.fact y] H (λz j=>z= .b (x==y)/\j=H) (λ_ _=>False)):
  aI prog 288 [ab.facts a,ab.facts c,.fn f cA cs] (.b (a==c)):=by
 intro H;refine aM func288 λB I r=>?_;refine .ez (t:=0) rfl λgP=>?_;refine .ez (t:=1) rfl λvj=>?_;refine dW ?_;refine az (λaf=>?_) λaf=>?_
 ·refine aP ?_;refine aB 6 H ?_;exact⟨bn (aeK af),rfl⟩
 ·refine bA ?_;refine bm (λm l=>∃k:Nat,l=⟨[(17,.i k),(16,.i a.length),(15,ab.facts a),(0,ab.facts a),(1,ab.facts c),(2,.fn f cA cs)],H⟩/\m=a.length - k/\k<=a.length/\a.take k=c.take k) (⟨0,rfl,rfl,aa,rfl⟩) ?_;rintro m _ ⟨k,rfl,rfl,q,g⟩;refine ay ?_;refine az (λae=>?_) λae=>?_
  ·refine a8 ?_;refine bT (λdN=>?_);refine bQ ?_;refine bT (λb1=>?_);refine aJ ?_;refine ai.oa rfl rfl rfl rfl rfl rfl rfl rfl (.cons (.refl _) (.cons (.refl _) .nil)) (h (a.getD k default) (hT aa) (c.getD k default) B _) ?_;rintro _ _ ⟨rfl,rfl⟩;refine aH ?_;refine bc (λak=>?_) (λak=>?_)
   ·have ak:(a.getD k default==c.getD k default)=false:=by simpa only[Bool.not_eq_true'] using ak
    refine bA ?_;refine aB 6 (H) ?_;exact⟨bn (aeI ak),rfl⟩
   ·have ak:(a.getD k default==c.getD k default)=true:=by simpa only[Bool.not_eq_false'] using ak
    refine aP ?_;exact aU (⟨k+1,rfl,rfl,aa,aeH aa aa g ta⟩)
  ·refine bA ?_;refine aB 6 (H) ?_;exact⟨bn (aeJ q ae af g),rfl⟩
def aeM(a)(f:∀k∈a.kids,∀y,aI prog 283 [ab.fact k,ab.fact y] (.b (k==y)))(b):aI prog 283 [ab.fact a,ab.fact b] (.b (a==b)):=by
 intro H;refine aM func283 λB I g=>?_;refine XN ?_;refine ai.cG rfl rfl rfl rfl rfl rfl (λav=>.call (.mk' rfl rfl rfl rfl cU) (Zo a.path b.path)) ?_;refine ay ?_;refine ai.cG rfl rfl rfl rfl rfl rfl (λav=>ad.call (.mk' rfl rfl rfl rfl cU) (aeL a.kids b.kids (λx c y B H=>eZ.fn (f x c y H)))) ?_;refine aS ?_;refine aB 4 (H) ?_;exact⟨bn (by rw[aeG];simp only[kr]),rfl⟩
def aeN(a b:Fact):aI prog 283 [ab.fact a,ab.fact b] (.b (a==b)):=Fact.mf (P:=λa=>∀b,aI prog 283 [ab.fact a,ab.fact b] (.b (a==b))) (λa c b=>aeM a c b) a b
def jC(l:c1):Fact:=if l.neg then oG l.f else l.f
def aeO(y x):aI prog 282 [ab.lit y,.ptr (pW x)] (.b (x.neg==y.neg && x.f==y.f)):=by
 intro H;refine aM func282 λB I a=>?_;refine jR ?_;refine ai.cG rfl rfl rfl rfl rfl rfl (λav=>ad.call (.mk' rfl rfl rfl rfl cU) (aeN x.f y.f)) ?_;refine aS ?_;refine aB 3 (H) ?_;exact⟨dP,rfl⟩
def aeP{f}{J Jx}(l)(h:uJ B prog (.fn f cA cs) ab.lit l F J Jx)(H Hx)(hF:F Hx)(j:J [] H):
  eM B prog 286 [.aj 7 (l.map pW),.fn f cA cs] (H++Hx) (wM J Jx l Hx) (λ_ _=>False):=by
 refine .of func286 rfl ax rfl rfl λI r=>?_;refine .ez (t:=0) rfl (λgP=>?_);refine c6 ?_;refine bm (λm o=>∃(k:Nat) (c:aC),o=⟨[(8,.i k),(7,.i l.length),(0,.aj 7 (l.map pW)),(1,.fn f cA cs)],c++Hx⟩/\m=l.length - k/\k<=l.length/\J (l.take k) c) (⟨0,H,rfl,rfl,aT,j⟩) ?_;rintro m _ ⟨k,c,rfl,rfl,q,kE⟩;refine ay ?_;refine az (λaf=>?_) λaf=>?_
 ·refine gv ?_;refine ai.oa rfl rfl rfl rfl rfl rfl rfl rfl (c5.refl _) (h (l.take k) (l.getD k default) c Hx Bz hF kE) ?_;rintro _ _ ⟨b,g,rfl,rfl,a,qC⟩;rw[c3 aa] at a qC;refine aQ ?_;refine az (λae=>?_) λae=>?_
  ·refine bS ?_;refine aZ.cl (rs:=[.tmp 4]) rfl eR cL bE ?_;exact⟨g,rfl,.inr ⟨l.take k,l.getD k default,l.drop (k+1),Dg aa,fJ BB,BG⟩⟩
  ·refine aP ?_;exact aU (⟨k+1,g,rfl,rfl,aa,a ae⟩)
 ·refine bA ?_;refine aZ.cl (rs:=[.tmp 4]) rfl eR cL bE ?_;exact⟨c,rfl,.inl ⟨rfl,Bu⟩⟩
def aeQ{f:Fn}(c:nu prog iH (.fn f cA cs) ab.lit l p):y0 prog iH 286 [.aj 7 (l.map pW),.fn f cA cs] (λy=>∃n:Int,y= .i n/\decide (n>=0)=l.any p):=
 FZ ax (λB F J m h H a j g=>aeP l h H a j g) c
def aeR{f}(c:nu prog iH (.fn f cA cs) ab.lit l p):hS prog iH 281 [.aj 7 (l.map pW),.fn f cA cs] (.b (l.any p)):=by
 intro H g;refine aM func281 λB I j=>?_;refine a8 ?_;refine .Gc rfl rfl rfl .k (aeQ c) g λy a=>?_;obtain⟨n,rfl,h⟩:=a;refine aS ?_;refine aB 4 H ?_;exact⟨bn h,rfl⟩
def aeS{f}(a:n6 prog (.fn f cA cs) ab.lit p)(l:List c1):aI prog 281 [.aj 7 (l.map pW),.fn f cA cs] (.b (l.any p)):=(aeR (a.on l)).pure
def a183(l)(f:l.length<=1000000)(H):bP prog 280 [ab.lits l] H (λy c=>∃v,y= .as (ab.lits l) v/\c= .own 303 7 v::H) (λ_ _=>False):=by
 refine aM func280 λB I h=>?_;refine a8 ?_;refine .uQ rfl rfl rfl rfl rfl rfl rfl gx rfl rfl λxt a=>?_;refine aQ ?_;refine az (λaf=>?_) λaf=>?_
 ·refine aP ?_;refine .oY 2 303 7 rfl ?_;refine aB 2 _ ?_;exact⟨_,congrArg (λx=>ab.as x _) (show ab.aj 7 []=ab.aj 7 _ by rw[a af]),rfl⟩
 ·refine aV ?_;refine ai.y2 rfl rfl rfl rfl (λv5=>?_);refine aR ?_;refine ai.dJ rfl rfl rfl rfl rfl rfl rfl rfl gx (D6 (λ_=>rfl) l) (λ_=>dt) cF cF (λAE=>?_);refine aV ?_;refine aB 2 (_) ?_;exact⟨_,rfl,rfl⟩
def nO(out:List c1)(x:c1):List c1:=if out.any (λy=>x.neg==y.neg && x.f==y.f) then out else out++[x]
def fS(a b:List c1):List c1:=b.foldl nO a
def aeT(a)(x):(nO a x).length<=a.length+1:=by unfold nO;split <;> simp
def RP{a b:List c1}(h:k<b.length):fS a (b.take (k+1))=nO (fS a (b.take k)) (b.getD k default):=by
 rw[<-c3 h,fS,List.foldl_append];rfl
def RQ(a):∀b:List c1,(fS a b).length<=a.length+b.length:=by
 intro b
 induction b generalizing a with
 | nil=>simp[fS]
 | cons x b c=>
  have:=c (nO a x);have f:=aeT a x;show (fS (nO a x) b).length<=_;simp[List.length_cons];omega
def aeU(a b)(l:a.length<=100000)(j:b.length<=100000):aI prog 276 [ab.lits a,ab.lits b] (ab.lits (fS a b)):=by
 intro H;refine aM func276 λB I o=>?_;refine aJ ?_;refine cI .k ((a183 a aa H).b) ?_;rintro _ _ ⟨v,rfl,rfl⟩;refine bS ?_;refine bm (λm c=>∃(k:Nat) (v:Value) (els:List bl),c=⟨[(12,.i k),(11,.i b.length),(10,ab.lits b),(5,.as (.aj 7 els) v)],.own 303 7 v::H⟩/\m=b.length - k/\k<=b.length/\els=(fS a (b.take k)).map pW) ⟨0,v,_,rfl,rfl,aa,rfl⟩ ?_;rintro m _ ⟨k,v,_,rfl,rfl,q,rfl⟩;refine ay ?_;refine az (λaf=>?_) λaf=>?_
 ·refine aJ ?_;refine bT (λdN=>?_);refine aV ?_;refine eB 7 ?_;refine aH ?_;refine ag (.tf .k xc (aeS (.of (λy=>aeO y (b.getD k default))) (fS a (b.take k)))) ?_;refine aH ?_;refine bc (λae=>?_) (λae=>?_)
  ·have e:fS a (b.take (k+1))=fS a (b.take k)++[b.getD k default]:=by rw[RP aa,nO,if_neg (by simpa only[Bool.not_eq_true',Bool.not_eq_true] using ae)]
   have g:=RQ a (b.take k);rw[List.length_take] at g;refine aH ?_;refine ag (ad.row rfl rfl cD rfl rfl rfl rfl rfl rfl) ?_;refine ai.dJ rfl rfl rfl rfl rfl rfl rfl rfl (aq.refl _) (rfl) (λ_=>dt) (by show (List.length (List.map _ _)+1)*88<=_;rw[List.length_map];omega) E7 (λaeV=>?_);refine aJ ?_;exact aU (⟨k+1,aeV,_,rfl,rfl,aa,(by rw[e,List.map_append])⟩)
  ·have e:fS a (b.take (k+1))=fS a (b.take k):=by rw[RP aa,nO,if_pos (by simpa only[Bool.not_eq_false'] using ae)]
   refine aP ?_;exact aU (⟨k+1,v,_,rfl,rfl,aa,by rw[e]⟩)
 ·obtain rfl:k=b.length:=by omega
  refine bS ?_;refine aZ.cl (rs:=[.tmp 4]) (H':=H) rfl (.tmp rfl (.nil)) (.cons (aq.eY _ _) .nil) bE ?_;exact⟨by rw[List.take_length];rfl,rfl⟩
mutual
def ei:Fact->Bool->List (List c1)
 | .mk op arg path cls n kids,c=>
  if op=1 then (if c then [] else [[]])
  else if op=5 then (sN kids (!c)).getD 0 []
  else if dp (.mk op arg path cls n kids) then [[⟨.mk op arg path cls n kids,c⟩]]
  else if c==(op==6) then (sN kids c).getD 0 []++(sN kids c).getD 1 []
  else ((sN kids c).getD 0 []).flatMap λa=>((sN kids c).getD 1 []).map (fS a)
def sN:List Fact->Bool->List (List (List c1))
 | [],_=>[]
 | k::r,c=>ei k c::sN r c
end
theorem xR(c):∀(l:List Fact) (i:Nat),i<l.length->(sN l c).getD i []=ei (l.getD i default) c
 | [],i,h=>by simp at h
 | k::r,0,h=>by rw[sN];rfl
 | k::r,i+1,h=>by rw[sN];exact xR c r i gU
def AF(h:f.op=1)(c):ei f c=if c then [] else [[]]:=by cases f;rw[ei];exact if_pos h
def AG(h:f.op=5)(a:0<f.kids.length)(c):ei f c=ei (f.kids.getD 0 default) (!c):=by
 rw[<-xR (!c) f.kids 0 a];cases f;rw[ei];simp[Fact.op] at h;subst h;rfl
def AH(g: ¬f.op=1)(a: ¬f.op=5)(h:dp f)(c):ei f c= [[⟨f,c⟩]]:=by
 cases f;rw[ei];simp[Fact.op] at g a;rw[if_neg g,if_neg a,if_pos h]
def AI(a: ¬f.op=1)(h: ¬f.op=5)(j:dp f=false){c:Bool}(g:(c==(f.op==6))=true)(l:1<f.kids.length):ei f c=ei (f.kids.getD 0 default) c++ei (f.kids.getD 1 default) c:=by
 rw[<-xR c f.kids 0 aa, <-xR c f.kids 1 l];cases f;rw[ei];simp only[Fact.op] at a h g;rw[if_neg a,if_neg h,if_neg (by simp[j]),if_pos g];rfl
def AJ(g: ¬f.op=1)(j: ¬f.op=5)(l:dp f=false){c}(h:(c==(f.op==6))=false)(m:1<f.kids.length):ei f c=(ei (f.kids.getD 0 default) c).flatMap λa=>(ei (f.kids.getD 1 default) c).map (fS a):=by
 rw[<-xR c f.kids 0 aa, <-xR c f.kids 1 m];cases f;rw[ei];simp[Fact.op] at g j h;rw[if_neg g,if_neg j,if_neg (by simp[l]),if_neg (by simp[h])];rfl
/- what the walk RR cases asks of a fact: a known operation, as many parts as it has, nothing too long -/
mutual
def okB:Fact->Bool
 | .mk op _ path _ _ kids=>decide (1<=op) && decide (op<=7) && ((kids.length:Int)==kj op) && decide (path.length<=1000) && xS kids
def xS:List Fact->Bool
 | []=>true
 | f::r=>okB f && xS r
end
theorem RS:∀{l:List Fact},xS l=true->∀k∈l,okB k=true
 | [],_,k,a=>by cases a
 | x::r,h,k,a=>by
  rw[xS,Bool.and_eq_true] at h;rcases List.mem_cons.1 a with e | a
  ·rw[e];exact h.1
  ·exact RS h.2 k a
def vI(h:okB f):1<=f.op/\f.op<=7/\(f.kids.length:Int)=kj f.op/\f.path.length<=1000/\∀k∈f.kids,okB k=true:=by
 cases f;rw[okB] at h;simp[Bool.and_eq_true,decide_eq_true_eq,beq_iff_eq] at h;exact⟨h.1.1.1.1,h.1.1.1.2,h.1.1.2,h.1.2,RS h.2⟩
theorem D7:∀(l:List Fact),1<l.length->cW (l.getD 0 default)+cW (l.getD 1 default)<=fk l
 | a::b::r,_=>by simp[fk] <;> omega
 | [_],h=>by simp at h
theorem RT:∀(l:List Fact),0<l.length->cW (l.getD 0 default)<=fk l
 | a::r,_=>by simp[fk]
def AK(h:okB f)(l: ¬f.op=1)(j: ¬f.op=5)(g:dp f=false):f.kids.length=2:=by
 obtain⟨a,b,c,_⟩:=vI h;simp[dp,Bool.and_eq_false_iff,decide_eq_false_iff_not] at g;have:f.op=6\/f.op=7:=by omega
 rw[kj,if_neg j,if_pos this] at c;omega
def AL(h:okB f)(g:f.op=5):f.kids.length=1:=by
 obtain⟨a,b,c,_⟩:=vI h;rw[kj,if_pos g] at c;omega
def Jw:∀(f:Fact),okB f=true->∀c,∀l∈ei f c,l.length<=cW f:=by
 refine Fact.mf λf s m c l g=>?_;have t:=vI m;by_cases r:f.op=1
 ·rw[AF r] at g;cases c <;> simp at g;subst g;simp
 by_cases o:f.op=5
 ·have A:=AL m o;rw[AG o aa] at g;have:=s _ gZ (t.2.2.2.2 _ gZ) _ l g;have C:=RT f.kids aa;rw[p2];omega
 by_cases q:dp f=true
 ·rw[AH r o q] at g;simp at g;subst g;rw[p2];simp
 ·have j:dp f=false:=by simpa using q
  have A:=AK m r o j;have B:=D7 f.kids aa;have w:=s (f.kids.getD 0 default) gZ (t.2.2.2.2 _ gZ) c;have v:=s (f.kids.getD 1 default) gZ (t.2.2.2.2 _ gZ) c;rw[p2];cases a1:(c==(f.op==6)) with
  | true=>
   rw[AI r o j a1 aa] at g;rcases List.mem_append.1 g with h | h
   ·have:=w l h;omega
   ·have:=v l h;omega
  | false=>
   rw[AJ r o j a1 aa] at g;obtain⟨a,z,g⟩:=List.mem_flatMap.1 g;obtain⟨b,x,rfl⟩:=List.mem_map.1 g;have:=RQ a b;have:=w a z;have:=v b x;omega
def sO(J Jx:List α->aC->Prop)(pre M:List α)(Hx:aC)(y:ab)(H':aC):Prop:=
 ∃b H1,y= .b b/\H'=H1++Hx/\(b=true->J (pre++M) H1)/\(b=false->∃q,q<+:M/\Jx (pre++q) H1)
def aeW{pre L:List β}{g:α->β}{M a:List α}{b:α}(h:pre++M.map g<+:L)(c:a++[b]<+:M):(pre++a.map g)++[g b]<+:L:=by
 refine List.IsPrefix.trans ?_ h;rw[List.append_assoc];refine (List.prefix_append_right_inj pre).2 ?_;have:=c.map g;simpa using this
def aeX{pre L:List β}{g:α->List β}{M a:List α}{b:α}(h:pre++M.flatMap g<+:L)(c:a++[b]<+:M):(pre++a.flatMap g)++g b<+:L:=by
 refine List.IsPrefix.trans ?_ h;rw[List.append_assoc];refine (List.prefix_append_right_inj pre).2 ?_;obtain⟨t,rfl⟩:=c;exact⟨t.flatMap g,aT⟩
def RU{c M:List α}{b:α}(a:c++[b]<+:M):b∈M:=a.subset aT
def aeY{g}{j h}{L}{J Jx}(l:o0 B prog (.fn g j h) ab.lits L F J Jx)(a b)(w:a.length<=1000)(v:b.length<=1000)(pre)(t:pre++[fS a b]<+:L)(H Hx)(hF:F Hx)(m:J pre H):
  eM B prog 275 [ab.lits b,.ptr [.fn g j h],.ptr [ab.lits a]] (H++Hx) (λy o=>∃f c,y= .b f/\o=c++Hx/\(f=true->J (pre++[fS a b]) c)/\(f=false->Jx (pre++[fS a b]) c)) (λ_ _=>False):=by
 refine eM.of func275 rfl ax rfl rfl (λI x=>?_);refine ay ?_;refine b0 4 10 ?_;refine aH ?_;refine bh (ad.call .k (aeU a b aa aa)) ?_;refine aQ ?_;refine ai.oa rfl rfl rfl rfl rfl rfl rfl rfl cL (l pre (fS a b) H Hx t hF m) ?_;rintro _ _ ⟨r,c,rfl,rfl,q,s⟩;refine aV ?_;refine aZ.cl (rs:=[.tmp 4]) rfl eR cL bE ?_;exact⟨r,c,rfl,rfl,q,s⟩
def AM(B:Nat)(f:Fact)(c:Bool):Prop:=∀(da:Nat) (g:Fn) (gs gc:bl) (L:List (List c1)) (F:aC->Prop) (J Jx:List (List c1)->aC->Prop),o0 B prog (.fn g gs gc) ab.lits L F J Jx->∀(pre:List (List c1)),pre++ei f c<+:L->
 ∀(H Hx:aC),br.au da 301 [.fn (.func 273) [] [.p da 0]]∈Hx->F Hx->J pre H->eM B prog 273 [ab.fact f,.b c,.fn g gs gc,.p da 0] (H++Hx) (sO J Jx pre (ei f c) Hx) (λ_ _=>False)
def aeZ{c}(S:1<f.kids.length)(K:AM B (f.kids.getD 1 default) c)(j:∀l∈ei (f.kids.getD 1 default) c,l.length<=1000){r}{g}{o m}{L}{F}{J Jx}(E:o0 B prog (.fn g o m) ab.lits L F J Jx)
  (a) (M:a.length<=1000) (pre) (P:pre++(ei (f.kids.getD 1 default) c).map (fS a)<+:L) (H Hx) (hm:br.au r 301 [.fn (.func 273) [] [.p r 0]]∈Hx) (hF:F Hx) (G:J pre H):
  eM B prog 274 [ab.lits a,.p r 0,.ptr (fy f),.ptr [.b c],.ptr [.fn g o m]] (H++Hx) (sO J Jx pre ((ei (f.kids.getD 1 default) c).map (fS a)) Hx) (λ_ _=>False):=by
 refine eM.of func274 rfl ax rfl rfl (λI R=>?_);have t:o0 B prog (.fn (.func 275) [] [.ptr [.fn g o m],.ptr [ab.lits a]]) ab.lits (ei (f.kids.getD 1 default) c) F (λea H=>J (pre++ea.map (fS a)) H) (λea H=>Jx (pre++ea.map (fS a)) H):=by
  intro ea b s N D v z;refine eZ.mono (eZ.r0 (aeY E a b M (j b (RU D)) (pre++ea.map (fS a)) (aeW P D) s N v z)) ?_ (λ_ _ h=>h);rintro _ _ ⟨x,O,rfl,rfl,w,A⟩;exact⟨x,O,rfl,rfl,λh=>by simpa using w h,λh=>by simpa using A h⟩
 refine aP ?_;refine b0 7 15 ?_;refine bh (yi) ?_;refine aJ ?_;refine cI .k (K r (.func 275) [] [.ptr [.fn g o m],.ptr [ab.lits a]] _ _ _ _ t [] (List.prefix_refl _) H Hx hm hF (by simpa using G)) ?_;rintro _ _ ⟨x,s,rfl,rfl,w,A⟩;refine aV ?_;refine aZ.cl (rs:=[.tmp 6]) rfl eR cL bE ?_;exact⟨x,s,rfl,rfl,λh=>by simpa using w h,λh=>by obtain⟨q,Q,I⟩:=A h;exact⟨q.map (fS a),Q.map _,by simpa using I⟩⟩
def ae0{J Jx:List α->aC->Prop}{pre:List α}(h:J pre H):sO J Jx pre [] Hx (.b true) (H++Hx):=⟨true,H,rfl,rfl,λ_=>by simpa using h,λh=>by cases h⟩
def RV{J Jx:List α->aC->Prop}{pre:List α}{x:α}(h:∃b a,y= .b b/\H'=a++Hx/\(b=true->J (pre++[x]) a)/\(b=false->Jx (pre++[x]) a)):sO J Jx pre [x] Hx y H':=by
 obtain⟨b,a,rfl,rfl,f,c⟩:=h;exact⟨b,a,rfl,rfl,f,λh=>⟨[x],List.prefix_refl _,c h⟩⟩
def ae1{c}{J Jx:List (List c1)->aC->Prop}{pre:List (List c1)}(l:J pre H)(j:(!c)=true->∃b a,y= .b b/\H'=a++Hx/\(b=true->J (pre++[[]]) a)/\(b=false->Jx (pre++[[]]) a))(g:(!c)=false->y= .b false/\H'=H++Hx):
  ∃f a,y= .b f/\H'=a++Hx/\sO J Jx pre (if c then [] else [[]]) Hx (.b (bif c then true else f)) H':=by
 cases c with
 | true=>obtain⟨rfl,rfl⟩:=g rfl;exact⟨false,H,rfl,rfl,ae0 l⟩
 | false=>
  have h:=j rfl;obtain⟨b,a,rfl,rfl,e⟩:=h;exact⟨b,a,rfl,rfl,RV ⟨b,a,rfl,rfl,e⟩⟩
def ae2{J Jx:List α->aC->Prop}{pre M N:List α}{Hx a H'}{b1:Bool}(t:b1=true->J (pre++M) a)(r:b1=false->∃q,q<+:M/\Jx (pre++q) a)(o:b1=true->sO J Jx (pre++M) N Hx y H')(j:b1=false->y= .b false/\H'=a++Hx):
  ∃g,y= .b g/\sO J Jx pre (M++N) Hx (.b (bif b1 then g else false)) H':=by
 cases b1 with
 | true=>
  obtain⟨b,m,rfl,rfl,l,s⟩:=o rfl;refine⟨b,rfl,⟨b,m,rfl,rfl,λh=>by rw[<-List.append_assoc];exact l h,λh=>?_⟩⟩;obtain⟨q,f,c⟩:=s h;exact⟨M++q,(List.prefix_append_right_inj M).2 f,by rw[<-List.append_assoc];exact c⟩
 | false=>
  obtain⟨rfl,rfl⟩:=j rfl;obtain⟨q,f,c⟩:=r rfl;exact⟨false,rfl,⟨false,a,rfl,rfl,λh=>(by cases h),λ_=>⟨q,f.trans (List.prefix_append _ _),c⟩⟩⟩
def ae3{J Jx:List β->aC->Prop}{pre:List β}{M:List α}{g:α->List β}(h:sO (λea H=>J (pre++ea.flatMap g) H) (λea H=>∃q,q<+:ea.flatMap g/\Jx (pre++q) H) [] M Hx y H'):sO J Jx pre (M.flatMap g) Hx y H':=by
 obtain⟨b,o,rfl,rfl,l,c⟩:=h;refine⟨b,o,rfl,rfl,λh=>by simpa using l h,λh=>?_⟩;obtain⟨q,⟨t,rfl⟩,m,a,f⟩:=c h;exact⟨m,a.trans ⟨t.flatMap g,aT⟩,f⟩
def ae4(hO:okB f)(hn:cW f<=1000)(fv:∀k∈f.kids,∀c,AM B k c)(c):AM B f c:=by
 intro da g gs gc L F J Jx av pre e0 H Hx hm hF eF;refine .of func273 rfl ax rfl rfl λI bN=>?_;have bV:=vI hO;refine jR ?_;refine az (λaf=>?_) λaf=>?_
 ·rw[AF af] at e0 ⊢;refine aS ?_;refine .Mi rfl rfl rfl rfl rfl rfl rfl rfl (λh=>h) rfl (λ_=>rfl) (.cons (.nil 7) .nil) (λh=>av pre [] H Hx (by rw[Bool.not_eq_true'] at h;subst h;exact e0) hF eF) ?_;intro y H' vv vw;obtain⟨pn,H1,rfl,rfl,bK⟩:=ae1 eF vv vw;refine aP ?_;refine .cl (rs:=[.tmp 7]) rfl eR cL bE ?_;exact bK
 ·refine aJ ?_;refine az (λae=>?_) λae=>?_
  ·have D8:=AL hO ae;rw[AG ae aa] at e0 ⊢;refine aR ?_;refine b0 8 71 ?_;refine bh (yi) ?_;refine a8 ?_;refine cI .k (fv _ gZ (!c) da g gs gc L F J Jx av pre e0 H Hx hm hF eF) ?_;intro y H' bK;obtain⟨pn,H1,rfl,rfl,bK⟩:=bK;refine ay ?_;refine .cl (rs:=[.tmp 7]) rfl eR cL bE ?_;exact⟨pn,H1,rfl,rfl,bK⟩
  ·refine aH ?_;refine ag (.call .k ((Pj _))) ?_;refine aH ?_;refine bc (λak=>?_) λak=>?_
   ·have AN:dp f=true:=ak;rw[AH af ae AN] at e0 ⊢;refine ay ?_;refine ag ie ?_;refine .oa rfl rfl rfl rfl rfl rfl rfl rfl XX (av pre [⟨f,c⟩] H Hx e0 hF eF) ?_;intro y H' bK;obtain⟨pn,H1,rfl,rfl,bK⟩:=bK;refine ay ?_;refine .cl (rs:=[.tmp 7]) rfl eR cL bE ?_;exact RV ⟨pn,H1,rfl,rfl,bK⟩
   ·have AN:dp f=false:=ak;have lH:=AK hO af ae AN;refine bQ ?_;refine bc (λaL=>?_) λaL=>?_
    ·rw[AI af ae AN aL aa] at e0 ⊢;refine aR ?_;refine b0 7 71 ?_;refine bh (yi) ?_;refine aJ ?_;refine cI .k (fv _ gZ c da g gs gc L F J Jx av pre ((by rw[<-List.append_assoc] at e0;exact (List.prefix_append _ _).trans e0)) H Hx hm hF eF) ?_;intro y H' bK;obtain⟨b1,H1,rfl,rfl,bM,bJ⟩:=bK;refine ay ?_;refine .dk 9 16 71 rfl ao rfl rfl ao ?_;refine jS (λav=>yi) ?_;refine aJ ?_;refine .Mh rfl rfl rfl rfl rfl rfl (λav=>.mk' rfl rfl av rfl (by simp_all [strip])) (λrY=>fv _ gZ c da g gs gc L F J Jx av _ (by rw[List.append_assoc];exact e0) H1 Hx hm hF (bM rY)) ?_;intro y H' vv vw;obtain⟨pn,rfl,bK⟩:=ae2 bM bJ vv vw;obtain⟨b2,H2,qC,rfl,QQ⟩:=bK;refine aP ?_;refine .cl (rs:=[.tmp 7]) rfl eR cL bE ?_;exact⟨b2,H2,qC,rfl,QQ⟩
    ·rw[AJ af ae AN aL aa] at e0 ⊢;refine aV ?_;have yN:o0 B prog (.fn (.func 274) [] [.p da 0,.ptr (fy f),.ptr [.b c],.ptr [.fn g gs gc]]) ab.lits (ei (f.kids.getD 0 default) c) (λHx=>F Hx/\.au da 301 [.fn (.func 273) [] [.p da 0]]∈Hx) (λea H=>J (pre++ea.flatMap λa=>(ei (f.kids.getD 1 default) c).map (fS a)) H) (λea H=>∃q,q<+:(ea.flatMap λa=>(ei (f.kids.getD 1 default) c).map (fS a))/\Jx (pre++q) H):=by
      intro ea a H1 eG wI RW kE;have hH:∀i,i<2->∀l∈ei (f.kids.getD i default) c,l.length<=1000:=λi aN l bq=>by
       have ae:=Jw _ (bV.2.2.2.2 _ gZ) c l bq;have ak:=D7 f.kids aa;have aL:=p2 f;have:i=0\/i=1:=by omega
       rcases this with rfl | rfl <;> omega
      refine eZ.mono (eZ.r0 (aeZ aa (fv _ gZ c) (hH 1 aa) av a (hH 0 aa a (RU wI)) _ (aeX (g:=λa=>(ei (f.kids.getD 1 default) c).map (fS a)) e0 wI) H1 eG RW.2 RW.1 kE)) ?_ λ_ _ h=>h;rintro _ _ ⟨pn,H2,rfl,rfl,bM,bJ⟩;refine⟨pn,H2,rfl,rfl,λh=>by simpa using bM h,λh=>?_⟩;obtain⟨q,cj,aK⟩:=bJ h;exact⟨(ea.flatMap λa=>(ei (f.kids.getD 1 default) c).map (fS a))++q,by rw[List.flatMap_append];exact (List.prefix_append_right_inj _).2 (by simpa using cj),by simpa using aK⟩
     refine b0 7 71 ?_;refine bh (yi) ?_;refine aJ ?_;refine cI .k (fv _ gZ c da (.func 274) [] [.p da 0,.ptr (fy f),.ptr [.b c],.ptr [.fn g gs gc]] _ _ _ _ yN [] (List.prefix_refl _) H Hx hm ⟨hF,hm⟩ (by simpa using eF)) ?_;intro y n8 bK;obtain⟨pn,H1,rfl,rfl,bM,bJ⟩:=ae3 bK;refine aV ?_;refine .cl (rs:=[.tmp 7]) rfl eR cL bE ?_;exact⟨pn,H1,rfl,rfl,bM,bJ⟩
def ae5(f)(a:okB f)(hn:cW f<=1000)(c):AM B f c:=by
 refine Fact.mf (P:=λf=>okB f=true->cW f<=1000->∀c,AM B f c) (λf o a hn c=>?_) f a hn c;refine ae4 a hn (λk m c=>o k m ((vI a).2.2.2.2 k m) ?_ c) c;have:∀l:List Fact,k∈l->cW k<=fk l:=by
  intro l
  induction l with
  | nil=>intro h;cases h
  | cons x r g=>
   intro h;rw[fk];rcases List.mem_cons.1 h with e | h
   ·rw[e];omega
   ·have:=g h;omega
 have s:=this f.kids m;have q:=p2 f;omega
def ae6(f)(c):aI prog 270 [ab.fact f,.b c] (.fn (.func 272) [] [.ptr (fy f),.ptr [.b c]]):=by
 intro H;refine aM func270 λB I a=>?_;refine c6 ?_;refine aB 4 (H) ?_;exact⟨dP,rfl⟩
def ae7(f)(o:okB f)(hn:cW f<=1000)(c){g}{m l}{J Jx}(q:o0 B prog (.fn g m l) ab.lits (ei f c) (λ_=>True) J Jx)(H Hx)(r:J [] H):
  eM B prog 272 [.fn g m l,.ptr (fy f),.ptr [.b c]] (H++Hx) (λ_ H'=>∃a,H'=a++Hx/\(J (ei f c) a\/∃h,h<+:ei f c/\Jx h a)) (λ_ _=>False):=by
 refine .of func272 rfl ax rfl rfl λI w=>?_;refine aQ ?_;refine bT (λdN=>?_);refine aJ ?_;refine .perm (H':=H++(.au dN 301 [.fn (.func 273) [] [.p dN 0]]::Hx)) List.perm_middle.symm ?_;refine aR ?_;refine ag Bm ?_;refine aH ?_;refine cI .k (ae5 f o hn c dN g m l _ _ _ _ q [] (List.prefix_refl _) H (.au dN 301 [.fn (.func 273) [] [.p dN 0]]::Hx) dB trivial r) ?_;rintro _ _ ⟨t,a,rfl,rfl,s,v⟩;refine aR ?_;refine .n3 (rs:=[]) (H':=a++Hx) rfl (.nil) cL (by exact (List.Sublist.refl a).append Nk) ?_;exact⟨a,rfl,by cases t with | true=>exact .inl (s rfl) | false=>exact .inr (v rfl)⟩
def ae8(f)(a:okB f)(hn:cW f<=1000)(c):yK B prog (.fn (.func 272) [] [.ptr (fy f),.ptr [.b c]]) ab.lits (ei f c):=
 λJ m g q o j H h l=>eZ.r0 (ae7 f a hn c j H h l)
def nP(arg:Int)(path:al):bl:=[.i arg,.i path.length,.i (path.getD 0 0),.i (path.getD 1 0)]
abbrev ab.spot(arg:Int)(path:al):ab:=.agg (nP arg path)
def ae9(arg slot):aI prog 290 [ab.spot arg [],.i slot] (ab.spot arg [slot]):=by
 intro H;refine aM func290 λB I a=>?_;refine aQ ?_;refine .r6 rfl rfl rfl rfl rfl rfl rfl λdN=>?_;refine bT (λb1=>?_);refine aJ ?_;refine ag (Lj) ?_;refine aP ?_;refine ag (ad.arith rfl rfl rfl rfl rfl rfl (wrap64 aT)) ?_;refine bA ?_;refine dM [.cell 4 318] (H) ?_;exact⟨dP,rfl⟩
def afa(arg a slot):aI prog 290 [ab.spot arg [a],.i slot] (ab.spot arg [a,slot]):=by
 intro H;refine aM func290 λB I c=>?_;refine aQ ?_;refine .r6 rfl rfl rfl rfl rfl rfl rfl λdN=>?_;refine bT (λb1=>?_);refine aJ ?_;refine ag (Lj) ?_;refine aP ?_;refine ag (ad.arith rfl rfl rfl rfl rfl rfl (wrap64 aT)) ?_;refine bA ?_;refine dM [.cell 4 318] (H) ?_;exact⟨dP,rfl⟩
def Jy(arg)(path)(slot)(h:path.length<2):aI prog 290 [ab.spot arg path,.i slot] (ab.spot arg (path++[slot])):=by
 match path,h with
 | [],_=>exact ae9 arg slot
 | [a],_=>exact afa arg a slot
structure dq where
 low:Int
 high:Int
 dE:al
 bB:Nat
 no:Nat
 whole:Bool
 gi:Bool
 aw:al
def m4(k:dq):bl:=[.i k.low,.i k.high,ab.ints k.dE,ab.set k.bB,ab.set k.no,.b k.whole,.b k.gi,ab.ints k.aw]
def kA:dq:=⟨-1000000000,1000000000,[],0,0,false,false,[]⟩
def ru(arg:Int)(path:al):dj:=[.int .i64 arg,.int .i64 path.length,.int .i64 (path.getD 0 0),.int .i64 (path.getD 1 0)]
abbrev bL(arg:Int)(path:al):Value:=.agg (ru arg path).toArray
abbrev iQ(W:bx)(bt:Nat):ab:=.ptr [ja W,.val (.map (some bt))]
abbrev mu(bt:Nat)(an:Value->dq):br:=.lmap bt (ev prog 318) (λv=>m4 (an v)) (m4 kA)
def RX{an:Value->dq}{key}(a:(λv=>m4 (an v)) key=m4 kA):aq (.ptr [.i (-1000000000),.i 1000000000,.val aX,.val c0,.val c0,.val (.bool false),.val (.bool false),.val aX]) (.ptr ((λv=>m4 (an v)) key)):=by
 rw[a];exact aq.ptr (.cons ig (.cons ig (.cons (aq.nil _) (.cons ig (.cons ig (.cons ig (.cons ig (.cons (aq.nil _) .nil))))))))
def vJ(W)(j)(an)(arg)(path)(a:ev prog 318 (bL arg path)):
  hS prog [mu j an] 289 [iQ W j,ab.spot arg path] (.ptr (m4 (an (bL arg path)))):=by
 intro H f;replace f:=f _ dB;refine aM func289 λB I l=>?_;refine aP ?_;refine b0 5 28 ?_;refine aP ?_;refine .V9 (vs:=ru arg path) rfl rfl rfl rfl rfl rfl rfl rfl gx f a ?_ λAO=>?_
 ·refine ay ?_;refine .dk 7 10 28 rfl ao rfl rfl ao ?_;refine dW ?_;refine bc (λaf=>?_) (λaf=>?_)
  ·exact absurd af aT
  ·replace af:=dA af;refine a8 ?_;refine aZ.cl (rs:=[.tmp 4]) (H':=H) rfl (.tmp rfl (.nil)) (.cons (.refl _) .nil) bE ?_;exact⟨dP,rfl⟩
 ·refine ay ?_;refine bW.dk 7 10 28 rfl ao rfl rfl ao ?_;refine dW ?_;refine bc (λae=>?_) (λae=>?_)
  ·replace ae:=dA ae;refine aJ ?_;refine b0 6 28 ?_;refine aJ ?_;refine ai.Wa (κ:=λv=>m4 (an v)) (dd:=m4 kA) (vs:=ru arg path) rfl rfl rfl rfl rfl rfl rfl (aq.refl _) rfl rfl (RX AO) f a ?_;refine a8 ?_;refine aZ.cl (rs:=[.tmp 4]) (H':=H) rfl (.tmp rfl (.nil)) (.cons (RX AO) .nil) bE ?_;exact⟨dP,rfl⟩
  ·exact absurd ae aT
def lQ(arg:Int)(path:al):Prop:=0<=arg/\arg<1000/\path.length<=2/\∀s∈path,0<=s/\s<1000
def RY(h:∀s∈path,0<=s/\s<1000)(i):0<=path.getD i 0/\path.getD i 0<1000:=by
 rw[List.getD_eq_getElem?_getD];by_cases a:i<path.length
 ·rw[List.getElem?_eq_getElem a];exact h _ (List.getElem_mem a)
 ·rw[List.getElem?_eq_none aa];decide
def xT{n}(h:0<=n/\n<1000):(Go.Lit.int .i64 n).wf=true:=by
 have c:IntKind.i64.min= -9223372036854775808:=by decide
 have a:IntKind.i64.max=9223372036854775807:=by decide
 simp[Go.Lit.wf,c,a,Bool.and_eq_true,decide_eq_true_eq];omega
def sP{arg}(h:lQ arg path):ev prog 318 (bL arg path):=
 V6 (i:=3) (ar:=198) (m:=prog.types.size - 2) ax ax ax ax ax ax ax ax (xT ⟨h.1,h.2.1⟩) (xT ⟨aa,by have:=h.2.2.1;omega⟩) (xT (RY h.2.2.2 0)) (xT (RY h.2.2.2 1))
def afb{arg}{s}(h:lQ arg path)(f:path.length<2)(c:0<=s/\s<1000):lQ arg (path++[s]):=by
 refine⟨h.1,h.2.1,cF,λx a=>?_⟩;rcases List.mem_append.1 a with a | a
 ·exact h.2.2.2 x a
 ·simp at a;subst a;exact c
structure qh(W:bx)(an:Value->dq):Prop where
 slot:∀arg path,lQ arg path->∀s∈(an (bL arg path)).aw,0<=s/\s<W.owner.length
 deep:∀arg path,lQ arg path->path.length=2->(an (bL arg path)).aw= []
 bB:∀v,(an v).bB<18446744073709551616
 no:∀v,(an v).no<18446744073709551616
 low:∀v,-2000000000<=(an v).low/\(an v).low<=2000000000
 dE:∀v,(an v).dE.length<=1000
def D9{an}(K:qh W an)(j:W.owner.length<=40){arg}{path}(h:lQ arg path){s}(a:s∈(an (bL arg path)).aw):path.length<2/\lQ arg (path++[s]):=by
 have g:=K.slot arg path h s a;have f:path.length<2:=by
  have:=h.2.2.1;rcases Nat.lt_or_ge path.length 2 with c | c
  ·exact c
  ·rw[K.deep arg path h aa] at a;cases a
 exact⟨f,afb h f ⟨g.1,aa⟩⟩
def afc(W)(a)(an)(arg:Int)(path:al)(slot:Int)(c:path.length<2)(h:lQ arg (path++[slot])):
  hS prog [mu a an] 297 [.i slot,.ptr [iQ W a],.ptr (nP arg path)] (.b (!(an (bL arg (path++[slot]))).gi)):=by
 intro H g;refine aM (n:=14) func297 λB I j=>?_;refine ay ?_;refine b0 4 14 ?_;refine aH ?_;refine bh (ad.call .k (Jy arg path slot c)) ?_;refine aQ ?_;refine ag (ad.h2 .k (c5.refl _) (vJ W a an arg (path++[slot]) (sP h)) (λe f=>by repeat (first | exact g e f | apply List.mem_cons_of_mem))) ?_;refine aJ ?_;refine aB 4 (H) ?_;exact⟨dP,rfl⟩
def afd{an}(K:qh W an)(f:W.owner.length<=40){arg}{path}(h:lQ arg path):
  hS prog [mu bt an] 296 [iQ W bt,ab.spot arg path] (.b ((an (bL arg path)).aw.all λs=>!(an (bL arg (path++[s]))).gi)):=by
 intro H g;refine aM func296 λB I j=>?_;refine bA ?_;refine ag (.h2 .k cL (vJ W bt an arg path (sP h)) (λe a=>by repeat (first | exact g e a | apply List.mem_cons_of_mem))) ?_;refine aV ?_;refine ag (ad.h2 .k (c5.refl _) (Pg (.of (λs c=>afc W bt an arg path s (D9 K f h c).1 (D9 K f h c).2))) (λe a=>by repeat (first | exact g e a | apply List.mem_cons_of_mem))) ?_;refine aV ?_;refine aB 4 (H) ?_;exact⟨dP,rfl⟩
def Jz(an:Value->dq)(arg:Int)(path:al):Bool:=(an (bL arg path)).aw.all λs=>!(an (bL arg (path++[s]))).gi
def sQ(cls:Int):Nat:=1 ||| 2^cls.toNat
def ub(an:Value->dq)(arg:Int)(path:al)(cls:Int):Bool:=((me (an (bL arg path)).bB (sQ cls):Int)==0) && ((((an (bL arg path)).no &&& sQ cls:Nat):Int)==0) && Jz an arg path
def afe{cls}(h:0<=cls/\cls<64):sQ cls<18446744073709551616:=mj aa (re aa)
def RZ{an}(K:qh W an)(j:W.owner.length<=40){arg}{path}(h:lQ arg path)(cls)(c:0<=cls/\cls<64):
  hS prog [mu bt an] 295 [iQ W bt,ab.spot arg path,.i cls] (.b (ub an arg path cls)):=by
 intro H f;refine aM func295 λB I l=>?_;refine bQ ?_;refine ag (.h2 .k (c5.refl _) (vJ W bt an arg path (sP h)) (λe a=>by repeat (first | exact f e a | apply List.mem_cons_of_mem))) ?_;refine ay ?_;refine ag (.call .k (vk 1 cls c aa)) ?_;refine bQ ?_;refine ag (.bits rfl rfl rfl rfl rfl (Nn _ (sQ cls))) ?_;refine aP ?_;refine gw (λav=>ad.bits rfl rfl rfl (by first | rfl | exact av) (by first | rfl | exact av) (zH _ (sQ cls) (K.no _) (afe c))) ?_;refine aS ?_;refine ai.cG rfl rfl rfl rfl rfl rfl (λav=>ad.h2 zA cL (afd K j h) (λe a=>by repeat (first | exact f e a | apply List.mem_cons_of_mem))) ?_;refine aS ?_;refine aB 6 (H) ?_;exact⟨bn (by rw[ub];simp only[kr];rfl),rfl⟩
def aff{an}(K:qh W an)(f:W.owner.length<=40){arg}{path}(h:lQ arg path):
  hS prog [mu bt an] 293 [iQ W bt,ab.spot arg path] (.b (!(an (bL arg path)).whole && ub an arg path 2)):=by
 intro H c;refine aM func293 λB I g=>?_;refine bQ ?_;refine ag (.h2 .k (c5.refl _) (vJ W bt an arg path (sP h)) (λe a=>by repeat (first | exact c e a | apply List.mem_cons_of_mem))) ?_;refine aP ?_;refine ai.cG rfl rfl rfl rfl rfl rfl (λav=>ad.h2 zA cL (RZ K f h 2 aa) (λe a=>by repeat (first | exact c e a | apply List.mem_cons_of_mem))) ?_;refine aS ?_;refine aB 4 (H) ?_;exact⟨bn (by simp only[kr]),rfl⟩
end Go.Proofs.YtodccgailpkgeaaGreat

