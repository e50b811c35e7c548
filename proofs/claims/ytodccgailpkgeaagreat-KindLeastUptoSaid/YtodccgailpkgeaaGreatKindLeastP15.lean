/- Part 15 of the proof: contracts of functions of the program and what they need. No condition beyond those that each theorem names. -/
import Derived.Test.YtodccgailpkgeaaGreatKindLeastP14
set_option maxHeartbeats 1000000
set_option linter.unusedVariables false
set_option linter.unusedSimpArgs false
set_option maxRecDepth 10000
namespace Go.Proofs.YtodccgailpkgeaaGreat
open Go.Eng
open Go.Eng.Fc
open Go.Eng.ei
variable{U pre:List Nat}{W:Fc.bb}{t:bG}{x:Nat}{l:List Int}
def fJ(p:Prog):List (List Bool):=(List.range (a7 p)).map λ(a:Nat)=>(List.range (a7 p)).map λ(b:Nat)=>kG (cH p) a b
def fV(p:Prog):List (List Int):=(List.range (a7 p)).map λ(a:Nat)=>if gK p a then ez p a else []
abbrev aa.iE(l:List (List Bool)):aa:=.aF 1 (l.map λx=>[aa.da x])
abbrev RU(p:Prog)(t:bG):List aa:=lQ t++dF p++dH (cH p)++[aa.iE (fJ p),aa.bD (fV p),.any,.any,.any,.any]
abbrev aa.e2(p:Prog)(t:bG):aa:=.ptr (RU p t)
theorem tD(p:Prog):(fV p).length=a7 p:=by simp[fV]
theorem rn(p:Prog):(fJ p).length=a7 p:=by simp[fJ]
theorem BG{α:Type}[Inhabited α](f:Nat->α){n i:Nat}(h:i<n):((List.range n).map f).getD i default=f i:=by
 rw[List.getD_eq_getElem?_getD,List.getElem?_map,List.getElem?_range h];rfl
theorem JC{p:Prog}{a:Nat}(h:a<a7 p):(fJ p).getD a default=(List.range (a7 p)).map λ(b:Nat)=>kG (cH p) a b:=BG _ h
theorem RV{p:Prog}{a:Nat}{b:Int}(h:a<a7 p)(aw:0<=b/\b<a7 p):((fJ p).getD a default).getD b.toNat default=kG (cH p) a b:=by
 rw[JC h,BG _ ad];congr 1;omega
theorem acJ{p:Prog}(an:(bK p).isSome=true){a:Nat}(h:a<a7 p)(s:Int):((fV p).getD a default).contains s=fT p a s:=by
 rw[fV,BG _ h,fT,gK,an,Bool.and_true];have e:decide ((a:Int)<3+p.aY.length)=true:=by unfold a7 at h;simp;omega
 rw[e,Bool.and_true];by_cases aD:3<=a
 ·rw[if_pos dj];simp[aD]
 ·rw[if_neg dj];simp[aD]
theorem acK(s:Nat)(c:Int)(ak:0<=c)(aH:s<18446744073709551616):ba Tryz.prog 137 [aa.set s,.i c] (.b (s.testBit c.toNat)):=by
 intro H;refine bh (n:=10) Tryz.func137 λB I aO=>?_;refine bS ?_;refine aG (af.shift rfl rfl rfl rfl rfl ak (OD s c)) ?_;refine aG (af.bits rfl rfl rfl rfl rfl (AO _ 1 (by have:=Nat.div_le_self s (2^min c.toNat 64);omega) e3)) ?_;refine bz ?_;refine aS 4 (H) ?_;exact⟨bR (HY s c aH),rfl⟩
theorem RW:∀(l:List (List Int)) (i:Nat) (U:List Nat),(iy l i U).length=U.length
 | [],_,_=>rfl
 | x::r,i,U=>by rw[iy,RW r];simp
theorem acL(W:bb):(nP W).length=63:=by rw[nP,RW];rfl
theorem acM(mI:∀x∈U,x<18446744073709551616){i:Nat}(av:i<61)(l:List Int):p9 U i l<18446744073709551616:=by
 unfold p9;have:∀(l:List Int) (s:Nat),s<18446744073709551616->l.foldl (λs (p:Int)=>s ||| U.getD p.toNat 0) s<18446744073709551616:=by
  intro l
  induction l with
  | nil=>intro s aH;exact aH
  | cons p r bm=>intro s aH;exact bm _ (nh aH (wC mI _))
 exact this l _ (nh ad (rW ad))
theorem RX:∀(l:List (List Int)) (i:Nat) (U:List Nat),i+l.length<=61->(∀x∈U,x<18446744073709551616)->∀x∈iy l i U,x<18446744073709551616
 | [],_,_,_,h=>h
 | y::r,i,U,av,h=>by
  rw[iy];simp only[List.length_cons] at av;exact RX r (i+1) _ ad (IV h (acM h ad y))
theorem acN{W:bb}(h:W.parents.length<=60):∀x∈nP W,x<18446744073709551616:=RX _ _ _ ad e3
theorem acO{c:Nat}(h:c<U.length):(List.drop (c*1) (List.drop 2 (dH W++U.map λs=>aa.set s)))[0]? =some (aa.set (U.getD c 0)):=by
 rw[Nat.mul_one,List.drop_drop,List.getElem?_drop];exact IT (W:=W) (U:=U) (i:=c) h
theorem JD{c:Int}:jZ W c=true↔0<=c/\c<3+W.parents.length:=by simp[jZ]
theorem acP(hw:dm W=true){a b:Int}(bN:jZ W a=true)(aw:jZ W b=true):ba Tryz.prog 89 [aa.world W,.i a,.i b] (.bJ [.b (kG W a b),.i 0]):=by
 intro H;refine bh (n:=37) Tryz.func89 λB I aO=>?_;have dD:W.parents.length<=60:=by simp only[dm,Bool.and_eq_true,decide_eq_true_eq] at hw;exact hw.1.1.1
 have Bi:=JD.1 bN;have mU:=JD.1 aw;have cO:=acN dD;refine c6 ?_;refine aG (af.call .k (QJ hw)) ?_;refine fk ?_;refine au.cb rfl rfl rfl rfl rfl rfl (λal=>af.call (.mk' rfl rfl rfl rfl dv) (IP W a dD)) ?_;refine bz ?_;refine au.cb rfl rfl rfl rfl rfl rfl (λal=>af.call (.mk' rfl rfl rfl rfl dv) (IP W b dD)) ?_;refine bI ?_;refine aq.cond rfl (λai=>?_) (λai=>?_)
 ·simp[bN,aw] at ai
 ·refine bs ?_;refine aG (LX) ?_;refine aG (af.eN rfl rfl rfl (acO (c:=a.toNat) (by rw[acL];omega))) ?_;refine bt ?_;refine aG (af.call .k (acK _ b ad (wC cO _))) ?_;refine bz ?_;refine fR [.tmp 6,.tmp 7] (H) ?_;exact⟨dJ,rfl⟩
theorem BH{p:Prog}(t:bG)(an:(bK p).isSome=true){c:Nat}(ak:c<a7 p)(s:Int):ba Tryz.prog 38 [aa.e2 p t,.i c,.i s] (.b (fT p c s)):=by
 intro H;refine bh (n:=16) Tryz.func38 λB I aO=>?_;refine cT ?_;refine aG ((by first | exact af.iQ rfl rfl rfl rfl rfl (by rw[tD];exact ak) | exact af.h1 rfl rfl rfl rfl rfl (by rw[tD];exact ak))) ?_;refine bC ?_;refine aG (af.call .k ((Bg _ _))) ?_;refine bI ?_;refine aS 6 (H) ?_;exact⟨bR (acJ an ak s),rfl⟩
def ko(p:Prog)(t:bG)(s:Int)(pre:List Nat):Nat:=if pre.any (λc=>fT p c s) then (t.aJ.getD s.toNat default).toNat else 0
def mi(p:Prog)(s:Int)(b:Bool)(pre:List Nat):Bool:=b || pre.any λc=>!fT p c s
abbrev EC(p:Prog)(t:bG)(s:Int)(b:Bool)(b3 nb:Nat)(pre:List Nat):List aj:=[.aI b3 3 [.i (ko p t s pre)],.aI nb 4 [.b (mi p s b pre)]]
theorem acQ{p:Prog}{s:Int}{b:Bool}{b3 nb x:Nat}(h:fT p x s=true): [aj.aI b3 3 [.i ((ko p t s pre ||| (t.aJ.getD s.toNat default).toNat:Nat):Int)],aj.aI nb 4 [.b (mi p s b pre)]]=EC p t s b b3 nb (pre++[x]):=by
 have a6:ko p t s pre ||| (t.aJ.getD s.toNat default).toNat=ko p t s (pre++[x]):=by
  unfold ko;rw[List.any_append,List.any_cons,h,Bool.true_or,Bool.or_true,if_pos rfl];split <;> simp
 have aW:mi p s b pre=mi p s b (pre++[x]):=by unfold mi;rw[List.any_append,List.any_cons,h];simp
 rw[a6,aW]
theorem acR{p:Prog}{s:Int}{b:Bool}{b3 nb x:Nat}(h:fT p x s=false): [aj.aI b3 3 [.i (ko p t s pre)],aj.aI nb 4 [.b true]]=EC p t s b b3 nb (pre++[x]):=by
 have a6:ko p t s pre=ko p t s (pre++[x]):=by
  unfold ko;rw[List.any_append,List.any_cons,h];simp
 have aW:true=mi p s b (pre++[x]):=by unfold mi;rw[List.any_append,List.any_cons,h];simp
 show _= [aj.aI b3 3 [.i (ko p t s (pre++[x]))],aj.aI nb 4 [.b (mi p s b (pre++[x]))]];rw[<-a6, <-aW]
theorem RY{p:Prog}{path:List Int}(h:∀s∈path,0<=s/\s<p.aJ){i:Nat}(av:i<path.length):0<=path.getD i default/\path.getD i default<p.aJ:=h _ (cp av)
theorem RZ(p:Prog)(t:bG)(c:Int){path:List Int}{i:Nat}(av:i<path.length):ll p t c (path.take (i+1))=lR p t (path.getD i default) (ll p t c (path.take i)):=by rw[<-eE av,Jz]
theorem acS{p:Prog}(an:(bK p).isSome=true)(aH:pB p t)(eZ:(t.aJ.length:Int)=p.aJ){c:Nat}(ak:c<a7 p){path:List Int}(vS:∀s∈path,0<=s/\s<p.aJ):ba Tryz.prog 101 [aa.e2 p t,.i c,aa.ints path] (.bJ [.i (ll p t c path).1,.b (ll p t c path).2]):=by
 intro H;refine b1.rF (n:=41) Tryz.func101 rfl aM rfl rfl (λB I aO=>?_);have hm:=qg an;have wY:=qh an;refine bI ?_;refine au.cG rfl rfl rfl rfl (λnb=>?_);refine bz ?_;refine aG (af.shift rfl rfl rfl rfl rfl ad (r1 c ⟨ad,ad⟩)) ?_;refine cT ?_;refine aq.fi (t:=14) rfl (λald=>?_);refine aq.AK (λm st=>∃(i:Nat) (k:Nat×Bool),st=⟨[(16,.i i),(15,.i path.length),(14,aa.ints path),(6,.i k.1),(7,.p nb 0),(3,.ptr [aa.e2 p t])],[.aI nb 4 [.b k.2]]⟩/\m=path.length - i/\i<=path.length/\k=ll p t c (path.take i)) [] H ⟨_,_,⟨0,(2^c,false),rfl,rfl,ad,rfl⟩,h2,hp⟩ ?_;intro hP;rintro m _ ⟨i,k,rfl,rfl,av,ao⟩;refine aT ?_;refine aZ (λai=>?_) λai=>?_
 ·have a1:i<path.length:=by omega
  have q8:k.1<2^a7 p:=by rw[ao];exact JA aH (by simpa using ak) _
  have ED:=RY vS a1;have eh:=RZ p t c a1;rw[<-ao] at eh;obtain⟨s,yM⟩:∃s,s=path.getD i default:=⟨_,rfl⟩;rw[<-yM] at ED eh;have lZ:=Ey aH s.toNat;refine bs ?_;refine au.cG rfl rfl rfl rfl (λfh=>?_);refine bI ?_;rw[<-yM];refine aq.ep (d:=9) rfl ey ?_;refine bt ?_;refine au.cG rfl rfl rfl rfl (λb3=>?_);refine bn ?_;refine aG (af.call .k ((wU _))) ?_;refine bg ?_;refine aq.weaken (st':=⟨[(10,.p b3 0),(21,.fn (.func 76) [] [.ptr [.i k.1]]),(9,.ptr [.i s]),(16,.i i),(15,.i path.length),(14,aa.ints path),(6,.i k.1),(7,.p nb 0),(3,.ptr [aa.e2 p t])],[.aI b3 3 [.i 0],.aI nb 4 [.b k.2]]++(hO hP++H)⟩) h2 hp ?_;refine aq.rO hP (λ_ (c:Nat)=>.i c) (λ_ _=>[]) (hV k.1) (λpre H=>H=EC p t s k.2 b3 nb pre) (λ_ _ _=>False) ([.aI b3 3 [.i 0],.aI nb 4 [.b k.2]]) (H) (λ_ x=>[(11,.i x),(22,.i x),(10,.p b3 0),(9,.ptr [.i s]),(7,.p nb 0),(3,.ptr [aa.e2 p t])]) rfl rfl rfl rfl ((wX _ ad).b) (by simp[mi,ko]) ?_ ?_ ?_ ?_
  ·intro eJ iY fA iM x c0;refine bg ?_;exact λa w s=>⟨_,rfl,s.weaken (j3 h2) (List.Sublist.refl _)⟩
  ·intro eJ eK dw pre iM x H1 c0 iY fA e9 bF;obtain rfl:=bF;have ag:x<a7 p:=wQ q8 (e9.subset bj);refine aT ?_;refine aG (af.call .k (BH t an ag s)) ?_;refine bC ?_;refine aq.cond rfl (λab=>?_) (λab=>?_)
   ·have ab:=ab;refine aq.bL mixed ?_;refine bk.b7 0 9 41 rfl ay rfl rfl ay ?_;refine bn ?_;refine bU.bB rfl rfl rfl (ob) ?_;refine bU.bB rfl rfl rfl (af.le (af.eN rfl rfl rfl rfl) (aL.dx lZ.1)) ?_;refine bC ?_;refine aG (af.bits rfl rfl rfl rfl rfl (wO _ _ (by unfold ko;split <;> omega) ad)) ?_;refine bg ?_;exact aR.nA b8 (acQ ab)
   ·have ab:=ab;refine bI ?_;exact aR.nA b8 (acR ab)
  ·intro ni H1 bF;obtain rfl:=bF;have a6:ko p t s (hV k.1)=(lR p t s k).1:=by rw[Ez q8 ad];rfl
   have aW:mi p s k.2 (hV k.1)=(lR p t s k).2:=by rw[Ez q8 ad];rfl
   simp only[EC];rw[a6,aW];refine cT ?_;refine aR.pe (ni::hP) (⟨i+1,lR p t s k,rfl,rfl,a1,eh.symm⟩) ?_ ?_ ?_
   ·omega
   ·repeat (first | exact trivial | refine⟨rfl,?_⟩)
   ·repeat (first | exact List.Sublist.refl _ | apply List.Sublist.cons_cons | refine List.Sublist.cons _ ?_)
  ·intro ni r2 pre H1 e9 k5;exact k5.elim
 ·obtain rfl:i=path.length:=by omega
  rw[List.take_length] at ao;refine aT ?_;refine aq.bL mixed ?_;refine bk.Xm (.i k.1) 6 2 0 3 41 rfl rfl ay ay rfl rfl ay ?_;refine b6.Xn ay ay rfl rfl rfl rfl (af.move rfl rfl rfl) ?_;refine b6.Xo ay rfl rfl rfl rfl (dI) ?_;refine b6.Xp ay ay rfl rfl rfl (af.assign rfl rfl rfl) ?_;refine b6.nil ⟨rfl,?_⟩;refine bz ?_;refine aR.l9 hP ([.aI nb 4 [.b k.2]]) H (rs:=[.tmp 6,.cell 7 4]) (H':=H) rfl hp (.tmp rfl (tC)) (bO.refl _) b8 ?_;exact⟨by rw[ao];rfl,rfl⟩
def wZ(p:Prog)(c:Int)(b:Bool)(pre:List Nat):Bool×Bool:=(pre.any (λa=>kG (cH p) a c),b || pre.any λa=>!kG (cH p) a c)
theorem acT{p:Prog}{c:Int}{b r:Bool}{dL x:Nat}(h:r=kG (cH p) x c): [aj.aI dL 104 [aa.mh ((wZ p c b pre).1 || r,(wZ p c b pre).2 || !r)]]= [aj.aI dL 104 [aa.mh (wZ p c b (pre++[x]))]]:=by
 subst h;unfold wZ;rw[List.any_append,List.any_append,List.any_cons,List.any_cons,List.any_nil,List.any_nil,Bool.or_false,Bool.or_false,Bool.or_assoc]
theorem JE{p:Prog}(an:(bK p).isSome=true):((cH p).owner.length:Int)=p.aJ:=by
 obtain⟨o,aA⟩:=Option.isSome_iff_exists.1 an;have:=(pw.of (kF aA).1).aaP;show ((ic p.aY 0).length:Int)=_;rw[uL];exact this
theorem acU{p:Prog}{f:Fact}(ai:f.op≠1)(ab:f.op≠5)(ae:f.op≠6)(aD:f.op≠7)(aV:f.op≠2){k:Nat×Bool}(ao:k=ll p t (l.getD f.arg.toNat default) f.path):(k.1.testBit 1,bif k.2 then true else ((k.1:Int) !=0))=e1 p t l f:=by
 rw[RS ai ab ae aD, <-ao,show (let k:=k;if f.op=2 then _ else _)=_ from if_neg aV];have e:((k.1:Int) !=0)=decide (k.1≠0):=by rw[Bool.eq_iff_iff];simp
 rw[e,Bool.cond_true_left]
theorem acV{p:Prog}{f:Fact}(hm:a7 p<=62)(aV:f.op=2){k:Nat×Bool}(ao:k=ll p t (l.getD f.arg.toNat default) f.path)(cO:k.1<2^a7 p):wZ p f.cls k.2 (hV k.1)=e1 p t l f:=by
 rw[RS ad ad ad ad, <-ao,show (let k:=k;if f.op=2 then _ else _)=_ from if_pos aV,Ex cO hm (λc=>kG (cH p) c f.cls),Ex cO hm (λc=>!kG (cH p) c f.cls)];rfl
theorem acW{p:Prog}(an:(bK p).isSome=true)(aH:pB p t)(eZ:(t.aJ.length:Int)=p.aJ)(ax:∀c∈l,1<=c/\c<a7 p){f:Fact}(aP:jD p l f)(bm:∀k∈f.kids,ba Tryz.prog 55 [aa.e2 p t,aa.fact k,aa.ints l] (aa.mh (e1 p t l k))):ba Tryz.prog 55 [aa.e2 p t,aa.fact f,aa.ints l] (aa.mh (e1 p t l f)):=by
 intro H;refine b1.rF (n:=118) Tryz.func55 rfl aM rfl rfl (λB I aO=>?_);have hm:=qg an;have wY:=qh an;refine qW ?_;refine aZ (λai=>?_) λai=>?_
 ·refine bC ?_;refine aG (af.call .k ((wT _ _))) ?_;refine aT ?_;refine aR.l9 [] ([]) H (rs:=[.tmp 6]) (H':=H) rfl hp (.tmp rfl (.nil)) (bO.refl _) b8 ?_;exact⟨wS (acx ai).symm,rfl⟩
 ·refine aT ?_;refine aZ (λab=>?_) λab=>?_
  ·have k4:=aP.ops.1 ab;refine bt ?_;refine aq.bL mixed ?_;refine bk.b7 0 6 118 rfl ay rfl rfl ay ?_;refine bs ?_;refine aG (af.call .k (bm _ (cp ad))) ?_;refine aG (af.call .k ((EB _))) ?_;refine aT ?_;refine aR.l9 [] ([]) H (rs:=[.tmp 6]) (H':=H) rfl hp (.tmp rfl (.nil)) (bO.refl _) b8 ?_;exact⟨wS (acy ab k4).symm,rfl⟩
  ·refine aT ?_;refine aZ (λae=>?_) λae=>?_
   ·have gD:=aP.ops.2.1 (.inl ae);refine bt ?_;refine aq.bL mixed ?_;refine bk.b7 0 13 118 rfl ay rfl rfl ay ?_;refine aT ?_;refine bU.bB rfl rfl rfl (af.call .k (bm _ (cp ad))) ?_;refine bs ?_;refine aG (af.call .k (bm _ (cp ad))) ?_;refine aG (af.call .k (RT _ _)) ?_;refine aT ?_;refine aR.l9 [] ([]) H (rs:=[.tmp 6]) (H':=H) rfl hp (.tmp rfl (.nil)) (bO.refl _) b8 ?_;exact⟨wS (acz ae gD).symm,rfl⟩
   ·refine aT ?_;refine aZ (λaD=>?_) λaD=>?_
    ·have gD:=aP.ops.2.1 (.inr aD);refine bt ?_;refine aq.bL mixed ?_;refine bk.b7 0 14 118 rfl ay rfl rfl ay ?_;refine aT ?_;refine bU.bB rfl rfl rfl (af.call .k (bm _ (cp ad))) ?_;refine bU.bB rfl rfl rfl (af.call .k ((EB _))) ?_;refine bs ?_;refine aG (af.call .k (bm _ (cp ad))) ?_;refine aG (af.call .k ((EB _))) ?_;refine aG (af.call .k (RT _ _)) ?_;refine aG (af.call .k ((EB _))) ?_;refine aT ?_;refine aR.l9 [] ([]) H (rs:=[.tmp 6]) (H':=H) rfl hp (.tmp rfl (.nil)) (bO.refl _) b8 ?_;exact⟨wS ((acv _ _).trans (acA aD gD).symm),rfl⟩
    ·have k2:=aP.ops.2.2 ai ab ae aD;obtain⟨bN,yG,_,dp⟩:=aP.leaf k2;have im:=ax _ (cp (k:=f.arg.toNat) (l:=l) ad);obtain⟨c,ak⟩:∃c:Nat,l.getD f.arg.toNat default=c:=⟨(l.getD f.arg.toNat default).toNat,ad⟩;have ale:=JE an;have eh:ba Tryz.prog 101 [aa.e2 p t,.i c,aa.ints f.path] _:=acS an aH eZ ad (λs h=>⟨(yG s h).1,by have:=(yG s h).2;omega⟩);obtain⟨k,ao⟩:∃k,k=ll p t (l.getD f.arg.toNat default) f.path:=⟨_,rfl⟩;have q8:k.1<2^a7 p:=by rw[ao];exact JA aH ad _
     rw[<-ak, <-ao] at eh;refine bI ?_;refine aq.bL mixed ?_;refine bk.b7 0 8 118 rfl ay rfl rfl ay ?_;refine bI ?_;refine bU.bB rfl rfl rfl (ob) ?_;refine bz ?_;refine aG (af.call .k (eh)) ?_;refine aT ?_;refine bk.b7 10 13 118 rfl ay rfl rfl ay ?_;refine lL ?_;refine aZ (λaV=>?_) λaV=>?_
     ·refine bg ?_;refine aG (af.call .k (JB _ 1 ad)) ?_;refine bz ?_;refine aG (af.call .k ((wT _ _))) ?_;refine bz ?_;refine aR.l9 [] ([]) H (rs:=[.tmp 6]) (H':=H) rfl hp (.tmp rfl (.nil)) (bO.refl _) b8 ?_;exact⟨wS (acU ai ab ae aD aV ao),rfl⟩
     ·have nX:=dp aV;refine bz ?_;refine aG (af.call .k ((wT _ _))) ?_;refine au.cG rfl rfl rfl rfl (λdL=>?_);refine bn ?_;refine aG (af.call .k ((wU _))) ?_;refine bg ?_;refine aq.weaken (st':=⟨[(89,.fn (.func 76) [] [.ptr [.i k.1]]),(9,.p dL 0),(3,.ptr [aa.e2 p t]),(4,.ptr (ix f))],[.aI dL 104 [aa.mh (false,k.2)]]++(hO []++H)⟩) h2 hp ?_;refine aq.rO [] (λ_ (c:Nat)=>.i c) (λ_ _=>[]) (hV k.1) (λpre H=>H= [.aI dL 104 [aa.mh (wZ p f.cls k.2 pre)]]) (λ_ _ _=>False) ([.aI dL 104 [aa.mh (false,k.2)]]) (H) (λ_ x=>[(10,.i x),(90,.i x),(9,.p dL 0),(3,.ptr [aa.e2 p t]),(4,.ptr (ix f))]) rfl rfl rfl rfl ((wX _ ad).b) (by simp[wZ]) ?_ ?_ ?_ ?_
      ·intro eJ iY fA iM x c0;refine bg ?_;exact λa w s=>⟨_,rfl,s.weaken (j3 h2) (List.Sublist.refl _)⟩
      ·intro eJ eK dw pre iM x H1 c0 iY fA e9 bF;obtain rfl:=bF;have ag:x<a7 p:=wQ q8 (e9.subset bj);have fx:((fJ p).getD x default).length=a7 p:=by rw[JC ag];simp
       refine bt ?_;refine aq.bL mixed ?_;refine bk.b7 0 25 118 rfl ay rfl rfl ay ?_;refine aT ?_;refine bU.bB rfl rfl rfl (LV) ?_;refine bg ?_;refine bU.bB rfl rfl rfl (ob) ?_;refine aT ?_;refine bU.bB rfl rfl rfl (LV) ?_;refine bg ?_;refine bU.bB rfl rfl rfl (ob) ?_;refine bC ?_;refine bU.bB rfl rfl rfl (af.call .k (wT _ _)) ?_;refine bC ?_;refine aG (af.bits rfl rfl rfl rfl rfl (acE _ _)) ?_;refine bg ?_;exact aR.nA b8 (acT (RV ag ad))
      ·intro eK H1 bF;obtain rfl:=bF;refine bS ?_;refine aR.l9 (eK::[]) ([]) H (rs:=[.tmp 6]) (H':=H) rfl hp (.tmp rfl (.nil)) (bO.refl _) b8 ?_;exact⟨wS (acV ad aV ao q8),rfl⟩
      ·intro eK r2 pre H1 e9 k5;exact k5.elim
theorem EE{p:Prog}(an:(bK p).isSome=true)(aH:pB p t)(eZ:(t.aJ.length:Int)=p.aJ)(ax:∀c∈l,1<=c/\c<a7 p):∀f:Fact,jD p l f->ba Tryz.prog 55 [aa.e2 p t,aa.fact f,aa.ints l] (aa.mh (e1 p t l f)):=Fact.p8 λf bm aP=>acW an aH eZ ax aP λk ao=>bm k ao (aP.acw k ao)
def JF(p:Prog):Fc.bb:=if(bK p).isSome then cH p else⟨[],[]⟩
theorem JG{p:Prog}(h:(bK p).isSome=true):JF p=cH p:=if_pos h
theorem R0{p:Prog}:∀(l:List iz) (o:List Int),(hS p l o).isSome=true->∀m∈l,mg p m.gen=true
 | x::r,o,h,m,hm=>by
  rw[hS] at h;split at h
  ·rename_i ag;rw[Bool.and_eq_true] at ag;have ab:=ag.1;simp only[rQ,Bool.and_eq_true,decide_eq_true_eq] at ab;rcases List.mem_cons.1 hm with rfl | hm
   ·unfold mg;rw[Bool.and_eq_true,decide_eq_true_eq,decide_eq_true_eq];omega
   ·cases aC:(visit p (me x) 13 (ns p x) o).2 with
    | none=>rw[aC] at h;cases h
    | some cV=>rw[aC] at h;exact R0 r cV h m hm
  ·cases h
theorem L6{p:Prog}(h:(bK p).isSome=true){n:Int}(hn:ln p n=true):mg p (p.methods.getD n.toNat default).gen=true:=by
 obtain⟨o,aA⟩:=Option.isSome_iff_exists.1 h;obtain⟨cV,hm,_⟩:=(kF aA).2.2.2;simp only[ln,Bool.and_eq_true,decide_eq_true_eq] at hn;exact R0 _ _ (by rw[hm];rfl) _ (cp ad)
theorem JH{p:Prog}(aB:p.Small):ba Tryz.prog 88 [aa.prog p] (.bJ [aa.world (JF p),.i (if(bK p).isSome then 0 else 2)]):=by
 intro H;refine bh (n:=10) Tryz.func88 λB I aO=>?_;refine bg ?_;refine au.cG rfl rfl rfl rfl (λfo=>?_);refine bn ?_;refine aG (af.call .k (Er aB)) ?_;refine bg ?_;refine aq.cond rfl (λai=>?_) (λai=>?_)
 ·have an:(bK p).isSome=false:=by cases h:(bK p).isSome with
   | false=>rfl
   | true=>rw[h] at ai;simp at ai
  have acX:JF p=⟨[],[]⟩:=if_neg (by rw[an];simp);rw[an,acX];refine bS ?_;refine aR.c5 (rs:=[.cell 2 86,.tmp 3]) (H':=H) rfl (Cp) (.cons (aL.agg (.cons (aL.nil 1) (.cons (aL.nil 1) .nil))) (.cons (.refl _) .nil)) b8 ?_;exact⟨dJ,rfl⟩
 ·have an:(bK p).isSome=true:=by cases h:(bK p).isSome with
   | true=>rfl
   | false=>rw[h] at ai;simp at ai
  have b0:=Jo an;have fC:=b0.dS;obtain⟨o,aA⟩:=Option.isSome_iff_exists.1 an;have j6:=(D1 (kF aA).1).2;rw[JG an,an];refine bz ?_;refine aG (af.call .k (Qq p ad j6)) ?_;refine bz ?_;refine aR.c5 (rs:=[.cell 2 86,.tmp 3]) (H':=H) rfl (Cp) (bO.refl _) b8 ?_;exact⟨dJ,rfl⟩
end Go.Proofs.YtodccgailpkgeaaGreat

namespace Go.Eng.ei
open Go.Eng.Fc
structure tg(l:List (Int×aa))(L:List Int):Prop where
 ok:lK l
 get:∀s,hN l s=if L.contains s then some (.b true) else none
theorem tg.nil:tg [] []:=⟨lK.nil,λs=>rfl⟩
theorem tg.put{l:List (Int×aa)}{L:List Int}(h:tg l L){x:Int}(ao:gL x):tg (fg l x (.b true)) (L++[x]):=by
 refine⟨h.ok.put ao _,λs=>?_⟩;rw[yf,h.get];by_cases e:s=x
 ·rw[if_pos e,e];simp
 ·rw[if_neg e,show (L++[x]).contains s=L.contains s by simp[e]]
abbrev hk(ms:List (Nat×List (Int×aa))):List aj:=ms.map λx=>eu x.1 x.2
def q9(p:Prog)(ms:List (Nat×List (Int×aa)))(n:Nat):Prop:=ms.length=n/\∀a,a<n->tg (ms.getD a default).2 ((if gK p a then pz p a else []).map (·.1))
theorem q9.nil(p:Prog):q9 p [] 0:=⟨rfl,λa h=>by omega⟩
theorem q9.snoc{p:Prog}{ms:List (Nat×List (Int×aa))}{n bo:Nat}{l:List (Int×aa)}(h:q9 p ms n)(ax:tg l ((if gK p n then pz p n else []).map (·.1))):q9 p (ms++[(bo,l)]) (n+1):=by
 refine⟨by rw[List.length_append,h.1];rfl,λa bN=>?_⟩;by_cases e:a<n
 ·rw[List.getD_eq_getElem?_getD,List.getElem?_append_left (by rw[h.1];exact e), <-List.getD_eq_getElem?_getD];exact h.2 a e
 ·obtain rfl:a=n:=by omega
  rw[List.getD_eq_getElem?_getD,List.getElem?_append_right (by rw[h.1];omega),h.1,Nat.sub_self];exact ax
theorem acY{x:aj}(A M H:List aj):(x::(A++(M++H))).Perm (A++((M++[x])++H)):=by
 have e:(M++[x])++H=M++(x::H):=by simp
 rw[e, <-List.append_assoc, <-List.append_assoc];exact List.perm_middle.symm
end Go.Eng.ei

namespace Go.Proofs.YtodccgailpkgeaaGreat
open Go.Eng
open Go.Eng.Fc
open Go.Eng.ei
variable{a c k:Nat}{t:bG}{q:Nat->Bool}{n:Int}
instance:rN Tryz.prog 128 (3,4):=⟨aM,aM⟩
abbrev th(p:Prog)(t:bG)(B S M A D X:aa):List aa:=lQ t++dF p++dH (cH p)++[B,S,M,A,D,X]
abbrev iF(x:Nat×List (Int×aa)):List aa:=[.val (.map (some x.1))]
theorem acZ{p:Prog}(h:a<a7 p):aa.iE ((fJ p).take (a+1))= .aF 1 (((fJ p).take a).map (λx=>[aa.da x])++[[aa.da ((fJ p).getD a default)]]):=by
 rw[<-eE (by rw[rn];exact h)];show aa.aF 1 (List.map _ (_++_))=_;rw[List.map_append];rfl
theorem ac0{p:Prog}(h:a<a7 p):aa.bD ((fV p).take (a+1))= .aF 1 (((fV p).take a).map (λx=>[aa.ints x])++[[aa.ints (if gK p a then ez p a else [])]]):=by
 rw[<-eE (by rw[tD];exact h),show (fV p).getD a default=(if gK p a then ez p a else []) from BG _ h];show aa.aF 1 (List.map _ (_++_))=_;rw[List.map_append];rfl
theorem ac1{l:List Bool}{b:Nat}(h:b<l.length):aa.da (l.take (b+1))= .aF 1 ((l.take b).map (λx=>[aa.b x])++[[.b (l.getD b default)]]):=by
 rw[<-eE h];show aa.aF 1 (List.map _ (_++_))=_;rw[List.map_append];rfl
theorem ac2(ms:List (Nat×List (Int×aa)))(bo:Nat)(l:List (Int×aa)):hk (ms++[(bo,l)])=hk ms++[eu bo l]:=by
 show List.map _ _=_;rw[List.map_append];rfl
theorem ac3(ms:List (Nat×List (Int×aa)))(bo:Nat)(l:List (Int×aa)):aa.aF 1 ((ms++[(bo,l)]).map iF)= .aF 1 (ms.map iF++[[.val (.map (some bo))]]):=by
 rw[List.map_append];rfl
theorem JI{p:Prog}(h:a<a7 p):jZ (cH p) a=true:=JD.2 ⟨ad,by rw[uM];unfold a7 at h;omega⟩
theorem ac4{p:Prog}{a b:Nat}(h:a<a7 p)(aw:b<a7 p):((fJ p).getD a default).getD b default=kG (cH p) a b:=by
 have:=RV h (b:=(b:Int)) ⟨ad,ad⟩;simpa using this
theorem map_take{l:List (Int×Int)}{j:Nat}(h:j<l.length):(l.take (j+1)).map (·.1)=(l.take j).map (·.1)++[(l.getD j default).1]:=by
 rw[<-eE h,List.map_append];rfl
theorem ac5{p:Prog}{c:Int}(aA:gK p c=true):∀x∈pz p c,gL x.1:=λx ag=>by
 obtain⟨aD,dp,fC,eZ,Bw,q7,bq,hlen,iH,Js,Es,RK⟩:=BC aA;obtain⟨s,aH,h⟩:=List.mem_filterMap.1 ag;cases ax:ky (mm p c) s with
 | none=>rw[ax] at h;cases h
 | some n=>rw[ax] at h;cases h;exact Es s aH
theorem RI{p:Prog}{c:Int}(aA:gK p c=true):(pz p c).length<=100000:=by
 obtain⟨aD,dp,fC,eZ,Bw,q7,bq,hlen,iH,Js,Es,RK⟩:=BC aA;have:=List.length_filterMap_le (λs=>(ky (mm p c) s).map λn=>(s,n)) (ez p c);unfold pz;omega
theorem ac6{p:Prog}(aB:p.Small){c:Int}(aA:gK p c=false):ba Tryz.prog 91 [aa.prog p,.i c] (.bJ [aa.s7 [],.i 2]):=by
 intro H;refine b1.rF (n:=81) Tryz.func91 rfl aM rfl rfl (λB I aO=>?_);refine cT ?_;refine aG (af.call .k (Jp aB c)) ?_;refine bg ?_;refine aq.cond rfl (λai=>?_) (λai=>?_)
 ·refine bs ?_;refine aR.Wn (rs:=[.tmp 4,.tmp 5]) (H':=H) rfl (.tmp rfl (.tmp rfl (.nil))) (.cons (aL.nil 2) (.cons (.refl _) .nil)) b8 ?_;exact⟨dJ,rfl⟩
 ·simp[aA] at ai
theorem ac7{p:Prog}(aB:p.Small)(c:Int):ba Tryz.prog 91 [aa.prog p,.i c] (.bJ [aa.s7 (if gK p c then pz p c else []),.i (if gK p c then 0 else 2)]):=by
 cases aA:gK p c with
 | true=>simpa using acr aB aA
 | false=>simpa using ac6 aB aA
theorem EF{p:Prog}(aB:p.Small)(an:(bK p).isSome=true)(t:bG)(H:List aj):b1 Tryz.prog 42 [aa.prog p,aa.ef t] H (λy H'=>∃b3 ms,y= .bJ [.p b3 0,.b true]/\H'= .aI b3 92 (th p t (aa.iE (fJ p)) (aa.bD (fV p)) (.aF 1 (ms.map iF)) (.val (.map none)) (.val (.map none)) (.b false))::(hk ms++H)/\q9 p ms (a7 p)) (λ_ _=>False):=by
 refine bh (n:=113) Tryz.func42 λB I aO=>?_;have hm:=qg an;have b0:=Jo an;have fC:=b0.dS;have hw:=b0.world;have dD:=JH aB;rw[JG an,an] at dD;refine cw ?_;refine aG (af.call .k (dD)) ?_;refine bg ?_;refine au.cG rfl rfl rfl rfl (λcE=>?_);refine aT ?_;refine aq.ep (d:=6) rfl ey ?_;refine bz ?_;refine aq.cond rfl (λai=>?_) (λai=>?_)
 ·simp at ai
 ·refine bs ?_;refine au.tW rfl rfl rfl rfl rfl rfl rfl (λb3=>?_);refine eb ?_;refine aq.le 9 (y:=.i (a7 p)) rfl (aL.dx (by unfold a7;omega)) ?_;refine aT ?_;refine aq.sN (b:=b3) (t:=92) 28 1 12 pO rfl rfl ?_;refine aq.sN (b:=b3) (t:=92) 23 1 13 pO rfl rfl ?_;refine aq.sN (b:=b3) (t:=92) 128 1 14 pO rfl rfl ?_;refine cq (λm st=>∃(a:Nat) (ms:List (Nat×List (Int×aa))) (v1 v2 v3:Value),st=⟨[(39,.i a),(38,.i (a7 p)),(9,.i (a7 p)),(8,.p b3 0),(2,.ptr (dF p)),(6,.ptr (dH (cH p)))],.own 128 1 v3::.own 23 1 v2::.own 28 1 v1::.aI b3 92 (th p t (.as (aa.iE ((fJ p).take a)) v1) (.as (aa.bD ((fV p).take a)) v2) (.as (.aF 1 (ms.map iF)) v3) (.val (.map none)) (.val (.map none)) (.b false))::(hk ms++H)⟩/\m=a7 p - a/\a<=a7 p/\q9 p ms a) (⟨0,[],_,_,_,rfl,rfl,ad,q9.nil p⟩) ?_;rintro m _ ⟨a,ms,v1,v2,v3,rfl,rfl,bN,b4⟩;refine aT ?_;refine aZ (λab=>?_) λab=>?_
  ·have ra:a<a7 p:=by omega
   obtain⟨R,hR⟩:∃R,R=(fJ p).getD a default:=⟨_,rfl⟩;have alf:R.length=a7 p:=by rw[hR,JC ra];simp
   refine p7 ?_;refine aq.iq 11 4 1 rfl ?_;refine cq (λm st=>∃(b:Nat) (v0:Value),st=⟨[(43,.i b),(42,.i (a7 p)),(11,.as (aa.da (R.take b)) v0),(10,.i a),(39,.i a),(38,.i (a7 p)),(9,.i (a7 p)),(8,.p b3 0),(2,.ptr (dF p)),(6,.ptr (dH (cH p)))],.own 4 1 v0::.own 128 1 v3::.own 23 1 v2::.own 28 1 v1::.aI b3 92 (th p t (.as (aa.iE ((fJ p).take a)) v1) (.as (aa.bD ((fV p).take a)) v2) (.as (.aF 1 (ms.map iF)) v3) (.val (.map none)) (.val (.map none)) (.b false))::(hk ms++H)⟩/\m=a7 p - b/\b<=a7 p) (⟨0,_,rfl,rfl,ad⟩) ?_;rintro m _ ⟨b,v0,rfl,rfl,aw⟩;refine aT ?_;refine aZ (λae=>?_) λae=>?_
   ·have mw:b<a7 p:=by omega
    have fx:=ac4 ra mw;rw[<-hR] at fx;refine fk ?_;refine aG (af.call .k (acP hw (JI ra) (JI mw))) ?_;refine c6 ?_;refine au.bB (x:=.aF 1 [[.b (kG (cH p) a b)]]) rfl rfl rfl (af.row rfl rfl c4 rfl rfl rfl rfl rfl rfl) ?_;refine au.gu rfl rfl rfl rfl rfl rfl rfl rfl (aL.refl _) (rfl) (λv=>by repeat (first | exact bu.head _ _ _ | apply bu.tail)) xD xD (λac8=>?_);refine bs ?_;exact bV (⟨b+1,ac8,by rw[ac1 ad,fx],rfl,mw⟩)
   ·obtain rfl:b=a7 p:=by omega
    have ac9:R.take (a7 p)=R:=List.take_of_length_le ad;rw[ac9];refine aT ?_;refine aq.le 11 (y:=aa.da R) rfl (aL.hb _ _) ?_;refine bn ?_;refine au.bB (x:=.aF 1 [[aa.da R]]) rfl rfl rfl (af.row rfl rfl c4 rfl rfl rfl rfl rfl rfl) ?_;refine au.gu rfl rfl rfl rfl rfl rfl rfl rfl (aL.refl _) (rfl) (λv=>by repeat (first | exact bu.head _ _ _ | apply bu.tail)) xD xD (λJJ=>?_);refine bS ?_;refine aG (af.call .k (hasB aB a)) ?_;refine fk ?_;refine au.bB (x:=.aF 1 [[aa.ints (if gK p a then ez p a else [])]]) rfl rfl rfl (af.row rfl rfl c4 rfl rfl rfl rfl rfl rfl) ?_;refine au.gu rfl rfl rfl rfl rfl rfl rfl rfl (aL.refl _) (rfl) (λv=>by repeat (first | exact bu.head _ _ _ | apply bu.tail)) xD xD (λJK=>?_);refine bn ?_;refine au.mkMap rfl rfl rfl rfl (λbo=>?_);refine bn ?_;refine aG (af.call .k (ac7 aB a)) ?_;refine bS ?_;obtain⟨L,df⟩:∃L,L=(if gK p a then pz p a else []):=⟨_,rfl⟩;rw[<-df];have ada:∀x∈L,gL x.1:=λx ag=>by
     cases aA:gK p a with
     | true=>rw[df,if_pos aA] at ag;exact ac5 aA x ag
     | false=>rw[df,if_neg (by rw[aA];decide)] at ag;cases ag
    have R1:L.length<=100000:=by
     cases aA:gK p a with
     | true=>rw[df,if_pos aA];exact RI aA
     | false=>rw[df,if_neg (by rw[aA];decide)];exact Nat.zero_le _
    refine bn ?_;refine cq (λm st=>∃(j:Nat) (l:List (Int×aa)),st=⟨[(93,.i j),(92,.i L.length),(91,aa.s7 L),(17,.val (.map (some bo))),(10,.i a),(39,.i a),(38,.i (a7 p)),(9,.i (a7 p)),(8,.p b3 0),(2,.ptr (dF p)),(6,.ptr (dH (cH p)))],eu bo l::.own 4 1 v0::.own 128 1 v3::.own 23 1 JK::.own 28 1 JJ::.aI b3 92 (th p t (.as (.aF 1 (((fJ p).take a).map (λx=>[aa.da x])++[[aa.da R]])) JJ) (.as (.aF 1 (((fV p).take a).map (λx=>[aa.ints x])++[[aa.ints (if gK p a then ez p a else [])]])) JK) (.as (.aF 1 (ms.map iF)) v3) (.val (.map none)) (.val (.map none)) (.b false))::(hk ms++H)⟩/\m=L.length - j/\j<=L.length/\tg l ((L.take j).map (·.1))) (⟨0,[],rfl,rfl,ad,tg.nil⟩) ?_;rintro m _ ⟨j,l,rfl,rfl,aU,bT⟩;refine aT ?_;refine aZ (λaD=>?_) λaD=>?_
    ·have c3:j<L.length:=by omega
     obtain⟨Y,wN⟩:∃Y,Y=L.getD j default:=⟨_,rfl⟩;have BD:gL Y.1:=ada _ (wN▸cp c3);refine bs ?_;refine au.cG rfl rfl rfl rfl (λie=>?_);refine bg ?_;rw[<-wN];refine aq.ep (d:=21) rfl ey ?_;refine bI ?_;refine au.jE (u':=.b true) rfl rfl (.inl rfl) rfl rfl rfl rfl rfl rfl (aL.refl _) (.head _ _ _) bT.ok BD ?_;refine bn ?_;exact bV (⟨j+1,_,rfl,rfl,c3,by rw[map_take c3, <-wN];exact bT.put BD⟩)
    ·obtain rfl:j=L.length:=by omega
     rw[List.take_length,df] at bT;refine cT ?_;refine au.bB (x:=.aF 1 [[.val (.map (some bo))]]) rfl rfl rfl (af.row rfl rfl c4 rfl rfl rfl rfl rfl rfl) ?_;refine au.gu rfl rfl rfl rfl rfl rfl rfl rfl (aL.refl _) (rfl) (λv=>by repeat (first | exact bu.head _ _ _ | apply bu.tail)) LM LM (λadb=>?_);refine aT ?_;refine aq.perm (acY [_,_,_,_,_] (hk ms) H) ?_;refine bI ?_;exact bV (⟨a+1,ms++[(bo,l)],JJ,JK,adb,by rw[acZ ra, <-hR,ac0 ra,ac3,ac2],rfl,ra,b4.snoc bT⟩)
  ·obtain rfl:a=a7 p:=by omega
   have a6:(fJ p).take (a7 p)=fJ p:=List.take_of_length_le (by rw[rn];exact Nat.le_refl _);have aW:(fV p).take (a7 p)=fV p:=List.take_of_length_le (by rw[tD];exact Nat.le_refl _);rw[a6,aW];refine aT ?_;refine aq.Oq (b:=b3) (t:=92) (ds:=th p t (aa.iE (fJ p)) (aa.bD (fV p)) (.aF 1 (ms.map iF)) (.val (.map none)) (.val (.map none)) (.b false)) pO (by repeat (first | exact bO.nil | refine bO.cons (.refl _) ?_ | refine bO.cons (aL.hb _ _) ?_)) ?_;refine bn ?_;refine fR [.tmp 4,.tmp 5] (.aI b3 92 (th p t (aa.iE (fJ p)) (aa.bD (fV p)) (.aF 1 (ms.map iF)) (.val (.map none)) (.val (.map none)) (.b false))::(hk ms++H)) ?_;exact⟨b3,ms,rfl,rfl,b4⟩
theorem ade{p:Prog}(aB:p.Small)(an:(bK p).isSome=false)(t:bG):ba Tryz.prog 42 [aa.prog p,aa.ef t] (.bJ [.val (.pointer none),.b false]):=by
 intro H;refine bh (n:=113) Tryz.func42 λB I aO=>?_;have dD:=JH aB;rw[an] at dD;refine cw ?_;refine aG (af.call .k (dD)) ?_;refine bg ?_;refine au.cG rfl rfl rfl rfl (λcE=>?_);refine cw ?_;refine aq.cond rfl (λai=>?_) (λai=>?_)
 ·refine bs ?_;refine fR [.tmp 4,.tmp 5] (H) ?_;exact⟨dJ,rfl⟩
 ·simp at ai
theorem adf(A B C:Bool):(bif bif A then B else false then C else false)=(A && B && C):=by cases A <;> cases B <;> rfl
theorem JL{m:Nat}(k:Int):(bif bif decide (k>=0) then k.tmod 2==0 else false then decide (k<((2^m:Nat):Int)) else false)=cr m k:=by
 rw[adf,cr];by_cases h:0<=k
 ·have a6:(k.tmod 2==0)=decide (k%2=0):=by rw[Int.tmod_eq_emod_of_nonneg h];rfl
  have aW:((2^m:Nat):Int)=(2:Int)^m:=by simp
  rw[a6,aW]
 ·have e:decide (k>=0)=false:=by simp;omega
  rw[e];rfl
def rb(p:Prog)(t:bG):Bool:=decide (t.bP.length=p.methods.length) && decide (t.params.length=p.methods.length) && decide (t.nodes.length=p.nodes.length) && decide ((t.aJ.length:Int)=p.aJ)
theorem JM(a b:Nat):((a:Int) !=(b:Int))= !decide (a=b):=by rw[Bool.eq_iff_iff];simp;omega
theorem R2(p:Prog)(t:bG):(bif bif bif (t.bP.length:Int) !=(p.methods.length:Int) then true else (t.params.length:Int) !=(p.methods.length:Int) then true else (t.nodes.length:Int) !=(p.nodes.length:Int) then true else (t.aJ.length:Int) !=p.aJ)= !rb p t:=by
 rw[JM,JM,JM,show ((t.aJ.length:Int) !=p.aJ)= !decide ((t.aJ.length:Int)=p.aJ) by rw[Bool.eq_iff_iff];simp];unfold rb;cases decide (t.bP.length=p.methods.length) <;> cases decide (t.params.length=p.methods.length) <;> cases decide (t.nodes.length=p.nodes.length) <;> rfl
theorem JN{p:Prog}:rb p t=true↔t.bP.length=p.methods.length/\t.params.length=p.methods.length/\t.nodes.length=p.nodes.length/\(t.aJ.length:Int)=p.aJ:=by simp[rb,and_assoc]
def yN(p:Prog)(t:bG):Bool:=(List.range t.params.length).all (q2 p (a7 p) t)
theorem JO(p:Prog)(t:bG):jG p t=(rb p t && yN p t && t.nodes.all (cr (a7 p)) && t.aJ.all (cr (a7 p))):=rfl
theorem R3(p:Prog)(m:Nat)(t:bG)(i:Nat):(bif ((t.params.getD i default).length:Int) !=p.du.getD (p.methods.getD i default).gen.toNat default then true else !((t.params.getD i default).all (cr m)))= !q2 p m t i:=by
 unfold q2;rw[bne];cases (((t.params.getD i default).length:Int)==p.du.getD (p.methods.getD i default).gen.toNat default) <;> rfl
theorem BI{i:Nat}(h:(List.range i).all q=true)(ae:q i=true):(List.range (i+1)).all q=true:=by
 rw[List.range_succ,List.all_append,h,List.all_cons,ae];rfl
theorem BJ{n i:Nat}(av:i<n)(h:q i=false):(List.range n).all q=false:=by
 rw[List.all_eq_false];exact⟨i,List.mem_range.2 av,zq⟩
theorem w0{p:Prog}(an:(bK p).isSome=true){i:Nat}(h:i<p.methods.length):0<=(p.methods.getD i default).gen/\(p.methods.getD i default).gen<p.du.length:=by
 have:=L6 an (n:=(i:Int)) (by unfold ln;simp;omega);rw[show ((i:Int)).toNat=i from rfl] at this;simpa only[mg,Bool.and_eq_true,decide_eq_true_eq] using this
theorem JP{p:Prog}(M A D X:aa):aL (.ptr (th p t (aa.iE (fJ p)) (aa.bD (fV p)) M A D X)) (aa.e2 p t):=
 aL.ptr (by repeat (first | exact bO.nil | refine bO.cons (.refl _) ?_ | refine bO.cons (λ_ _ v _=>.any v) ?_))
theorem JQ{p:Prog}(an:(bK p).isSome=true)(t:bG)(k:Int):ba Tryz.prog 102 [.i k,.ptr [aa.e2 p t]] (.b (cr (a7 p) k)):=by
 intro H;refine bh (n:=21) Tryz.func102 λB I aO=>?_;have hm:=qg an;have mw:=rn p;refine cw ?_;refine au.cb rfl rfl rfl rfl rfl rfl (λal=>af.div rfl rfl rfl (cL al) rfl ad (.inr ⟨rfl,rfl⟩)) ?_;refine bS ?_;refine au.cb rfl rfl rfl rfl rfl rfl (λal=>af.shift rfl rfl rfl rfl (cL al) ad (r1 _ ⟨ad,ad⟩)) ?_;refine aT ?_;refine aS 3 (H) ?_;exact⟨bR (by rw[mw];exact JL k),rfl⟩
theorem BK{f:Fn}{bM cs:List aa}{q:Int->Bool}(al:oZ Tryz.prog (.fn f bM cs) aa.i q)(l:List Int):ba Tryz.prog 51 [aa.ints l,.fn f bM cs] (.b (l.all q)):=by
 intro H;refine bh (n:=18) Tryz.func51 λB I aO=>?_;refine aq.fi (t:=0) rfl (λhg=>?_);refine eb ?_;refine cq (λm st=>∃k:Nat,st=⟨[(9,.i k),(8,.i l.length),(7,aa.ints l),(1,.fn f bM cs)],H⟩/\m=l.length - k/\k<=l.length/\(l.take k).all q=true) (⟨0,rfl,rfl,bj,rfl⟩) ?_;rintro m _ ⟨k,rfl,rfl,ao,aB⟩;refine aT ?_;refine aZ (λai=>?_) λai=>?_
 ·have dP:k<l.length:=by omega
  refine fk ?_;refine au.o1 rfl rfl rfl rfl rfl rfl rfl rfl (bO.refl _) (al B _ _) ?_;rintro _ H1 ⟨rfl,e⟩;replace e:=e.symm;subst e;refine bg ?_;refine aq.cond rfl (λab=>?_) (λab=>?_)
  ·have ab:q (l.getD k default)=false:=by simpa using ab
   refine cw ?_;refine aS 4 (H) ?_;exact⟨bR (Rf dP ab).symm,rfl⟩
  ·have ab:q (l.getD k default)=true:=by simpa using ab
   refine bn ?_;exact bV (⟨k+1,rfl,rfl,dP,Re dP aB ab⟩)
 ·obtain rfl:k=l.length:=by omega
  rw[List.take_length] at aB;refine cw ?_;refine aS 4 (H) ?_;exact⟨bR (by rw[aB]),rfl⟩
theorem JR{p:Prog}(an:(bK p).isSome=true)(t:bG):ba Tryz.prog 58 [aa.e2 p t] (.b (jG p t)):=by
 intro H;refine bh (n:=117) Tryz.func58 λB I aO=>?_;have heq:=JO p t;refine eb ?_;refine aq.bL mixed ?_;refine bk.b7 0 12 117 rfl ay rfl rfl ay ?_;refine qW ?_;refine bk.b7 14 26 117 rfl ay rfl rfl ay ?_;refine HW ?_;refine bk.b7 29 41 117 rfl ay rfl rfl ay ?_;refine HW ?_;refine bk.b7 44 55 117 rfl ay rfl rfl ay ?_;refine hB ?_;rw[R2];refine aq.cond rfl (λai=>?_) (λai=>?_)
 ·have ai:rb p t=false:=by simpa using ai
  refine bn ?_;refine aS 2 (H) ?_;exact⟨bR (by rw[heq,ai];rfl),rfl⟩
 ·have ai:rb p t=true:=by simpa using ai
  obtain⟨JS,w1,JT,adg⟩:=JN.1 ai;rw[ai,Bool.true_and] at heq;refine fk ?_;refine aq.fi (t:=68) rfl (λhg=>?_);refine cq (λm st=>∃i:Nat,st=⟨[(70,.i i),(69,.i t.params.length),(68,aa.bD t.params),(3,.fn (.func 102) [] [.ptr [aa.e2 p t]]),(1,.ptr [aa.e2 p t])],H⟩/\m=t.params.length - i/\i<=t.params.length/\(List.range i).all (q2 p (a7 p) t)=true) (⟨0,rfl,rfl,ad,rfl⟩) ?_;rintro m _ ⟨i,rfl,rfl,av,cy⟩;refine aT ?_;refine aZ (λab=>?_) λab=>?_
  ·have a1:i<t.params.length:=by omega
   have Ep:=w0 an (i:=i) ad;refine eb ?_;refine aq.bL mixed ?_;refine bk.b7 0 18 117 rfl ay rfl rfl ay ?_;refine lL ?_;refine bU.bB rfl rfl rfl (ob) ?_;refine c6 ?_;refine bk.b7 20 22 117 rfl ay rfl rfl ay ?_;refine bI ?_;refine au.cb rfl rfl rfl rfl rfl rfl (λal=>af.call (.mk' rfl rfl rfl rfl dv) (BK (.of (JQ an t)) _)) ?_;refine bI ?_;rw[R3];refine aq.cond rfl (λae=>?_) (λae=>?_)
   ·have ae:q2 p (a7 p) t i=false:=by simpa using ae
    refine cw ?_;refine aS 2 (H) ?_;exact⟨bR (by rw[heq,yN,BJ a1 ae];rfl),rfl⟩
   ·have ae:q2 p (a7 p) t i=true:=by simpa using ae
    refine bn ?_;exact bV (⟨i+1,rfl,rfl,a1,BI cy ae⟩)
  ·obtain rfl:i=t.params.length:=by omega
   have iG:yN p t=true:=cy;rw[iG,Bool.true_and] at heq;refine ev ?_;refine aG (af.call .k (BK (.of (JQ an t)) _)) ?_;refine bn ?_;refine au.cb rfl rfl rfl rfl rfl rfl (λal=>af.call (.mk' rfl rfl rfl rfl dv) (BK (.of (JQ an t)) _)) ?_;refine bz ?_;refine aS 2 (H) ?_;exact⟨bR (by rw[heq,Bool.cond_false_right]),rfl⟩
theorem JU{p:Prog}(aB:p.Small){t:bG}(an:(bK p).isSome=true)(ht:jG p t=true):ba Tryz.prog 32 [aa.prog p,aa.ef t] (.bJ [aa.e2 p t,.b true]):=by
 intro H;refine bh (n:=22) Tryz.func32 λB I aO=>?_;refine cT ?_;refine dE .k ((EF aB an t _).b) ?_;rintro _ _ ⟨b3,ms,rfl,rfl,b4⟩;refine bS ?_;refine aq.ep (d:=6) rfl ey ?_;refine aq.le 6 (y:=aa.e2 p t) rfl (JP _ _ _ _) ?_;refine bz ?_;refine au.cb rfl rfl rfl rfl rfl rfl (λal=>af.call (.mk' rfl rfl rfl rfl dv) (JR an t)) ?_;refine bI ?_;refine aq.cond rfl (λai=>?_) (λai=>?_)
 ·simp[ht] at ai
 ·refine c6 ?_;refine aR.c5 (rs:=[.tmp 4,.tmp 5]) (H':=H) rfl (.tmp rfl (.tmp rfl (.nil))) (bO.refl _) (by exact List.sublist_append_right _ _) ?_;exact⟨dJ,rfl⟩
theorem EG{p:Prog}(aB:p.Small)(t:bG)(an:(bK p).isSome=false):ba Tryz.prog 32 [aa.prog p,aa.ef t] (.bJ [.val (.pointer none),.b false]):=by
 intro H;refine bh (n:=22) Tryz.func32 λB I aO=>?_;refine cT ?_;refine aG (af.call .k (ade aB an t)) ?_;refine eb ?_;refine au.cb rfl rfl rfl rfl rfl rfl (λal=>(absurd al bj:af _ _ _ _ (.b false))) ?_;refine bI ?_;refine aq.cond rfl (λai=>?_) (λai=>?_)
 ·refine bs ?_;refine fR [.tmp 4,.tmp 5] (H) ?_;exact⟨dJ,rfl⟩
 ·simp at ai
theorem EH{p:Prog}(aB:p.Small){t:bG}(an:(bK p).isSome=true)(ht:jG p t=false):ba Tryz.prog 32 [aa.prog p,aa.ef t] (.bJ [.val (.pointer none),.b false]):=by
 intro H;refine bh (n:=22) Tryz.func32 λB I aO=>?_;refine cT ?_;refine dE .k ((EF aB an t _).b) ?_;rintro _ _ ⟨b3,ms,rfl,rfl,b4⟩;refine bS ?_;refine aq.ep (d:=6) rfl ey ?_;refine aq.le 6 (y:=aa.e2 p t) rfl (JP _ _ _ _) ?_;refine bz ?_;refine au.cb rfl rfl rfl rfl rfl rfl (λal=>af.call (.mk' rfl rfl rfl rfl dv) (JR an t)) ?_;refine bI ?_;refine aq.cond rfl (λai=>?_) (λai=>?_)
 ·refine bs ?_;refine aR.c5 (rs:=[.tmp 4,.tmp 5]) (H':=H) rfl (.tmp rfl (.tmp rfl (.nil))) (bO.refl _) (by exact List.sublist_append_right _ _) ?_;exact⟨dJ,rfl⟩
 ·simp[ht] at ai
structure alg where
 p:Prog
 b:acu
 gen:Int
 method:Int
 R4:List PU
 args:List (Int×Int)
 fuel:Int
theorem Mh{p:Prog}(h:ln p n=true):0<=n/\n<p.methods.length:=by simpa only[ln,Bool.and_eq_true,decide_eq_true_eq] using h
theorem L5{p:Prog}(h:mg p n=true):0<=n/\n<p.du.length:=by simpa only[mg,Bool.and_eq_true,decide_eq_true_eq] using h
theorem oF{p:Prog}(an:(bK p).isSome=true):p.methods.length<=1000:=by
 obtain⟨o,aA⟩:=Option.isSome_iff_exists.1 an;have:=(kF aA).2.1;simp only[q1,Bool.and_eq_true,decide_eq_true_eq] at this;omega
def w2(p:Prog)(c:Int):Bool:=decide (c>0) && decide (c<a7 p)
def ti(p:Prog)(t:bG)(n:Int)(l:List Int):Bool:=lk p t && ln p n && ((l.length:Int)==tH p n) && l.all (w2 p)
def w3(p:Prog)(t:bG)(n:Int)(l:List Int):aa:=if ti p t n l then .bJ [.b (e1 p t l (p.methods.getD n.toNat default).fact).1,.b (e1 p t l (p.methods.getD n.toNat default).fact).2,.i 0] else .bJ [.b false,.b false,.i 2]
theorem JV{p:Prog}(h:jG p t=true):pB p t/\(t.aJ.length:Int)=p.aJ/\rb p t=true:=by
 rw[JO] at h;simp only[Bool.and_eq_true] at h;exact⟨List.all_eq_true.1 h.2,(JN.1 h.1.1.1).2.2.2,h.1.1.1⟩
theorem JW{p:Prog}:∀(l:List iz) (o:List Int),(hS p l o).isSome=true->∀m∈l,rR p m=true
 | x::r,o,h,m,hm=>by
  rw[hS] at h;split at h
  ·rename_i ag;rw[Bool.and_eq_true] at ag;rcases List.mem_cons.1 hm with rfl | hm
   ·exact ag.2
   ·cases aC:(visit p (me x) 13 (ns p x) o).2 with
    | none=>rw[aC] at h;cases h
    | some cV=>rw[aC] at h;exact JW r cV h m hm
  ·cases h
theorem EI{p:Prog}(an:(bK p).isSome=true){n:Int}(hn:ln p n=true){l:List Int}(ax:(l.length:Int)=tH p n):jD p l (p.methods.getD n.toNat default).fact:=by
 obtain⟨o,aA⟩:=Option.isSome_iff_exists.1 an;obtain⟨cV,hm,_⟩:=(kF aA).2.2.2;have lE:=hn;simp only[ln,Bool.and_eq_true,decide_eq_true_eq] at lE;have ae:=JW _ _ (by rw[hm];rfl) _ (cp (l:=p.methods) (k:=n.toNat) ad);simp only[rR,Bool.and_eq_true,decide_eq_true_eq] at ae;exact⟨(yx ae.1.2).1,by rw[ax];exact ae.2⟩
theorem adh{p:Prog}(l:List Int):(bif bif bif !true then true else decide (n<0) then true else decide (n>=(p.methods.length:Int)) then true else (l.length:Int) !=p.du.getD (p.methods.getD n.toNat default).gen.toNat default)= !(ln p n && ((l.length:Int)==tH p n)):=by
 unfold ln tH gU;rw[bne,show decide (n<0)= !decide (n>=0) by rw[Bool.eq_iff_iff];simp,show decide (n>=(p.methods.length:Int))= !decide (n<(p.methods.length:Int)) by rw[Bool.eq_iff_iff];simp];cases decide (n>=0) <;> cases decide (n<(p.methods.length:Int)) <;> rfl
theorem EJ{p:Prog}{l:List Int}(h:ti p t n l=false):w3 p t n l= .bJ [.b false,.b false,.i 2]:=if_neg (by rw[h];decide)
theorem adi{p:Prog}{c:Int}:w2 p c=true↔1<=c/\c<a7 p:=by unfold w2;simp;omega
theorem L7(p:Prog){n:Int}(h:(!bif bif !true then true else decide (n<0) then true else decide (n>=(p.methods.length:Int)))=true):ln p n=true:=by
 unfold ln;simp at h ⊢;omega
theorem adj(p:Prog)(t:bG)(c:Int):ba Tryz.prog 54 [.i c,.ptr [aa.e2 p t]] (.b (w2 p c)):=by
 intro H;refine bh (n:=15) Tryz.func54 λB I aO=>?_;have mw:=rn p;refine oz ?_;refine aS 3 (H) ?_;exact⟨bR (by rw[mw,Bool.cond_false_right];rfl),rfl⟩
theorem adk{p:Prog}(aB:p.Small){t:bG}(an:(bK p).isSome=false)(n:Int)(l:List Int):ba Tryz.prog 31 [aa.prog p,aa.ef t,.i n,aa.ints l] (w3 p t n l):=by
 intro H;refine bh (n:=65) Tryz.func31 λB I aO=>?_;have eF:ti p t n l=false:=by unfold ti lk;rw[an];rfl
 refine ev ?_;refine aG (af.call .k (EG aB t an)) ?_;refine bg ?_;refine au.cG rfl rfl rfl rfl (λfo=>?_);refine aT ?_;refine aq.ep (d:=11) rfl ey ?_;refine aq.bL mixed ?_;refine HX ?_;refine bk.b7 7 11 65 rfl ay rfl rfl ay ?_;refine hB ?_;refine bk.b7 14 26 65 rfl ay rfl rfl ay ?_;refine bn ?_;refine bU.cb rfl rfl rfl rfl rfl (λal=>xC) ?_;refine bC ?_;refine bU.cb rfl rfl rfl rfl rfl (λal=>xC) ?_;refine bn ?_;refine aq.cond rfl (λai=>?_) (λai=>?_)
 ·refine bS ?_;refine fR [.tmp 8,.tmp 9,.tmp 10] (H) ?_;exact⟨by rw[EJ eF];rfl,rfl⟩
 ·simp at ai
theorem adl{p:Prog}(aB:p.Small){t:bG}(an:(bK p).isSome=true)(ht:jG p t=false)(n:Int)(l:List Int):ba Tryz.prog 31 [aa.prog p,aa.ef t,.i n,aa.ints l] (w3 p t n l):=by
 intro H;refine bh (n:=65) Tryz.func31 λB I aO=>?_;have eF:ti p t n l=false:=by unfold ti lk;rw[ht,Bool.and_false];rfl
 refine ev ?_;refine aG (af.call .k (EH aB an ht)) ?_;refine bg ?_;refine au.cG rfl rfl rfl rfl (λfo=>?_);refine aT ?_;refine aq.ep (d:=11) rfl ey ?_;refine aq.bL mixed ?_;refine HX ?_;refine bk.b7 7 11 65 rfl ay rfl rfl ay ?_;refine hB ?_;refine bk.b7 14 26 65 rfl ay rfl rfl ay ?_;refine bn ?_;refine bU.cb rfl rfl rfl rfl rfl (λal=>xC) ?_;refine bC ?_;refine bU.cb rfl rfl rfl rfl rfl (λal=>xC) ?_;refine bn ?_;refine aq.cond rfl (λai=>?_) (λai=>?_)
 ·refine bS ?_;refine fR [.tmp 8,.tmp 9,.tmp 10] (H) ?_;exact⟨by rw[EJ eF];rfl,rfl⟩
 ·simp at ai
theorem adm{p:Prog}(aB:p.Small){t:bG}(an:(bK p).isSome=true)(ht:jG p t=true)(n:Int)(l:List Int):ba Tryz.prog 31 [aa.prog p,aa.ef t,.i n,aa.ints l] (w3 p t n l):=by
 intro H;refine bh (n:=65) Tryz.func31 λB I aO=>?_;obtain⟨aH,eZ,_⟩:=JV ht;have ao:ti p t n l=(ln p n && ((l.length:Int)==tH p n) && l.all (w2 p)):=by unfold ti lk;rw[an,ht];rfl
 refine ev ?_;refine aG (af.call .k (JU aB an ht)) ?_;refine bg ?_;refine au.cG rfl rfl rfl rfl (λfo=>?_);refine aT ?_;refine aq.ep (d:=11) rfl ey ?_;refine aq.bL mixed ?_;refine HX ?_;refine bk.b7 7 11 65 rfl ay rfl rfl ay ?_;refine hB ?_;refine bk.b7 14 26 65 rfl ay rfl rfl ay ?_;refine bn ?_;refine bU.cb rfl rfl rfl rfl rfl (λal=>(by first | exact af.iQ rfl rfl (cL al) rfl (cL al) ⟨CL,CL⟩ | exact af.h1 rfl rfl (cL al) rfl (cL al) ⟨CL,CL⟩)) ?_;refine bC ?_;refine bU.cb rfl rfl rfl rfl rfl (λal=>(by first | exact af.iQ rfl rfl (cL al) rfl (cL al) ⟨CF,CF⟩ | exact af.h1 rfl rfl (cL al) rfl (cL al) ⟨CF,CF⟩)) ?_;refine bn ?_;rw[adh];refine aq.cond rfl (λai=>?_) (λai=>?_)
 ·rw[Bool.not_eq_true'] at ai;refine bS ?_;refine fR [.tmp 8,.tmp 9,.tmp 10] (H) ?_;exact⟨by rw[EJ (by rw[ao,ai];rfl)];rfl,rfl⟩
 ·have ai:(ln p n && ((l.length:Int)==tH p n))=true:=by simpa using ai
  rw[ai,Bool.true_and] at ao;rw[Bool.and_eq_true,beq_iff_eq] at ai;obtain⟨hn,Bn⟩:=ai;have lE:=Mh hn;refine bn ?_;refine aG (af.call .k (BK (.of (adj p t)) _)) ?_;refine bg ?_;refine aq.cond rfl (λab=>?_) (λab=>?_)
  ·have ab:l.all (w2 p)=false:=by simpa using ab
   refine bS ?_;refine fR [.tmp 8,.tmp 9,.tmp 10] (H) ?_;exact⟨by rw[EJ (by rw[ao,ab])];rfl,rfl⟩
  ·have ab:l.all (w2 p)=true:=by simpa using ab
   rw[ab] at ao;have dp:∀c∈l,1<=c/\c<a7 p:=λc ak=>adi.1 (List.all_eq_true.1 ab c ak);refine bg ?_;refine aq.bL mixed ?_;refine bk.b7 0 8 65 rfl ay rfl rfl ay ?_;refine bI ?_;refine bU.bB rfl rfl rfl (ob) ?_;refine bz ?_;refine aG (af.call .k (EE an aH eZ dp _ (EI an hn Bn))) ?_;refine aT ?_;refine aG (af.call .k ((yL _))) ?_;refine bt ?_;refine aG (af.call .k ((EA _))) ?_;refine aT ?_;refine fR [.tmp 8,.tmp 9,.tmp 10] (H) ?_;exact⟨by rw[w3,if_pos ao];rfl,rfl⟩
theorem adn{p:Prog}(aB:p.Small)(t:bG)(n:Int)(l:List Int):ba Tryz.prog 31 [aa.prog p,aa.ef t,.i n,aa.ints l] (w3 p t n l):=by
 cases an:(bK p).isSome with
 | false=>exact adk aB an n l
 | true=>
  cases ht:jG p t with
  | false=>exact adl aB an ht n l
  | true=>exact adm aB an ht n l
theorem ado(k c:Nat)(ao:k<9223372036854775808):ba Tryz.prog 84 [.i k,.i c] (.b (k.testBit c)):=by
 intro H;refine bh (n:=10) Tryz.func84 λB I aO=>?_;refine bS ?_;refine aG (af.shift rfl rfl rfl rfl rfl ad (Jt k c)) ?_;refine aG (af.bits rfl rfl rfl rfl rfl (BE _ 1 (by have:=Nat.div_le_self k (2^min (c:Int).toNat 64);omega) e3)) ?_;refine bz ?_;refine aS 4 (H) ?_;exact⟨bR (RM k c ao),rfl⟩
theorem adp{p:Prog}(an:(bK p).isSome=true){c:Nat}(ak:c<a7 p){s:Int}(aH:0<=s/\s<p.aJ):(bif decide ((c:Int)>=3) then kG (cH p) c ((cH p).owner.getD s.toNat default) else false)=fT p c s:=by
 obtain⟨o,aA⟩:=Option.isSome_iff_exists.1 an;have b0:=pw.of (kF aA).1;have R5:=JE an;unfold fT;by_cases aD:3<=c
 ·rw[show decide ((c:Int)>=3)=true by simp;omega,show decide (3<=c)=true by simp[aD],Q6 b0 ad (by unfold a7 at ak;omega),Ro];rw[show decide (0<=s)=true by simp;omega,show decide (s<((cH p).owner.length:Int))=true by simp;omega];rfl
 ·rw[show decide ((c:Int)>=3)=false by simp;omega,show decide (3<=c)=false by simp;omega];rfl
theorem adq{p:Prog}(an:(bK p).isSome=true){c:Nat}(ak:c<a7 p){s:Int}(aH:0<=s/\s<p.aJ):ba Tryz.prog 85 [aa.world (cH p),.i c,.i s] (.b (fT p c s)):=by
 intro H;refine bh (n:=19) Tryz.func85 λB I aO=>?_;have hw:=(Jo an).world;have R5:=JE an;have aA:=Rc hw (s:=s.toNat) ad;refine bn ?_;refine aq.bL mixed ?_;refine cT ?_;refine bk.b7 3 10 19 rfl ay rfl rfl ay ?_;refine bz ?_;refine bU.cb rfl rfl rfl rfl rfl (λal=>LS) ?_;refine bg ?_;refine au.cb rfl rfl rfl rfl rfl rfl (λal=>af.call (.mk' rfl rfl rfl rfl dv) (Rb hw (a:=c) (b:=((cH p).owner.getD s.toNat default)) (JI ak) F2)) ?_;refine bz ?_;refine aS 6 (H) ?_;exact⟨bR (adp an ak aH),rfl⟩
theorem adr{p:Prog}(h:pB p t){c:Nat}(ak:1<=c):∀path:List Int,(ll p t c path).1.testBit 0=false:=λpath=>by
 rcases List.eq_nil_or_concat path with rfl | ⟨q,s,rfl⟩
 ·show (2^((c:Int).toNat)).testBit 0=false;rw[Nat.testBit_two_pow];simp;omega
 ·rw[List.concat_eq_append,Jz];unfold lR;split
  ·exact (Ey h _).2.2
  ·exact Nat.zero_testBit 0
theorem ads(h:k.testBit 0=false):gB k 1= []:=by rw[wP,h];rfl
theorem adt(h:k.testBit c=false):gB k (c+1)=gB k c:=by rw[wP,h];simp
theorem R6(h:k.testBit c=true):gB k (c+1)=gB k c++[c]:=by rw[wP,h];simp
theorem R7{p:Prog}{s:Int}(h:k.testBit c=true)(ae:fT p c s=true)(b:Bool):ko p t s (gB k c) ||| (t.aJ.getD s.toNat default).toNat=ko p t s (gB k (c+1))/\mi p s b (gB k c)=mi p s b (gB k (c+1)):=by
 rw[R6 h];unfold ko mi;rw[List.any_append,List.any_append,List.any_cons,List.any_cons,ae];refine⟨?_,bj⟩;rw[Bool.true_or,Bool.or_true,if_pos rfl];split <;> simp
theorem R8{p:Prog}{s:Int}(h:k.testBit c=true)(ae:fT p c s=false)(b:Bool):ko p t s (gB k c)=ko p t s (gB k (c+1))/\true=mi p s b (gB k (c+1)):=by
 rw[R6 h];unfold ko mi;rw[List.any_append,List.any_append,List.any_cons,List.any_cons,ae];exact⟨bj,bj⟩
theorem alh{p:Prog}(an:(bK p).isSome=true)(aH:pB p t)(eZ:(t.aJ.length:Int)=p.aJ){c:Nat}(ak:1<=c/\c<a7 p){path:List Int}(vS:∀s∈path,0<=s/\s<p.aJ):ba Tryz.prog 164 [aa.world (cH p),aa.ef t,.i c,aa.ints path] (.agg [.i (ll p t c path).1,.b (ll p t c path).2]):=by
 intro H;refine bh (n:=60) Tryz.func164 λB I aO=>?_;have hm:=qg an;have wY:=qh an;have hL:=uM p;have en:((cH p).parents.length:Int)+3=a7 p:=by rw[hL];unfold a7;omega
 refine aq.fi (t:=3) rfl (λR9=>?_);refine bI ?_;refine au.cG rfl rfl rfl rfl (λdL=>?_);refine bz ?_;refine aG (af.shift rfl rfl rfl rfl rfl ad (r1 c ⟨ad,ad⟩)) ?_;refine bt ?_;refine au.cG rfl rfl rfl rfl (λfh=>?_);refine c6 ?_;refine cq (λm st=>∃(i:Nat) (k:Nat×Bool),st=⟨[(10,.i i),(9,.p fh 0),(8,.p dL 0),(3,aa.ints path),(4,.ptr (dH (cH p))),(5,.ptr (lQ t))],.aI fh 205 [.i k.1,.b k.2]::.aI dL 205 [.val (.int .i64 0),.val (.bool false)]::H⟩/\m=path.length - i/\i<=path.length/\k=ll p t c (path.take i)) (⟨0,(2^c,false),rfl,rfl,ad,rfl⟩) ?_;rintro m _ ⟨i,k,rfl,rfl,av,ao⟩;refine bS ?_;refine aZ (λai=>?_) λai=>?_
 ·have a1:i<path.length:=by omega
  have q8:k.1<2^a7 p:=by rw[ao];exact JA aH (by simpa using ak.2) _
  have kW:k.1.testBit 0=false:=by rw[ao];exact adr aH ak.1 _
  have ED:=RY vS a1;have eh:=RZ p t c a1;rw[<-ao] at eh;obtain⟨s,yM⟩:∃s,s=path.getD i default:=⟨_,rfl⟩;rw[<-yM] at ED eh;have lZ:=Ey aH s.toNat;have gF:ko p t s (gB k.1 1)=0/\mi p s k.2 (gB k.1 1)=k.2:=by rw[ads kW];exact⟨rfl,Bool.or_false _⟩
  refine bS ?_;refine au.cG rfl rfl rfl rfl (λnb=>?_);refine c6 ?_;refine cq (λm st=>∃d:Nat,st=⟨[(12,.i d),(11,.p nb 0),(10,.i i),(9,.p fh 0),(8,.p dL 0),(3,aa.ints path),(4,.ptr (dH (cH p))),(5,.ptr (lQ t))],.aI nb 205 [.i (ko p t s (gB k.1 d)),.b (mi p s k.2 (gB k.1 d))]::.aI fh 205 [.i k.1,.b k.2]::.aI dL 205 [.val (.int .i64 0),.val (.bool false)]::H⟩/\m=a7 p - d/\1<=d/\d<=a7 p) (⟨1,by rw[gF.1,gF.2],rfl,ad,ad⟩) ?_;rintro m _ ⟨d,rfl,rfl,Be,aN⟩;refine cw ?_;refine aZ (λab=>?_) λab=>?_
  ·have tP:d<a7 p:=by omega
   refine c6 ?_;refine aG (af.call .k (ado k.1 d ad)) ?_;refine bg ?_;refine aq.cond rfl (λae=>?_) (λae=>?_)
   ·have ae:k.1.testBit d=false:=by simpa using ae
    refine bS ?_;exact bV (⟨d+1,by rw[adt ae],rfl,ad,tP⟩)
   ·have ae:k.1.testBit d=true:=by simpa using ae
    refine bg ?_;refine aq.bL mixed ?_;refine bk.b7 0 6 60 rfl ay rfl rfl ay ?_;refine bz ?_;refine bU.bB rfl rfl rfl (af.le (af.eN rfl rfl rfl rfl) (aL.dx yM.symm)) ?_;refine bC ?_;refine aG (af.call .k (adq an tP ED)) ?_;refine bC ?_;refine aq.cond rfl (λaD=>?_) (λaD=>?_)
    ·refine aq.bL mixed ?_;refine bk.b7 0 10 60 rfl ay rfl rfl ay ?_;refine bn ?_;refine bU.bB rfl rfl rfl (af.le (af.eN rfl rfl rfl rfl) (aL.dx yM.symm)) ?_;refine bU.bB rfl rfl rfl (ob) ?_;refine bU.bB rfl rfl rfl (af.le (af.eN rfl rfl rfl rfl) (aL.dx lZ.1)) ?_;refine bC ?_;refine aG (af.bits rfl rfl rfl rfl rfl (wO _ _ (by unfold ko;split <;> omega) ad)) ?_;refine c6 ?_;exact bV (⟨d+1,by rw[<-(R7 ae aD k.2).1, <-(R7 (t:=t) ae aD k.2).2],rfl,ad,tP⟩)
    ·refine cw ?_;exact bV (⟨d+1,by rw[<-(R8 ae aD k.2).1, <-(R8 (t:=t) ae aD k.2).2],rfl,ad,tP⟩)
  ·obtain rfl:d=a7 p:=by omega
   have a6:ko p t s (gB k.1 (a7 p))=(lR p t s k).1:=by rw[Ju q8 ad,Ez q8 ad];rfl
   have aW:mi p s k.2 (gB k.1 (a7 p))=(lR p t s k).2:=by rw[Ju q8 ad,Ez q8 ad];rfl
   rw[a6,aW];refine lL ?_;exact bV (⟨i+1,lR p t s k,rfl,rfl,a1,eh.symm⟩)
 ·obtain rfl:i=path.length:=by omega
  rw[List.take_length] at ao;rw[<-ao];refine cT ?_;refine fR [.cell 8 205] (H) ?_;exact⟨dJ,rfl⟩
def r3(t:bG):Bool:=decide (t.bP.length>60) || decide (t.params.length>60) || decide (t.nodes.length>200) || decide (t.aJ.length>60) || t.params.any λl=>decide (l.length>10)
theorem adu{α:Type}[Inhabited α]{l:List α}{i:Nat}{p:α->Bool}(av:i<l.length)(h:(l.take i).any p=false)(ae:p (l.getD i default)=false):(l.take (i+1)).any p=false:=by rw[<-eE av,List.any_append,h,List.any_cons,ae];rfl
theorem adv{α:Type}[Inhabited α]{l:List α}{i:Nat}{p:α->Bool}(av:i<l.length)(ae:p (l.getD i default)=true):l.any p=true:=List.any_eq_true.2 ⟨_,cp av,ae⟩
theorem adw(A B C D:Bool):(bif bif bif A then true else B then true else C then true else D)=(A || B || C || D):=by cases A <;> cases B <;> cases C <;> rfl
theorem EK(a:Nat)(b:Nat):decide ((a:Int)>(b:Int))=decide (a>b):=by rw[Bool.eq_iff_iff];simp
theorem JX(t:bG):ba Tryz.prog 7 [aa.ef t] (.b (r3 t)):=by
 intro H;refine bh (n:=40) Tryz.func7 λB I aO=>?_;have a6:decide ((t.bP.length:Int)>60)=decide (t.bP.length>60):=EK _ 60;have aW:decide ((t.params.length:Int)>60)=decide (t.params.length>60):=EK _ 60;have cN:decide ((t.nodes.length:Int)>200)=decide (t.nodes.length>200):=EK _ 200;have gO:decide ((t.aJ.length:Int)>60)=decide (t.aJ.length>60):=EK _ 60;refine OB ?_;rw[adw,a6,aW,cN,gO];refine aq.cond rfl (λai=>?_) (λai=>?_)
 ·refine bn ?_;refine aS 2 (H) ?_;exact⟨bR (by unfold r3;rw[ai];rfl),rfl⟩
 ·have hL:t.params.length<=60:=by simp only[Bool.or_eq_false_iff,decide_eq_false_iff_not] at ai;omega
  refine bS ?_;refine cq (λm st=>∃i:Nat,st=⟨[(3,.i i),(1,.ptr (lQ t))],H⟩/\m=t.params.length - i/\i<=t.params.length/\((t.params.take i).any λl=>decide (l.length>10))=false) (⟨0,rfl,rfl,ad,rfl⟩) ?_;rintro m _ ⟨i,rfl,rfl,av,cy⟩;refine c6 ?_;refine aZ (λab=>?_) λab=>?_
  ·have a1:i<t.params.length:=by omega
   refine fk ?_;refine aZ (λae=>?_) λae=>?_
   ·have ae:decide ((t.params.getD i default).length>10)=true:=by rw[decide_eq_true_eq];omega
    refine cw ?_;refine aS 2 (H) ?_;exact⟨bR (by unfold r3;rw[adv a1 ae,Bool.or_true]),rfl⟩
   ·have ae:decide ((t.params.getD i default).length>10)=false:=by rw[decide_eq_false_iff_not];omega
    refine bs ?_;exact bV (⟨i+1,rfl,rfl,a1,adu a1 cy ae⟩)
  ·obtain rfl:i=t.params.length:=by omega
   rw[List.take_length] at cy;refine cw ?_;refine aS 2 (H) ?_;exact⟨bR (by unfold r3;rw[ai,cy];rfl),rfl⟩
end Go.Proofs.YtodccgailpkgeaaGreat

