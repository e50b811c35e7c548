/- A part of the proof. No condition. -/
import Derived.Test.YtodccgailpkgeaaGreatKindInfersP22
set_option linter.defProp false
set_option maxHeartbeats 1000000
set_option linter.unusedVariables false
set_option linter.unusedSimpArgs false
set_option maxRecDepth 10000
namespace Go.Proofs.YtodccgailpkgeaaGreat
open Go.Proofs.Tryz
open Go.Eng
open Go.Eng.Fc
open Go.Eng.dN
variable{I:List (Int×Int)}{w:World}{b:Bool}{v:Value}{r:ak}{P:Program}{ops:Array Oper}{rest:cc}{env:List (Nat×ab)}{H Hx:aA}{Q:Exit->Act->World->Prop}{f:FuncId}{p:Prog}{t:cI}{i:Nat}{s k:Int}
def ag0(b:Bool):ab:=if b then .ai 1 [] else .one
abbrev jc(b:Bool)(v:Value):ab:=.as (ag0 b) v
def x0{I:cp}{v u:Value}(h:Rel I w (jc b v) u):u=v/\(b=true->∃a nd,v= .slice a 0 nd)/\v.oneCell'=true:=by
 cases h;rename_i aK;refine⟨rfl,?_⟩;cases b with
 | true=>
  have aK:Rel I w (.ai 1 []) v:=aK;cases aK with
  | dQ=>exact⟨λ_=>⟨_,_,rfl⟩,rfl⟩
  | ai _ _ _ _ _ _ br=>cases br;exact⟨λ_=>⟨_,_,rfl⟩,rfl⟩
 | false=>
  have aK:Rel I w .one v:=aK;cases aK with
  | single _ h=>exact⟨(λh=>by cases h),h⟩
def aj.dr{c}{r}{d}(m:aD env d=some (jc b v))(h:(b=true->∃a j,v= .slice a 0 j)->v.oneCell'=true->aj c r P ops rest ⟨(d,.val v)::env,H⟩ Q):aj c r P ops rest ⟨env,H⟩ Q:=λa w s=>by
 obtain⟨I,q,o,l,g⟩:=s.mem;obtain⟨B,A,z⟩:=x0 (g d _ m);exact h A z a w ⟨s.ds,s.size,I,q,o,l,λt x f=>by
  rw[kU] at f;split at f
  ·rename_i e;cases f;subst e;rw[B];exact .val _
  ·exact g t x f⟩
def S5{I}{v u}(h:Rel I w (jc b v) u):u.oneCell'=true/\Rel I w (.val v) u:=by
 obtain⟨a,f,c⟩:=x0 h;subst a;exact⟨c,.val _⟩
def ed.clone{X}{ρ}{o}{ys}{F H':Value->aA}{x:Value->ab}(A:gD P ρ o f ys)(h:∀H,bO P f ys H (λy L=>∃v,y= .val v/\L=F v++H/\(b=true->∃a c,v= .slice a 0 c)/\v.oneCell'=true) (λ_ _=>False))(z:∀v,(F v++H).Perm (H' v))(l:∀v,x v=jc b v):ed X P H H' x ρ o:=λB I w r a G t m=>
 (Ca (c:=⟨B,I,w,0,[]⟩) A ((h H).b) G t m).mono (λv O J=>by
  obtain⟨E,Q,y,q,g,D,C,j,rfl,rfl,s,K⟩:=J;have e:j=v:=(bX C).symm;subst e;refine⟨E,q,g,D.perm (z _),?_⟩;rw[l];cases b with
  | true=>obtain⟨M,N,rfl⟩:=s rfl;exact .as _ _ (.dQ _ _ _)
  | false=>exact .as _ _ (.single _ K)) (λ_ _ h=>h.elim)
def S6{l}(g:l.length<=1000000)(H):bO prog 21 [.ints l] H (λy f=>∃v,y= .val v/\f=c6 v l++H/\(l.isEmpty=true->∃a c,v= .slice a 0 c)/\v.oneCell'=true) (λ_ _=>False):=
 (adt l g H).w6 λy f _ ⟨v,bM,bL,fh,oO⟩=>⟨v,bM,bL,λh=>fh (List.isEmpty_iff.1 h),oO⟩
def ag1{l}(g:l.length<=1000000)(H):bO prog 20 [ab.du l] H (λy f=>∃v,y= .val v/\f=fI v l++H/\(l.isEmpty=true->∃a c,v= .slice a 0 c)/\v.oneCell'=true) (λ_ _=>False):=
 (ady l g H).w6 λy f _ ⟨v,bM,bL,fh,oO⟩=>⟨v,bM,bL,λh=>fh (List.isEmpty_iff.1 h),oO⟩
def S7{vs}{ls}(a:vs.length=ls.length)(v)(l):iv (vs++[v]) (ls++[l])=iv vs ls++c6 v l:=by
 unfold iv;rw[List.length_append,List.length_singleton,List.range_succ,List.flatMap_append,List.flatMap_singleton];congr 1
 ·refine I1 λi c=>?_;have:=List.mem_range.1 c;rw[List.getD_eq_getElem?_getD,List.getElem?_append_left aa,List.getD_eq_getElem?_getD,List.getElem?_append_left aa,List.getD_eq_getElem?_getD,List.getD_eq_getElem?_getD]
 ·rw[<-a];simp only[List.getD_eq_getElem?_getD];rw[List.getElem?_append_right (Nat.le_refl _),a,List.getElem?_append_right (Nat.le_refl _)];simp
def S8{bx:Nat}{ms:List (Nat×List (Int×ab))}(aH:(bw p).isSome)(h:bf p t)(je:p2 p ms (aJ p)):bO prog 33 [.p bx 0] (.au bx 92 (ns t++cM p++cD (bS p)++[ab.gg (e7 p),ab.bm (fg p),.ai 1 (ms.map hG),(.val (.map none)),(.val (.map none)),.b false])::(gw ms++Hx)) (λr H1=>∃q:gx,q.bx=bx/\r= .bk []/\H1=bN p (bh p) q ⟨t,false⟩ Hx/\fB p q) (λ_ _=>False):=by
 refine aM (n:=65) func33 λB I bW=>?_;have gO:=ki aH;have ag2:=h.ho;have q5:=h.pl;have DH:=h.nl;have ra:=h.ai;have akS:=DQ aH;have akT:p.nodes.length<=120:=by
  obtain⟨o,bb⟩:=Option.isSome_iff_exists.1 aH;exact (sb bb).2
 have a2:=lx.nil;refine aF ?_;refine aj.mkMap rfl rfl rfl rfl (λdV=>?_);refine ax ?_;refine aB.gm (ev prog 198) (kN (bh p)) (.head _ _ _) ?_;refine aB.cw mixed ?_;refine b0.r5 (X:=n2) [⟨8,17,false⟩,⟨14,23,false⟩,⟨20,29,false⟩,⟨24,89,false⟩,⟨28,93,false⟩] (λJ=>match J with | [some a,some b,some c,some _,some _]=>.gm dV (ev prog 198) (kN (bh p))::.au bx 92 ([.val a,ab.bm t.params,.val b,ab.ints t.av]++cM p++cD (bS p)++[ab.gg (e7 p),ab.bm (fg p),.ai 1 (ms.map hG),(.val (.map (some dV))),(.val (.map none)),.b false])::(fI a t.bz++(c6 b t.nodes++(c6 c t.av++(gw ms++Hx)))) | [some a,some b,some c,some _,none]=>.gm dV (ev prog 198) (kN (bh p))::.au bx 92 ([.val a,ab.bm t.params,ab.ints t.nodes,ab.ints t.av]++cM p++cD (bS p)++[ab.gg (e7 p),ab.bm (fg p),.ai 1 (ms.map hG),(.val (.map (some dV))),(.val (.map none)),.b false])::(fI a t.bz++(c6 b t.nodes++(c6 c t.av++(gw ms++Hx)))) | [some a,some b,some c,none,none]=>.gm dV (ev prog 198) (kN (bh p))::.au bx 92 ([ab.du t.bz,ab.bm t.params,ab.ints t.nodes,ab.ints t.av]++cM p++cD (bS p)++[ab.gg (e7 p),ab.bm (fg p),.ai 1 (ms.map hG),(.val (.map (some dV))),(.val (.map none)),.b false])::(fI a t.bz++(c6 b t.nodes++(c6 c t.av++(gw ms++Hx)))) | [some a,some b,none,none,none]=>.gm dV (ev prog 198) (kN (bh p))::.au bx 92 ([ab.du t.bz,ab.bm t.params,ab.ints t.nodes,ab.ints t.av]++cM p++cD (bS p)++[ab.gg (e7 p),ab.bm (fg p),.ai 1 (ms.map hG),(.val (.map (some dV))),(.val (.map none)),.b false])::(fI a t.bz++(c6 b t.nodes++(gw ms++Hx))) | [some a,none,none,none,none]=>.gm dV (ev prog 198) (kN (bh p))::.au bx 92 ([ab.du t.bz,ab.bm t.params,ab.ints t.nodes,ab.ints t.av]++cM p++cD (bS p)++[ab.gg (e7 p),ab.bm (fg p),.ai 1 (ms.map hG),(.val (.map (some dV))),(.val (.map none)),.b false])::(fI a t.bz++(gw ms++Hx)) | _=>.gm dV (ev prog 198) (kN (bh p))::.au bx 92 ([ab.du t.bz,ab.bm t.params,ab.ints t.nodes,ab.ints t.av]++cM p++cD (bS p)++[ab.gg (e7 p),ab.bm (fg p),.ai 1 (ms.map hG),(.val (.map (some dV))),(.val (.map none)),.b false])::(gw ms++Hx)) (λj J=>match j,J with | 0,some a::_=>jc t.bz.isEmpty a | 1,_::some b::_=>jc t.nodes.isEmpty b | 2,_::_::some c::_=>jc t.av.isEmpty c | _,_=>.any) 0 29 65 rfl aq aq rfl rfl aq rfl (λ_ _ _ _ _ _ _ _ _ h=>h.elim) ?_;refine cj [[true,true,true,false,false],[true,true,false,false,false],[true,false,false,false,false],[false,false,false,false,false]] ⟨λf=>ad.move rfl rfl rfl,λf=>ad.move rfl rfl rfl,λf=>ad.move rfl rfl rfl,λf=>ad.move rfl rfl rfl,trivial⟩ ?_;refine cj [[true,true,true,true,false],[true,true,true,false,false],[true,true,false,false,false],[true,false,false,false,false],[false,false,false,false,false]] ⟨λf=>ad.move rfl rfl rfl,λf=>ad.move rfl rfl rfl,λf=>ad.move rfl rfl rfl,λf=>ad.move rfl rfl rfl,λf=>ad.move rfl rfl rfl,trivial⟩ ?_;refine cj [[true,true,true,true,true],[true,true,true,true,false],[true,true,true,false,false],[true,true,false,false,false],[true,false,false,false,false],[false,false,false,false,false]] ⟨λf=>ad.move rfl rfl rfl,λf=>ad.move rfl rfl rfl,λf=>ad.move rfl rfl rfl,λf=>ad.move rfl rfl rfl,λf=>ad.move rfl rfl rfl,λf=>ad.move rfl rfl rfl,trivial⟩ ?_;refine cj [[false,false,false,false,false]] ⟨λf=>ad.move rfl rfl rfl,trivial⟩ ?_;refine cj [[false,false,false,false,false]] ⟨λf=>fT,trivial⟩ ?_;refine cj [[false,false,false,false,false]] ⟨λf=>b5,trivial⟩ ?_;refine cj [[false,false,false,false,false]] ⟨λf=>b5,trivial⟩ ?_;refine cj [[false,false,false,false,false]] ⟨λf=>cJ,trivial⟩ ?_;refine cH.j4 0 [[false,false,false,false,false]] rfl rfl rfl aq rfl rfl rfl ⟨λf=>⟨ed.clone (F:=λv=>fI v t.bz) .k (ag1 aa) (λv=>show (fI v t.bz++(.gm dV (ev prog 198) (kN (bh p))::.au bx 92 ([ab.du t.bz,ab.bm t.params,ab.ints t.nodes,ab.ints t.av]++cM p++cD (bS p)++[ab.gg (e7 p),ab.bm (fg p),.ai 1 (ms.map hG),(.val (.map (some dV))),(.val (.map none)),.b false])::(gw ms++Hx))).Perm (.gm dV (ev prog 198) (kN (bh p))::.au bx 92 ([ab.du t.bz,ab.bm t.params,ab.ints t.nodes,ab.ints t.av]++cM p++cD (bS p)++[ab.gg (e7 p),ab.bm (fg p),.ai 1 (ms.map hG),(.val (.map (some dV))),(.val (.map none)),.b false])::(fI v t.bz++(gw ms++Hx))) from by classical exact List.perm_iff_count.2 λx=>by simp only[List.count_append,List.count_cons,List.count_nil,List.cons_append,List.nil_append,eg];omega) (λ_=>rfl),hI⟩,trivial⟩ ?_;refine cj [[true,false,false,false,false],[false,false,false,false,false]] ⟨λf=>ad.move rfl rfl rfl,λf=>ad.move rfl rfl rfl,trivial⟩ ?_;refine cj [[true,false,false,false,false],[false,false,false,false,false]] ⟨λf=>fT,λf=>fT,trivial⟩ ?_;refine cj [[true,false,false,false,false],[false,false,false,false,false]] ⟨λf=>b5,λf=>b5,trivial⟩ ?_;refine cj [[true,false,false,false,false],[false,false,false,false,false]] ⟨λf=>b5,λf=>b5,trivial⟩ ?_;refine cj [[true,false,false,false,false],[false,false,false,false,false]] ⟨λf=>cJ,λf=>cJ,trivial⟩ ?_;refine cH.j4 1 [[true,false,false,false,false]] rfl rfl rfl aq rfl rfl rfl ⟨λf=>⟨ed.clone (F:=λv=>c6 v t.nodes) .k (S6 aa) (λv=>show (c6 v t.nodes++(.gm dV (ev prog 198) (kN (bh p))::.au bx 92 ([ab.du t.bz,ab.bm t.params,ab.ints t.nodes,ab.ints t.av]++cM p++cD (bS p)++[ab.gg (e7 p),ab.bm (fg p),.ai 1 (ms.map hG),(.val (.map (some dV))),(.val (.map none)),.b false])::(fI (f 17) t.bz++(gw ms++Hx)))).Perm (.gm dV (ev prog 198) (kN (bh p))::.au bx 92 ([ab.du t.bz,ab.bm t.params,ab.ints t.nodes,ab.ints t.av]++cM p++cD (bS p)++[ab.gg (e7 p),ab.bm (fg p),.ai 1 (ms.map hG),(.val (.map (some dV))),(.val (.map none)),.b false])::(fI (f 17) t.bz++(c6 v t.nodes++(gw ms++Hx)))) from by classical exact List.perm_iff_count.2 λx=>by simp only[List.count_append,List.count_cons,List.count_nil,List.cons_append,List.nil_append,eg];omega) (λ_=>rfl),hI⟩,trivial⟩ ?_;refine cj [[true,true,false,false,false],[true,false,false,false,false],[false,false,false,false,false]] ⟨λf=>ad.move rfl rfl rfl,λf=>ad.move rfl rfl rfl,λf=>ad.move rfl rfl rfl,trivial⟩ ?_;refine cj [[true,true,false,false,false],[true,false,false,false,false],[false,false,false,false,false]] ⟨λf=>fT,λf=>fT,λf=>fT,trivial⟩ ?_;refine cj [[true,true,false,false,false],[true,false,false,false,false],[false,false,false,false,false]] ⟨λf=>b5,λf=>b5,λf=>b5,trivial⟩ ?_;refine cj [[true,true,false,false,false],[true,false,false,false,false],[false,false,false,false,false]] ⟨λf=>b5,λf=>b5,λf=>b5,trivial⟩ ?_;refine cj [[true,true,false,false,false],[true,false,false,false,false],[false,false,false,false,false]] ⟨λf=>cJ,λf=>cJ,λf=>cJ,trivial⟩ ?_;refine cH.j4 2 [[true,true,false,false,false]] rfl rfl rfl aq rfl rfl rfl ⟨λf=>⟨ed.clone (F:=λv=>c6 v t.av) .k (S6 aa) (λv=>show (c6 v t.av++(.gm dV (ev prog 198) (kN (bh p))::.au bx 92 ([ab.du t.bz,ab.bm t.params,ab.ints t.nodes,ab.ints t.av]++cM p++cD (bS p)++[ab.gg (e7 p),ab.bm (fg p),.ai 1 (ms.map hG),(.val (.map (some dV))),(.val (.map none)),.b false])::(fI (f 17) t.bz++(c6 (f 23) t.nodes++(gw ms++Hx))))).Perm (.gm dV (ev prog 198) (kN (bh p))::.au bx 92 ([ab.du t.bz,ab.bm t.params,ab.ints t.nodes,ab.ints t.av]++cM p++cD (bS p)++[ab.gg (e7 p),ab.bm (fg p),.ai 1 (ms.map hG),(.val (.map (some dV))),(.val (.map none)),.b false])::(fI (f 17) t.bz++(c6 (f 23) t.nodes++(c6 v t.av++(gw ms++Hx))))) from by classical exact List.perm_iff_count.2 λx=>by simp only[List.count_append,List.count_cons,List.count_nil,List.cons_append,List.nil_append,eg];omega) (λ_=>rfl),hI⟩,trivial⟩ ?_;refine cj [[true,true,true,false,false]] ⟨λf=>fT,trivial⟩ ?_;refine cj [[true,true,true,false,false]] ⟨λf=>b5,trivial⟩ ?_;refine cj [[true,true,true,false,false]] ⟨λf=>b5,trivial⟩ ?_;refine cH.Mq 3 [[true,true,true,false,false]] rfl rfl rfl aq rfl rfl ⟨λf u=>⟨⟨ed.BL (qH.ML (y:=jc t.bz.isEmpty (f 17)) (y':=.val (f 17)) rfl rfl rfl rfl rfl (λB I w u aU bH=>S5 bH) (.tail _ _ _ _ _ (.head _ _ _)) rfl rfl) (λ_=>rfl) (λ_=>rfl),rfl⟩,K4⟩,trivial⟩ ?_;refine cj [[true,true,true,true,false]] ⟨λf=>fT,trivial⟩ ?_;refine cj [[true,true,true,true,false]] ⟨λf=>b5,trivial⟩ ?_;refine cj [[true,true,true,true,false]] ⟨λf=>b5,trivial⟩ ?_;refine cH.Mq 4 [[true,true,true,true,false]] rfl rfl rfl aq rfl rfl ⟨λf u=>⟨⟨ed.BL (qH.ML (y:=jc t.nodes.isEmpty (f 23)) (y':=.val (f 23)) rfl rfl rfl rfl rfl (λB I w u aU bH=>S5 bH) (.tail _ _ _ _ _ (.head _ _ _)) rfl rfl) (λ_=>rfl) (λ_=>rfl),rfl⟩,K4⟩,trivial⟩ ?_;refine cH.nil (λf=>?_);simp only[kD,List.map_cons,List.map_nil,List.cons_append,List.nil_append];refine aR ?_;generalize f 17=de;generalize f 23=cY;generalize f 29=cS;refine aj.dr (d:=17) (b:=t.bz.isEmpty) (v:=de) rfl (λrj rk=>?_);refine aj.dr (d:=23) (b:=t.nodes.isEmpty) (v:=cY) rfl (λag3 ow=>?_);refine aj.dr (d:=29) (b:=t.av.isEmpty) (v:=cS) rfl (λp8 mT=>?_);refine aF ?_;apply aj.fZ rfl rfl rfl rfl rfl rfl rfl (Ce mT) (Cf mT) rfl
 (case hu=>repeat (first | exact bG.head _ _ _ | apply bG.tail));(case hfit=>rfl);(case hds=>rfl)
 refine jj ?_;refine hh 2 23 1 ?_;refine bo (λz st=>∃(i:Nat) (vs:dg) (v1:Value),st=⟨[(45,.i i),(44,.i t.params.length),(43,ab.bm t.params),(2,.as (.ai 1 (vs.map λv=>[ab.val v])) v1),(0,.p bx 0)],.own 23 1 v1::.gm dV (ev prog 198) (kN (bh p))::.au bx 92 ([.val de,ab.bm t.params,.val cY,.val cS]++cM p++cD (bS p)++[ab.gg (e7 p),ab.bm (fg p),.ai 1 (ms.map hG),(.val (.map (some dV))),(.val (.map none)),.b false])::(iv vs (t.params.take i)++(fI de t.bz++(c6 cY t.nodes++(c6 cS t.av++(gw ms++Hx)))))⟩/\z=t.params.length - i/\i<=t.params.length/\vs.length=i/\∀v∈vs,v.oneCell'=true) (⟨0,[],_,rfl,rfl,aa,rfl,λv bd=>by cases bd⟩) ?_;rintro z _ ⟨i,vs,v1,rfl,rfl,aQ,Rb,S9⟩;refine ax ?_;refine az (λaf=>?_) λaf=>?_
 ·have bF:i<t.params.length:=by omega
  obtain⟨L,e5⟩:∃L,L=t.params.getD i default:=⟨_,rfl⟩;have P:L≠ []:=by rw[e5];exact tW aH h aa
  have ar:L.length<=10:=by
   rw[e5];have:=(AW aH (bh p) (g:=⟨t,false⟩) h (i:=i) aa).2.1;show (t.params.getD i default).length<=10;have c7:((⟨t,false⟩:GT).t.params.getD i default).length=(t.params.getD i default).length:=rfl;omega
  refine aP ?_;refine ag (ad.le (ad.cF rfl rfl rfl rfl) (by rw[<-e5];exact an.refl _)) ?_;refine ax ?_;refine cE .k ((Q8 L P aa _).b) ?_;rintro _ _ ⟨v,rfl,rfl⟩;refine aj.F6 (.head _) (λj0=>?_);refine ag (ad.r8 [(true,.val v)] rfl rfl rfl rfl (by simp only[List.all_cons,List.all_nil,fa,j0];rfl) rfl rfl rfl) ?_;refine aj.dJ rfl rfl rfl rfl rfl rfl rfl rfl (an.refl _) (xI (vs:=[v]) (by intro u hu;simp at hu;rw[hu];exact j0)) (λ_=>df) cB cB (λv53=>?_);refine aY ?_;have lr:=c2 bF;rw[<-e5] at lr;have Da:iv (vs++[v]) (t.params.take (i+1))=iv vs (t.params.take i)++[.row 3 1 v L.length (L.map ab.i)]:=by
   rw[<-lr,S7 yi,c6,if_neg P]
  refine aB.perm (H':=.own 23 1 v53::.gm dV (ev prog 198) (kN (bh p))::.au bx 92 ([.val de,ab.bm t.params,.val cY,.val cS]++cM p++cD (bS p)++[ab.gg (e7 p),ab.bm (fg p),.ai 1 (ms.map hG),(.val (.map (some dV))),(.val (.map none)),.b false])::(iv (vs++[v]) (t.params.take (i+1))++(fI de t.bz++(c6 cY t.nodes++(c6 cS t.av++(gw ms++Hx)))))) (by rw[Da];exact (show _ from by classical exact List.perm_iff_count.2 λx=>by simp only[List.count_append,List.count_cons,List.count_nil,List.cons_append,List.nil_append,eg];omega)) ?_;refine aY ?_;exact aW (⟨i+1,vs++[v],v53,by rw[List.map_append],rfl,bF,by simp[Rb],λu hu=>(List.mem_append.1 hu).elim (S9 u) (λh=>by simp at h;rw[h];exact j0)⟩)
 ·obtain rfl:i=t.params.length:=by omega
  rw[List.take_length];refine ax ?_;refine aB.le 2 (y:=.ai 1 (vs.map λv=>[ab.val v])) rfl (an.e2 _ _) ?_;refine bE ?_;refine aj.mkMap rfl rfl rfl rfl (λmS=>?_);have hN:=a2.put (k:=1) ey (.fn (.func 59) [] []);refine aj.iu (u':=(.fn (.func 59) [] [])) rfl rfl (.inr rfl) rfl rfl rfl rfl rfl rfl (an.refl _) (.head _ _ _) a2 ey ?_;have im:=hN.put (k:=12) ey (.fn (.func 59) [] []);refine aj.iu (u':=(.fn (.func 59) [] [])) rfl rfl (.inr rfl) rfl rfl rfl rfl rfl rfl (an.refl _) (.head _ _ _) hN ey ?_;have gF:=im.put (k:=13) ey (.fn (.func 59) [] []);refine aj.iu (u':=(.fn (.func 59) [] [])) rfl rfl (.inr rfl) rfl rfl rfl rfl rfl rfl (an.refl _) (.head _ _ _) im ey ?_;have a0:=gF.put (k:=14) ey (.fn (.func 59) [] []);refine aj.iu (u':=(.fn (.func 59) [] [])) rfl rfl (.inr rfl) rfl rfl rfl rfl rfl rfl (an.refl _) (.head _ _ _) gF ey ?_;have Z:=a0.put (k:=15) ey (.fn (.func 59) [] []);refine aj.iu (u':=(.fn (.func 59) [] [])) rfl rfl (.inr rfl) rfl rfl rfl rfl rfl rfl (an.refl _) (.head _ _ _) a0 ey ?_;have a4:=Z.put (k:=16) ey (.fn (.func 59) [] []);refine aj.iu (u':=(.fn (.func 59) [] [])) rfl rfl (.inr rfl) rfl rfl rfl rfl rfl rfl (an.refl _) (.head _ _ _) Z ey ?_;have ac:=a4.put (k:=2) ey (.fn (.func 60) [] []);refine aj.iu (u':=(.fn (.func 60) [] [])) rfl rfl (.inr rfl) rfl rfl rfl rfl rfl rfl (an.refl _) (.head _ _ _) a4 ey ?_;have a3:=ac.put (k:=3) ey (.fn (.func 61) [] []);refine aj.iu (u':=(.fn (.func 61) [] [])) rfl rfl (.inr rfl) rfl rfl rfl rfl rfl rfl (an.refl _) (.head _ _ _) ac ey ?_;have Ta:=a3.put (k:=4) ey (.fn (.func 62) [] []);refine aj.iu (u':=(.fn (.func 62) [] [])) rfl rfl (.inr rfl) rfl rfl rfl rfl rfl rfl (an.refl _) (.head _ _ _) a3 ey ?_;have M:=Ta.put (k:=6) ey (.fn (.func 63) [] []);refine aj.iu (u':=(.fn (.func 63) [] [])) rfl rfl (.inr rfl) rfl rfl rfl rfl rfl rfl (an.refl _) (.head _ _ _) Ta ey ?_;have N:=M.put (k:=7) ey (.fn (.func 64) [] []);refine aj.iu (u':=(.fn (.func 64) [] [])) rfl rfl (.inr rfl) rfl rfl rfl rfl rfl rfl (an.refl _) (.head _ _ _) M ey ?_;have T:=N.put (k:=8) ey (.fn (.func 65) [] []);refine aj.iu (u':=(.fn (.func 65) [] [])) rfl rfl (.inr rfl) rfl rfl rfl rfl rfl rfl (an.refl _) (.head _ _ _) N ey ?_;have S:=T.put (k:=9) ey (.fn (.func 66) [] []);refine aj.iu (u':=(.fn (.func 66) [] [])) rfl rfl (.inr rfl) rfl rfl rfl rfl rfl rfl (an.refl _) (.head _ _ _) T ey ?_;have Q:=S.put (k:=11) ey (.fn (.func 66) [] []);refine aj.iu (u':=(.fn (.func 66) [] [])) rfl rfl (.inr rfl) rfl rfl rfl rfl rfl rfl (an.refl _) (.head _ _ _) S ey ?_;have O:=Q.put (k:=10) ey (.fn (.func 67) [] []);refine aj.iu (u':=(.fn (.func 67) [] [])) rfl rfl (.inr rfl) rfl rfl rfl rfl rfl rfl (an.refl _) (.head _ _ _) Q ey ?_;have K:=O.put (k:=17) ey (.fn (.func 68) [] []);refine aj.iu (u':=(.fn (.func 68) [] [])) rfl rfl (.inr rfl) rfl rfl rfl rfl rfl rfl (an.refl _) (.head _ _ _) O ey ?_;have R:=K.put (k:=5) ey (.fn (.func 69) [] []);refine aj.iu (u':=(.fn (.func 69) [] [])) rfl rfl (.inr rfl) rfl rfl rfl rfl rfl rfl (an.refl _) (.head _ _ _) K ey ?_;have pF:=R.put (k:=18) ey (.fn (.func 70) [] []);refine aj.iu (u':=(.fn (.func 70) [] [])) rfl rfl (.inr rfl) rfl rfl rfl rfl rfl rfl (an.refl _) (.head _ _ _) R ey ?_;refine aT ?_;have a6:(eP (eP (eP (eP (eP (eP (eP (eP (eP (eP (eP (eP (eP (eP (eP (eP (eP (eP [] 1 (.fn (.func 59) [] [])) 12 (.fn (.func 59) [] [])) 13 (.fn (.func 59) [] [])) 14 (.fn (.func 59) [] [])) 15 (.fn (.func 59) [] [])) 16 (.fn (.func 59) [] [])) 2 (.fn (.func 60) [] [])) 3 (.fn (.func 61) [] [])) 4 (.fn (.func 62) [] [])) 6 (.fn (.func 63) [] [])) 7 (.fn (.func 64) [] [])) 8 (.fn (.func 65) [] [])) 9 (.fn (.func 66) [] [])) 11 (.fn (.func 66) [] [])) 10 (.fn (.func 67) [] [])) 17 (.fn (.func 68) [] [])) 5 (.fn (.func 69) [] [])) 18 (.fn (.func 70) [] []))=ov:=rfl;rw[a6];refine aZ.perm (H':=dW mS ov::.own 23 1 v1::.gm dV (ev prog 198) (kN (bh p))::.au bx 92 ([.val de,.ai 1 (vs.map λv=>[ab.val v]),.val cY,.val cS]++cM p++cD (bS p)++[ab.gg (e7 p),ab.bm (fg p),.ai 1 (ms.map hG),(.val (.map (some dV))),(.val (.map (some mS))),.b false])::(iv vs t.params++(fI de t.bz++(c6 cY t.nodes++(c6 cS t.av++(gw ms++Hx)))))) (.of_eq rfl) ?_;refine aZ.perm (H':=.own 23 1 v1::.au bx 92 ([.val de,.ai 1 (vs.map λv=>[ab.val v]),.val cY,.val cS]++cM p++cD (bS p)++[ab.gg (e7 p),ab.bm (fg p),.ai 1 (ms.map hG),(.val (.map (some dV))),(.val (.map (some mS))),.b false])::((.gm dV (ev prog 198) (kN (bh p))::dW mS ov::(gw ms++(fI de t.bz++(c6 cY t.nodes++(c6 cS t.av++iv vs t.params)))))++Hx)) (by classical exact List.perm_iff_count.2 λx=>by simp only[List.count_append,List.count_cons,List.count_nil,List.cons_append,List.nil_append,eg];omega) ?_;refine gM [] (bN p (bh p) ⟨bx,de,vs,cY,cS,dV,mS,ms⟩ ⟨t,false⟩ Hx) ?_;exact⟨⟨bx,de,vs,cY,cS,dV,mS,ms⟩,rfl,rfl,rfl,⟨aH,je,by show vs.length=_;omega,λaf=>rj (List.isEmpty_iff.2 (List.eq_nil_of_length_eq_zero aa)),λaf=>p8 (List.isEmpty_iff.2 (List.eq_nil_of_length_eq_zero aa)),rk,S9,ow,mT⟩⟩
section
variable{p:Prog}{g:GT}
def jU{c}[Decidable c]{a b}(l:c->Grow p g a)(j: ¬c->Grow p g b):Grow p g (if c then a else b):=by
 by_cases h:c
 ·rw[if_pos h];exact l h
 ·rw[if_neg h];exact j h
def Tb(h:bf p g.t)(c){s}(a:0<=s/\s<p.av):Grow p g (GT.begin p c g s):=IZ h aa (DK c s)
def ag4(h:bf p g.t){n}(hn:n<p.nodes.length){c}(f:1<=c)(a:c<aJ p):Grow p g (vA p n c g):=
 (xF h hn (km f a)).trans (ri _ (h.bU n (km f a)) λg s j h=>Tb h c (DP s j).1)
def ag5(h:bf p g.t){i j}(q:i<p.methods.length+2)(a:j<(e8 g.t i).length){x}(c:fo p x):Grow p g (g.nz i j x):=by
 have m:=h.pl;have r:=h.ai;have o:=h.nl;unfold GT.nz;unfold e8 at a;by_cases l:i<g.t.params.length
 ·rw[if_pos l] at a ⊢;exact QS h aa a c
 ·rw[if_neg l] at a ⊢;by_cases f:i=g.t.params.length
  ·rw[if_pos f] at a ⊢;exact xF h aa c
  ·rw[if_neg f] at a ⊢;exact IZ h aa c
def ag6{t a}(h:bf p t)(c:bf p a){i}(m:i<p.methods.length+2):(e8 t i).length=(e8 a i).length:=by
 have j:=h.pl;have g:=c.pl;unfold e8;by_cases f:i<p.methods.length
 ·rw[if_pos (show i<t.params.length by omega),if_pos (show i<a.params.length by omega)];have:=h.jM i f;have:=c.jM i f;omega
 ·rw[if_neg (show ¬i<t.params.length by omega),if_neg (show ¬i<a.params.length by omega)];by_cases l:i=p.methods.length
  ·rw[if_pos (show i=t.params.length by omega),if_pos (show i=a.params.length by omega),h.nl,c.nl]
  ·rw[if_neg (show ¬i=t.params.length by omega),if_neg (show ¬i=a.params.length by omega)];have:=h.ai;have:=c.ai;omega
def ag7(h:bf p g.t){c to i j}(m:i<p.methods.length+2)(l:j<(e8 g.t i).length)(f:1<=to)(a:to<aJ p):Grow p g (hH c to i g j):=by
 unfold hH;exact jU (λ_=>ag5 h m l (km f a)) λ_=>.refl h
def ag8(h:bf p g.t){c to i}(a:i<p.methods.length+2)(m:1<=to)(l:to<aJ p):Grow p g (eB c to g i):=
 ri _ h λnT j o f=>ag7 f a (by rw[ag6 f h a];exact List.mem_range.1 o) m l
def ag9(h:bf p g.t)(c){to}(f:1<=to)(a:to<aJ p):Grow p g (GT.kk c to g):=
 ri _ h λnT i j l=>ag8 l (by have:=List.mem_range.1 j;have:=h.pl;omega) f a
def aha(h:bf p g.t){n}(hn:n<p.nodes.length){to}(j:1<=to)(f:to<aJ p)(c):Grow p g (iY p n to g c):=by
 unfold iY;refine jU (λ_=>.refl h) λ_=>?_;have a:=xF h hn (km j f);have b:=ag9 a.fx c j f;exact (a.trans b).trans (ri _ b.fx λg s l h=>jU (λ_=>.refl h) λ_=>Tb h to (DP s l).1)
def ahb(h:bf p g.t){n}(hn:n<p.nodes.length){to}(f:1<=to)(a:to<aJ p)(k):Grow p g (pf p n to k g):=ri _ h λg c _ h=>aha h hn f a c
def ahc(h:bf p g.t){m}(hm:m<p.methods.length){got}(j:got.length=(g.t.params.getD m default).length)(c:∀k∈got,ct (aJ p) k=true):Grow p g (nA m got g):=
 ri _ h λnT k f a=>QS a hm (by have:=List.mem_range.1 f;have:=h.jM m hm;have:=a.jM m hm;omega) (mc c k)
def ahd(m:(bw p).isSome)(h:bf p g.t){n}(hn:n<p.nodes.length){x:Int×ak}(l:0<=x.1/\x.1<p.methods.length)(j:(x.2.length:Int)=fG p (p.methods.getD x.1.toNat default).gen)(f:∀k∈x.2,ct (aJ p) k=true):Grow p g (mR p n g x):=by
 have c:x.1.toNat<p.methods.length:=by omega
 have a:=ac9 h c;have b:=ahc (got:=x.2) a.fx c (by have:=a.fx.jM _ c;unfold fG at j;omega) f;unfold mR;exact jU (λ_=>(a.trans b).trans (xF b.fx hn (mc b.fx.nb _))) λ_=>a.trans b
def ahe(j:(bw p).isSome)(h:bf p g.t){n}(hn:n<p.nodes.length){gen}{f}(a:∀k∈f,ct (aJ p) k=true)(c:(f.length:Int)=fG p gen):Grow p g (sw p n gen f g):=
 ri _ h λnT x r v=>by
  obtain⟨⟨o,l,q⟩,m,s⟩:=xD a x r;exact ahd j v hn ⟨o,l⟩ (by rw[m,c,q]) s
def ahf(h:bf p g.t)(ah){n}(hn:n<p.nodes.length)(m):Grow p g (sx p ah n m g):=ri _ h λg o _ h=>by
 unfold jO;exact jU (λ_=>xF h hn (mc h.nb _)) λ_=>.refl h
def ahg(v:(bw p).isSome)(h:bf p g.t)(ah){n}(hn:n<p.nodes.length){y}{m env}{w s}(hy:gC p y s)(r:∀k∈env,ct (aJ p) k=true)(f:∀k∈m,ct (aJ p) k=true)(o:y.op=5->(m.length:Int)=fG p y.n):Grow p g (eF p ah y n env w m g):=by
 have c:=λi=>mc f i;have N:=λ{x:Nat} (aK:fo p x)=>xF h hn aK;unfold eF;refine jU (λ_=>N (I6 p)) λ_=>?_;refine jU (λ_=>N (I7 p)) λ_=>?_;refine jU (λ_=>N (mc r _)) λ_=>?_;refine jU (λbb=>jU (λ_=>N (mc h.ff _)) λ_=>.refl h) λ_=>?_;refine jU (λbb=>ag4 h hn (po hy (.inl bb)).2.1 (po hy (.inl bb)).2.2) λ_=>?_;refine jU (λbb=>by
  unfold tT;have z:=AV hy (.inr bb);exact jU (λ_=>(N (c 1)).trans (IZ (h.bU n (c 1)) aa (c 1))) λ_=>N (c 1)) λ_=>?_
 refine jU (λbb=>ahb h hn (po hy (.inr bb)).2.1 (po hy (.inr bb)).2.2 _) λ_=>?_;refine jU (λ_=>N (c 1)) λ_=>?_;refine jU (λ_=>N (xC (c 1) (c 2))) λ_=>?_;refine jU (λ_=>N (c 0)) λ_=>?_;refine jU (λbb=>ahe v h hn f (o bb)) λ_=>?_;exact jU (λ_=>jU (λ_=>.refl h) λ_=>ahf h ah hn _) λ_=>.refl h
def Tc{R}{y:hi}{env}(hy:∀k∈y.kids,0<=k/\k<p.nodes.length)(f:∀k∈env,ct (aJ p) k=true):∀(l:ak) (i:Nat) {g:GT},(∀k∈l,k∈y.kids)->bf p g.t->
  (∀j,j<l.length->∀(e:ak) (g:GT),(∀k∈e,ct (aJ p) k=true)->(e.length=env.length+(if y.op=9/\i+j=1 then 1 else 0))->bf p g.t->Grow p g (R (l.getD j default) e g))->Grow p g (jP R y env i l g)
 | [],i,g,_,h,_=>.refl h
 | k::r,i,g,q,h,o=>by
  rw[jP];have a:Grow p g (R k (if y.op=9/\i=1 then env++[g.t.nodes.getD (y.kids.getD 0 default).toNat default] else env) g):=by
   refine o 0 aS _ g ?_ ?_ h
   ·split
    ·intro x c;rcases List.mem_append.1 c with m | m
     ·exact f x m
     ·rw[List.mem_singleton.1 m];refine xE h (hy _ (bI ?_));have:=List.length_pos_of_mem (q k dv);omega
    ·exact f
   ·rw[Nat.add_zero];split
    ·rw[List.length_append];rfl
    ·rfl
  refine a.trans (Tc hy f r (i+1) (λx c=>q x (.tail _ c)) a.fx λj w e g a s v=>?_);exact o (j+1) (by simpa using w) e g a (by rw[s,show i+1+j=i+(j+1) by omega]) v
theorem J1(v:(bw p).isSome){ah}{m}{next}:∀(f:Nat) {n:Int} {a:ak} {g:GT},h4 p next f n a.length->(∀k∈a,ct (aJ p) k=true)->bf p g.t->Grow p g (fQ p ah m f n a g)
 | 0,n,a,g,l,_,_=>l.elim
 | f+1,n,a,g,l,s,h=>by
  rw[fQ];have c:=Ak l;have A:=tS l;have o:Grow p g (jP (fQ p ah m f) (js p n) a 0 (js p n).kids g):=by
   refine Tc c s _ 0 (λx x=>x) h λj z e g o r w=>?_;have:=l.2.2 j z;refine J1 v f (next:=next) (by
    rw[Nat.zero_add] at r;rw[r];split at this
    ·rename_i q;rw[if_pos q];simpa using this
    ·rename_i q;rw[if_neg q];simpa using this) o w
  exact o.trans (ahg v o.fx ah aa (Al l).1 s (DL o.fx c) λcr=>by rw[mb,List.length_map];exact (DF l).1 (by rw[cr];rfl))
def ahh(a:(bw p).isSome)(ah)(h:bf p g.t){i}(j:i<p.methods.length):Grow p g (kL p ah g i):=by
 obtain⟨f,_,c,_⟩:=AW a ah h j;unfold kL;exact jU (λ_=>J1 a 13 f c h) λ_=>.refl h
def Td(a:(bw p).isSome)(ah)(h:bf p g.t):Grow p g ((List.range p.methods.length).foldl (kL p ah) g):=ri _ h λg m c h=>ahh a ah h (List.mem_range.1 c)
def J2(a:(bw p).isSome)(ah){t}(h:bf p t):Grow p ⟨t,false⟩ (ft p ah t):=
 (Td a ah (g:=⟨t,false⟩) h).trans (J1 a 13 (tR a).2.1 (λk c=>by cases c) (Td a ah (g:=⟨t,false⟩) h).fx)
end
def rC(m:Nat)(l:ak):Nat:=(l.map λk=>2^m - k.toNat).sum
def lK(p:Prog)(t:cI):Nat:=(t.bz.map λb=>if b then 0 else 1).sum+(t.params.map (rC (aJ p))).sum+rC (aJ p) t.nodes+rC (aJ p) t.av
theorem u5{g:Type}[Inhabited g]{f:g->Nat}:∀{a b:List g},a.length=b.length->(∀i,i<a.length->f (b.getD i default)<=f (a.getD i default))->(b.map f).sum<=(a.map f).sum
 | [],[],_,_=>Nat.le_refl _
 | x::r,y::s,m,h=>by
  have l:=h 0 aS;have j:=u5 (f:=f) (a:=r) (b:=s) (by simpa using m) λi aQ=>h (i+1) m3;simp[List.map_cons,List.sum_cons];exact Nat.add_le_add l j
theorem Et{j:Type}[Inhabited j]{f:j->Nat}:∀{a b:List j},a.length=b.length->(∀i,i<a.length->f (b.getD i default)<=f (a.getD i default))->(∃i,i<a.length/\f (b.getD i default)<f (a.getD i default))->(b.map f).sum<(a.map f).sum
 | [],[],_,_,⟨i,aQ,_⟩=>by simp at aQ
 | x::r,y::s,m,h,⟨i,aQ,g⟩=>by
  have o:f y<=f x:=h 0 aS;have l:∀i,i<r.length->f (s.getD i default)<=f (r.getD i default):=λi aQ=>h (i+1) m3;simp[List.map_cons,List.sum_cons];cases i with
  | zero=>exact Nat.add_lt_add_of_lt_of_le g (u5 (by simpa using m) l)
  | succ i=>exact Nat.add_lt_add_of_le_of_lt o (Et (by simpa using m) l ⟨i,m3,g⟩)
def ahi{a b:Nat}(h:∀c,a.testBit c=true->b.testBit c=true):a<=b:=by
 have:a ||| b=b:=Nat.eq_of_testBit_eq λc=>by
  rw[Nat.testBit_or];cases e:a.testBit c with
  | false=>simp
  | true=>rw[h c e];rfl
 rw[<-this];exact Nat.left_le_or
def ahj{m}{a b}(g:ct m a)(f:ct m b)(h:∀c,tU a c->tU b c):2^m - b.toNat<=2^m - a.toNat/\(a≠b->2^m - b.toNat<2^m - a.toNat):=by
 have j:=hT.1 g;have l:=hT.1 f;have:=ahi h;exact⟨aa,λhv=>by omega⟩
def J3{m}{a b}(j:a.length=b.length)(r:∀k∈a,ct m k=true)(q:∀k∈b,ct m k=true)(h:la a b):rC m b<=rC m a/\(a≠b->rC m b<rC m a):=by
 have f:∀i,i<a.length->_:=λi c=>ahj (r _ (bI c)) (q _ (bI (by omega:i<b.length))) (h i);refine⟨u5 j λi c=>(f i c).1,λhv=>Et j (λi c=>(f i c).1) ?_⟩;apply Classical.byContradiction;intro l;apply hv;refine p6 j λi c=>?_;apply Classical.byContradiction;intro g;exact l ⟨i,c,(f i c).2 g⟩
def ahk{a b}(l:bf p a)(j:bf p b)(h:ou a b)(t:b≠a):lK p b<lK p a:=by
 have H:=l.ho;have C:=j.ho;have G:=l.pl;have A:=j.pl;have aC:∀i,i<a.bz.length->(if b.bz.getD i default=true then 0 else 1)<=(if a.bz.getD i default=true then 0 else 1):=λi _=>by
  by_cases e:a.bz.getD i default=true
  ·rw[if_pos e,if_pos (h.r i e)];exact Nat.le_refl _
  ·rw[if_neg e];split <;> omega
 have F:=u5 (f:=λb:Bool=>if b=true then 0 else 1) (a:=a.bz) (b:=b.bz) aa aC;have q:∀i,i<a.params.length->_:=λi g=>J3 (m:=aJ p) (a:=a.params.getD i default) (b:=b.params.getD i default) (by have:=l.jM i aa;have:=j.jM i aa;omega) (l.kf _ (bI g)) (j.kf _ nm) (h.p i);have E:=u5 (f:=rC (aJ p)) (a:=a.params) (b:=b.params) aa λi g=>(q i g).1;have z:=J3 (m:=aJ p) (by rw[l.nl,j.nl]) l.nb j.nb h.n;have B:=J3 (m:=aJ p) (by have:=l.ai;have:=j.ai;omega) l.ff j.ff h.s;unfold lK;by_cases x:a.nodes=b.nodes
 ·by_cases w:a.av=b.av
  ·by_cases v:a.params=b.params
   ·have D:a.bz≠b.bz:=λe=>t (by cases a;cases b;simp only at*;subst x;subst w;subst v;subst e;rfl);have:(b.bz.map λb:Bool=>if b=true then 0 else 1).sum<(a.bz.map λb:Bool=>if b=true then 0 else 1).sum:=by
     refine Et aa aC ?_;apply Classical.byContradiction;intro o;apply D;refine p6 aa λi g=>?_;apply Classical.byContradiction;intro c;refine o ⟨i,g,?_⟩;cases bM:a.bz.getD i default with
     | true=>rw[bM,h.r i bM] at c;exact absurd rfl c
     | false=>
      cases bL:b.bz.getD i default with
      | true=>decide
      | false=>rw[bM,bL] at c;exact absurd rfl c
    omega
   ·have:(b.params.map (rC (aJ p))).sum<(a.params.map (rC (aJ p))).sum:=by
     refine Et aa (λi g=>(q i g).1) ?_;apply Classical.byContradiction;intro o;apply v;refine p6 aa λi g=>?_;apply Classical.byContradiction;intro c;exact o ⟨i,g,(q i g).2 c⟩
    omega
  ·have:=B.2 w;omega
 ·have:=z.2 x;omega
section
variable{p:Prog}(aH:(bw p).isSome=true)(ah:Nat->Nat->Bool)
include aH
def Te(h:bf p t)(a1:(ft p ah t).ch=false):(ft p ah t).t=t:=by
 have aw:=J2 aH ah h;apply Classical.byContradiction;intro hv;have:=aw.ch.2 (.inr hv);rw[a1] at this;cases this
def J4(h:bf p t)(a1:(ft p ah t).ch):lK p (ft p ah t).t<lK p t:=by
 have aw:=J2 aH ah h;exact ahk h aw.fx aw.le ((aw.ch.1 a1).resolve_left aS)
theorem Eu:∀(k:Nat) {t:cI},bf p t->lK p t<k->nB p ah k t=nB p ah (lK p t+1) t
 | 0,t,_,bD=>by omega
 | k+1,t,h,bD=>by
  rw[nB,nB];cases a1:(ft p ah t).ch with
  | false=>rfl
  | true=>
   have ae:=J4 aH ah h a1;have ao:=Es aH ah h;rw[if_pos rfl,if_pos rfl,Eu k ao aa];by_cases e:lK p t=lK p (ft p ah t).t+1
   ·rw[e]
   ·exact (Eu (lK p t) ao ae).symm
end
def eW(p:Prog):cI:=⟨List.replicate p.methods.length false,p.methods.map λM=>List.replicate (fG p M.gen).toNat 0,List.replicate p.nodes.length 0,List.replicate p.av.toNat 0⟩
def ue(p:Prog)(ah:Nat->Nat->Bool):cI:=nB p ah (lK p (eW p)+1) (eW p)
def fp.au{H}{b t}{cs}{y}(hm:.au b t cs∈H)(m:an (.ptr cs) y):fp H [.p b 0] [y]:=λB I w F J D A x z=>by
 cases z with
 | cons _ u _ G v r=>
  cases r;have:=bX v;subst this;obtain⟨E,q,g,f,_⟩:=A.ok _ (x _ hm);have C:er I w (kO w) w:=⟨λb o g=>D.there b o g,λ_ _ _=>rfl⟩;have a:=f.bs C;refine⟨kO w,λ_ _ h=>h,.cons _ _ _ _ (m _ _ _ (.ptr _ _ _ (uF g _ _ 0 a (λj u s=>by simpa using s) λj B=>?_))) .nil⟩;have c:=a.length;rw[Array.length_toList] at c;have l:j<q.size:=by rw[c];exact B
  exact⟨q[j],by rw[jC g,Nat.zero_add];exact Array.getElem?_eq_getElem l⟩
def ahl(h:p.Small){t}(f:(bw p).isSome)(ht:iV p t)(H):bO prog 32 [ab.prog p,ab.dx t] H (λy g=>∃c a,y= .bk [.p c 0,.b true]/\g= .au c 92 (sm p t (ab.gg (e7 p)) (.bm (fg p)) (.ai 1 (a.map hG)) (.val (.map none)) (.val (.map none)) (.b false))::(gw a++H)/\p2 p a (aJ p)) (λ_ _=>False):=by
 refine aM func32 λB I m=>?_;refine bR ?_;refine cE .k ((Dx h f t H).b) ?_;rintro _ _ ⟨c,a,rfl,rfl,j⟩;refine c4 ?_;refine gb (λaw=>.qF (.mk' rfl rfl rfl rfl c9) (fp.au dv (Ie _ _ _ _)) (Ih f t)) ?_;refine aY ?_;refine bc (λaf=>?_) λaf=>?_
 ·simp[ht] at af
 ·refine bY ?_;refine dL [.tmp 4,.tmp 5] (.au c 92 (sm p t (ab.gg (e7 p)) (.bm (fg p)) (.ai 1 (a.map hG)) (.val (.map none)) (.val (.map none)) (.b false))::(gw a++H)) ?_;exact⟨c,a,rfl,rfl,j⟩
def ahm(c:p.Small){t}(a:(bw p).isSome=false):aG prog 9 [ab.prog p,ab.dx t] (.bk [.b false,.i 2]):=by
 intro H;refine aM func9 λB I g=>?_;refine bR ?_;refine ag (.call .k (Dy c t a)) ?_;refine c4 ?_;refine bc (λaf=>?_) λaf=>?_
 ·refine aI ?_;refine dL [.tmp 4,.tmp 5] (H) ?_;exact⟨cO,rfl⟩
 ·simp at af
def ahn(c:p.Small){t}(a:(bw p).isSome)(ht:iV p t=false):aG prog 9 [ab.prog p,ab.dx t] (.bk [.b false,.i 2]):=by
 intro H;refine aM func9 λB I g=>?_;refine bR ?_;refine ag (.call .k (Dz c a ht)) ?_;refine c4 ?_;refine bc (λaf=>?_) λaf=>?_
 ·refine aI ?_;refine dL [.tmp 4,.tmp 5] (H) ?_;exact⟨cO,rfl⟩
 ·simp at af
def aho(f:p.Small){t}(c:(bw p).isSome)(ht:iV p t):aG prog 9 [ab.prog p,ab.dx t] (.bk [.b (!(ft p (bh p) t).ch),.i 0]):=by
 intro H;refine aM func9 λB I s=>?_;have a:=ac1.1 ht;refine bR ?_;refine cE .k ((ahl f c ht _).b) ?_;rintro _ _ ⟨o,m,rfl,rfl,j⟩;refine c4 ?_;refine bc (λaf=>?_) (λaf=>?_)
 ·simp at af
 ·refine aT ?_;refine cE .k ((S8 c a j).b) ?_;rintro _ _ ⟨q,l,rfl,rfl,h⟩;subst l;refine aT ?_;refine cE .k ((S4 (g:=⟨t,false⟩) h f a).b) ?_;rintro _ _ ⟨rfl,rfl⟩;refine ax ?_;refine aZ.cg (rs:=[.tmp 4,.tmp 5]) (H':=H) rfl (.tmp rfl (.tmp rfl (.nil))) (c0.refl _) (by exact List.Sublist.cons _ (List.sublist_append_right _ _)) ?_;exact⟨cO,rfl⟩
def J5(p:Prog)(t:cI):Bool:=!(ft p (bh p) t).ch
def Tf(a:p.Small)(t):aG prog 9 [ab.prog p,ab.dx t] (if nt p t then .bk [.b (J5 p t),.i 0] else .bk [.b false,.i 2]):=by
 unfold nt;cases aH:(bw p).isSome with
 | false=>exact ahm a aH
 | true=>
  cases ht:iV p t with
  | false=>exact ahn a aH ht
  | true=>exact aho a aH ht
def bO.pO{xs}{s a}{E}(h:bO P f xs H s E)(N:∀y r,s y r->∀B I w v,bV B I w->a7 B I w r->Rel I w y v->∃J o m,bV B J w/\Ext B I w J w/\a7 B J w m/\Rel J w o v/\a o m):bO P f xs H a E:=by
 refine⟨h.1,λB I w M L C q=>((h.2 B I w M L C q).mono λe' O l=>?_)⟩;obtain⟨K,F,g,c,j,l⟩:=l;rcases l with⟨v,x,ae,ao,aV⟩ | l
 ·obtain⟨J,o,m,z,t,G,D,A⟩:=N _ _ aV _ _ _ _ g j ao;exact⟨J,m,z,c.trans t,G,.inl ⟨v,o,ae,D,A⟩⟩
 ·exact⟨K,F,g,c,j,.inr l⟩
def a7.front{B}{I}{F Hx}(E:bV B I w)(m:a7 B I w (F++Hx)):∃J,bV B J w/\Ext B I w J w/\a7 B J w Hx/\∀t v a,.row t 1 v a.length a∈F->Rel J w (.ai 1 (a.map λx=>[x])) v:=by
 obtain⟨J,g⟩:∃J:cp,J=λb o=>I b o\/((∃e∈F,e.dY=some b)/\∃c,w.cell? ⟨b,o,none⟩=some c):=iO;have s:er I w J w:=⟨λb o h=>by rw[g];exact .inl h,λ_ _ _=>rfl⟩;refine⟨J,⟨E.base,λb o h=>by rw[g] at h;exact h.elim (E.there b o) And.right⟩,⟨s.il,s.cell,Go.RowKit.Below.refl _ _⟩,?_,λt v a D=>?_⟩
 ·refine⟨λf C=>bn.bs (m.ok f (List.mem_append_right _ C)) s (λ_ _=>rfl) (λb l o j=>?_),(List.pairwise_append.1 m.apart).2.1⟩;rw[g] at j;rcases j with j | ⟨⟨e,M,r⟩,_⟩
  ·exact j
  ·exact absurd l ((List.pairwise_append.1 m.apart).2.2 e M f C b r)
 ·have z:=m.ok _ (List.mem_append_left Hx D);obtain⟨K,O,G,L,N⟩:=y3 (els:=a.map λx=>[x]) (by rw[List.length_map,zp];exact z) (λx H=>by obtain⟨y,_,rfl⟩:=List.mem_map.1 H;rfl);refine N.bs ⟨λb o l=>?_,λ_ _ _=>rfl⟩;rw[g];rcases G b o l with q | q
  ·exact .inl q
  ·rcases L b o l with A | A
   ·exact .inl A
   ·exact .inr ⟨⟨_,D,q⟩,A⟩
def Ev{J}{a:Type}{enc:a->ab}{l:List a}(h:Rel J w (.ai 1 ((l.map enc).map λx=>[x])) v):Rel J w (.ai 1 (l.map λx=>[enc x])) v:=by rw[List.map_map] at h;exact h
section
variable{p:Prog}{ah:Nat->Nat->Bool}{q:gx}{g:GT}
def ahp(a1:fB p q)(h:bf p g.t){B}{I}{w}{Hx}{u}(hw:bV B I w)(O:a7 B I w (bN p ah q g Hx))(X:Rel I w (.agg [.val q.de,.ai 1 (q.vs.map λv=>[.val v]),.val q.cY,.val q.cS]) u):
  ∃J,bV B J w/\Ext B I w J w/\a7 B J w Hx/\Rel J w (ab.dx g.t) u:=by
 obtain⟨J,J6,K,Y,L⟩:=a7.front (F:=eo p q g.ch::eg ah q g.t) hw O;have Q:=K.keeps;have mem:∀e∈bN p ah q g [],e∈eo p q g.ch::eg ah q g.t:=λe N=>by simpa [bN] using N
 refine⟨J,J6,K,Y,?_⟩;have S:Rel J w (ab.du g.t.bz) q.de:=by
  by_cases j:g.t.bz= []
  ·obtain⟨a,c,e⟩:=a1.rj (by rw[<-h.ho,j];rfl);rw[e,j];exact .dQ _ _ _
  ·exact Ev (L 4 _ (g.t.bz.map .b) (by rw[List.length_map];exact mem _ (sy (i:=0) (List.length_pos_iff.2 j))))
 have E:∀{v:Value} {l:ak},l≠ []->.row 3 1 v l.length (l.map .i)∈bN p ah q g []->Rel J w (.ints l) v:=λbr R=>Ev (L 3 _ _ (by rw[List.length_map];exact mem _ R));have U:Rel J w (.ints g.t.nodes) q.cY:=by
  have j:g.t.nodes≠ []:=λe=>by have:=h.nl;rw[e] at this;have:=Ar a1.aH;simp at*;omega
  exact E j (nD (i:=0) (List.length_pos_iff.2 j))
 have W:Rel J w (.ints g.t.av) q.cS:=by
  by_cases j:g.t.av= []
  ·obtain⟨a,c,e⟩:=a1.p8 (by have:=h.ai;rw[j] at this;simpa using this.symm);rw[e,j];exact .dQ _ _ _
  ·exact E j (tV (i:=0) (List.length_pos_iff.2 j))
 cases X with
 | agg _ A f=>
  refine .agg _ _ ?_;generalize A.toList=l at f;cases f with | cons _ a _ l Z f=>cases f with | cons _ b _ l T f=>cases f with | cons _ c _ l M f=>cases f with | cons _ d _ l P f=>
   cases f;rw[bX Z,bX M,bX P];refine .cons _ _ _ _ S (.cons _ _ _ _ ?_ (.cons _ _ _ _ U (.cons _ _ _ _ W .nil)));refine (T.bs Q).Ct E3 λi x y m z=>?_;rw[List.getElem?_map] at m z;cases aQ:g.t.params[i]? with
   | none=>rw[aQ] at z;cases z
   | some l=>
    have r:=(List.getElem?_eq_some_iff.1 aQ).1;have j:g.t.params.getD i default=l:=by rw[List.getD_eq_getElem?_getD,aQ];rfl
    cases bd:q.vs[i]? with
    | none=>rw[bd] at m;cases m
    | some v=>
     have G:q.vs.getD i default=v:=by rw[List.getD_eq_getElem?_getD,bd];rfl
     rw[aQ] at z;rw[bd] at m;cases m;cases z;refine⟨rfl,λb o H=>?_⟩;cases H with
     | cons _ _ _ c _ C D m V=>
      refine .cons _ _ _ c _ C D ?_ (by cases V;exact .nil _ _);rw[bX m];have s:=tW a1.aH h (k:=i) (by rw[<-h.pl];exact r);have:=E s (I5 (p:=p) (ah:=ah) (q:=q) (g:=g) (Hx:=[]) r s);rw[j,G] at this;exact this
end
def Tg(n):ab.ai 1 (List.replicate n [.val (.bool false)])=ab.du (List.replicate n false):=by rw[ab.du,List.map_replicate]
def x1(n):ab.ai 1 (List.replicate n [.val aX])=ab.ints (List.replicate n 0):=by
 show _=ab.ai 1 (List.map _ _);rw[List.map_replicate]
def J7(g:(bw p).isSome):bf p (eW p):=by
 have h:ct (aJ p) 0=true:=hT.2 ⟨rfl,Nat.pow_pos c8,rfl⟩;have t:0<=p.av:=by
  obtain⟨o,f⟩:=Option.isSome_iff_exists.1 g;have a:=(iF f).1;simp[fP,Bool.and_eq_true,decide_eq_true_eq,beq_iff_eq] at a;obtain⟨⟨⟨r,w⟩,q,m⟩,v⟩:=a;omega
 refine⟨by simp[eW],by simp[eW],by simp[eW],by simp[eW];omega,λi j=>?_,λl s k c=>?_,λk c=>?_,λk c=>?_⟩
 ·have m:=tQ g j;obtain⟨o,f⟩:=Option.isSome_iff_exists.1 g;have:=(qZ (iF f).2.2.1 (bI (l:=p.cT) (k:=(p.methods.getD i default).gen.toNat) aa)).1;show (((p.methods.map λM=>List.replicate (fG p M.gen).toNat (0:Int)).getD i default).length:Int)=_;rw[sM j,List.length_replicate];unfold fG;omega
 ·obtain⟨M,_,rfl⟩:=List.mem_map.1 s;rw[List.eq_of_mem_replicate c];exact h
 ·rw[List.eq_of_mem_replicate c];exact h
 ·rw[List.eq_of_mem_replicate c];exact h
def Th(h:i<p.methods.length):ab.bm ((eW p).params.take (i+1))= .ai 1 (((eW p).params.take i).map (λx=>[.ints x])++[[.ints (List.replicate (fG p (p.methods.getD i default).gen).toNat 0)]]):=by
 have a:i<(eW p).params.length:=by simp[eW,h]
 rw[<-c2 a];have e:(eW p).params.getD i default=List.replicate (fG p (p.methods.getD i default).gen).toNat 0:=sM h;rw[e];show ab.ai 1 (List.map _ (_++_))=_;rw[List.map_append];rfl
def ahq(f:p.Small)(c:(bw p).isSome=false):aG prog 14 [ab.prog p] (.bk [ab.dx ⟨[],[],[],[]⟩,.i 2]):=by
 intro H;refine aM func14 λB I h=>?_;have a:=Dg f;rw[c] at a;refine aF ?_;refine bK (λcV=>?_);refine aF ?_;refine .scope ?_;refine aY ?_;refine ag (.call .k a) ?_;refine aF ?_;refine bc (λaf=>?_) λaf=>?_
 ·refine ba ?_;refine .wT ?_;refine .cg (rs:=[.cell 2 31,.tmp 3]) (H':=H) rfl (sP) (.cons (an.agg (.cons (an.nil 1) (.cons (an.nil 1) (.cons (an.nil 1) (.cons (an.nil 1) .nil))))) (.cons (.refl _) .nil)) bC ?_;exact⟨cO,rfl⟩
 ·simp at af
def J8(c:(bw p).isSome):0<=p.av/\p.av<=40:=by
 have f:=DQ c;obtain⟨o,g⟩:=Option.isSome_iff_exists.1 c;have a:=(iF g).1;simp[fP,Bool.and_eq_true,decide_eq_true_eq,beq_iff_eq] at a;obtain⟨⟨⟨h,m⟩,j,l⟩,q⟩:=a;omega
def ahr(L:p.Small)(aH:(bw p).isSome)(H):bO prog 14 [ab.prog p] H (λy H'=>∃(q:gx) (G:GT),y= .bk [.agg [.val q.de,.ai 1 (q.vs.map λv=>[.val v]),.val q.cY,.val q.cS],.i 0]/\H'=bN p (bh p) q G H/\fB p q/\bf p G.t/\G.t=ue p (bh p)) (λ_ _=>False):=by
 refine aM func14 λB I bW=>?_;have m:=Dg L;rw[aH] at m;have S:=ki aH;have ra:=J8 aH;have D:p.nodes.length<=120:=by
  obtain⟨o,C⟩:=Option.isSome_iff_exists.1 aH;exact (sb C).2
 have K:(eW p).params.length=p.methods.length:=by simp[eW]
 refine aF ?_;refine bK (λcV=>?_);refine aF ?_;refine .scope ?_;refine aY ?_;refine ag (.call .k m) ?_;refine aF ?_;refine bc (λaf=>?_) λaf=>?_
 ·simp at af
 ·refine aF ?_;refine .cw mixed ?_;refine .za [⟨12,4,31,[aL,aL,aL,aL],13,[ab.du (eW p).bz,.val aL,.ints (eW p).nodes,.ints (eW p).av]⟩] 0 14 60 rfl aq ay rfl rfl aq ?_;refine dD (b5) ?_;refine dD (cJ) ?_;refine dD (wc) ?_;refine dD (.eq (.tn p.methods.length rfl rfl rfl rfl rfl rfl rfl aa sY) (Tg _)) ?_;refine dD (b5) ?_;refine dD (cJ) ?_;refine dD (wc) ?_;refine dD (.eq (ad.tn p.nodes.length rfl rfl rfl rfl rfl rfl rfl aa sY) (x1 _)) ?_;refine dD (b5) ?_;refine dD (cJ) ?_;refine dD (ad.eq (ad.tn p.av.toNat rfl rfl rfl rfl rfl aa aa aa sY) (x1 _)) ?_;refine dD (ad.yv rfl rfl cC rfl) ?_;refine cH.wX [] [] ⟨12,4,31,[aL,aL,aL,aL],13,[ab.du (eW p).bz,.val aL,ab.ints (eW p).nodes,ab.ints (eW p).av]⟩ rfl ⟨0,14,ay⟩ rfl rfl rfl rfl rfl rfl rfl ?_;refine cH.wY [] [] ⟨12,4,31,[aL,aL,aL,aL],13,[ab.du (eW p).bz,.val aL,ab.ints (eW p).nodes,ab.ints (eW p).av]⟩ rfl ⟨0,14,ay⟩ rfl rfl rfl (λb H1 X hu=>.store rfl rfl rfl rfl rfl rfl rfl rfl hu e9 e9) ?_;refine cH.nil (λdR=>?_);simp only[List.map_cons,List.map_nil,List.cons_append,List.nil_append];refine b0.done rfl ?_;refine aF ?_;generalize dR 4=tb;refine aI ?_;refine aB.pJ (b:=tb) (t:=31) 23 1 1 df rfl rfl ?_;refine bo (λz st=>∃(i:Nat) (v1:Value),st=⟨[(28,.i i),(27,.i p.methods.length),(26,.ai 9 (p.methods.map eR)),(4,.p tb 0),(2,.p cV 0),(1,.ptr (cM p))],.own 23 1 v1::.au tb 31 [ab.du (eW p).bz,.as (ab.bm ((eW p).params.take i)) v1,ab.ints (eW p).nodes,ab.ints (eW p).av]::.au cV 31 [.val aL,.val aL,.val aL,.val aL]::H⟩/\z=p.methods.length - i/\i<=p.methods.length) (⟨0,_,rfl,rfl,aa⟩) ?_;rintro z _ ⟨i,v1,rfl,rfl,Z⟩;refine ax ?_;refine az (λae=>?_) λae=>?_
  ·have j:i<p.methods.length:=by omega
   obtain⟨M,da⟩:∃M,M=p.methods.getD i default:=⟨_,rfl⟩;have Y:=tQ aH j;obtain⟨A,O⟩:∃A,A=(fG p M.gen).toNat:=⟨_,rfl⟩;have N:A<=10/\0<=fG p M.gen/\(A:Int)=p.cT.getD M.gen.toNat default:=by
    obtain⟨o,C⟩:=Option.isSome_iff_exists.1 aH;have W:=(qZ (iF C).2.2.1 (bI (l:=p.cT) (k:=M.gen.toNat) E1)).2;have dP:=(qZ (iF C).2.2.1 (bI (l:=p.cT) (k:=M.gen.toNat) E1)).1;unfold fG at O ⊢;omega
   refine aI ?_;refine bK (λAm=>?_);refine aF ?_;rw[<-da];refine eA 6 ?_;refine bP 10 60 ?_;refine ax ?_;refine bg (Kz) ?_;refine aR ?_;refine bg (ad.eq (ad.tn A rfl rfl rfl rfl rfl aa aa aa sY) (x1 _)) ?_;refine eO.cn (x:=.ai 1 [[ab.ints (List.replicate A 0)]]) rfl rfl rfl (ad.row rfl rfl cC rfl rfl rfl rfl rfl rfl) ?_;refine aO ?_;refine aj.dJ rfl rfl rfl rfl rfl rfl rfl rfl (an.refl _) (rfl) (λ_=>df) cB cB (λzX=>?_);refine ba ?_;exact aW (⟨i+1,zX,by rw[Th j, <-da, <-O],rfl,j⟩)
  ·obtain rfl:i=p.methods.length:=by omega
   rw[<-K,List.take_length];refine ax ?_;refine aB.Cu df (.cons (.refl _) (.cons (an.e2 _ _) (.cons (.refl _) (.cons (.refl _) .nil)))) ?_;refine eA 4 ?_;refine aF ?_;refine cE .k ((Dx L aH (eW p) _).b) ?_;rintro _ _ ⟨bx,ms,rfl,rfl,Q⟩;refine bY ?_;refine cE .k ((S8 aH (J7 aH) Q).b) ?_;rintro _ _ ⟨q,V,rfl,rfl,f⟩;subst V;refine aF ?_;refine aB.label ?_;refine aF ?_;refine aB.Fk (λz st=>∃(G:GT),st=⟨[(7,.p q.bx 0),(2,.p cV 0),(1,.ptr (cM p))],bN p (bh p) q G (.au cV 31 [.val aL,.val aL,.val aL,.val aL]::H)⟩/\z=lK p G.t/\bf p G.t/\nB p (bh p) (lK p G.t+1) G.t=ue p (bh p)) ⟨_,_,⟨⟨_,false⟩,rfl,rfl,J7 aH,rfl⟩,hW,(List.Sublist.cons_cons _ (List.Sublist.append (List.Sublist.refl _) (List.sublist_cons_self _ _)))⟩ ?_;rintro z _ ⟨G,rfl,rfl,w,h⟩;refine aY ?_;refine cE .k ((S4 (g:=G) f L w).b) ?_;rintro _ _ ⟨rfl,rfl⟩;refine aF ?_;refine az (λao=>?_) λao=>?_
   ·have c:(ft p (bh p) G.t).ch=false:=by simpa using ao
    have nj:=Te aH (bh p) w c;rw[nB,c] at h;refine ax ?_;refine aB.perm (H':=.au cV 31 [.val aL,.val aL,.val aL,.val aL]::bN p (bh p) q (ft p (bh p) G.t) H) (by first | exact List.perm_middle (l₁:=eo p q (ft p (bh p) G.t).ch::eg (bh p) q (ft p (bh p) G.t).t) | exact (List.perm_middle (l₁:=eo p q (ft p (bh p) G.t).ch::eg (bh p) q (ft p (bh p) G.t).t)).symm) ?_;refine aT ?_;apply aj.fZ rfl rfl rfl rfl rfl rfl rfl (by simp[fa,f.rk,f.sz,f.ow,f.mT]) (by simp[dB,cG,fa,f.rk,f.sz,f.ow,f.mT]) rfl
    (case hu=>repeat (first | exact bG.head _ _ _ | apply bG.tail));(case hfit=>rfl);(case hds=>rfl)
    refine aY ?_;refine aZ.wT ?_;refine aZ.cg (rs:=[.cell 2 31,.tmp 3]) (H':=bN p (bh p) q (ft p (bh p) G.t) H) rfl (sP) (c0.refl _) (by exact List.sublist_cons_self _ _) ?_;exact⟨q,ft p (bh p) G.t,rfl,rfl,f,by rw[nj];exact w,by rw[nj];exact h⟩
   ·have c:(ft p (bh p) G.t).ch=true:=by simpa using ao
    have J:=J4 aH (bh p) w c;have r:=Es aH (bh p) w;rw[nB,c,if_pos rfl,Eu aH (bh p) _ r J] at h;refine aO ?_;exact aW (⟨ft p (bh p) G.t,rfl,rfl,r,h⟩)
def ahs(r:p.Small)(t:(bw p).isSome):aG prog 14 [ab.prog p] (.bk [ab.dx (ue p (bh p)),.i 0]):=λH=>by
 refine bO.pO (ahr r t H) ?_;rintro _ _ ⟨q,G,rfl,rfl,m,E,h⟩ B I w v C j s;cases s with
 | bk _ D c=>
  generalize A:D.toList=l at c;cases c with | cons _ a _ l z c=>cases c with | cons _ b _ l o c=>
   cases c;obtain⟨J,F,f,x,g⟩:=ahp m E C j z;rw[h] at g;exact⟨J,_,_,F,f,x,.bk _ _ (by rw[A];exact .cons _ _ _ _ g (.cons _ _ _ _ (o.bs f.keeps) .nil)),rfl,rfl⟩
def Ti(a:p.Small):aG prog 14 [ab.prog p] (if(bw p).isSome then .bk [ab.dx (ue p (bh p)),.i 0] else .bk [ab.dx ⟨[],[],[],[]⟩,.i 2]):=by
 cases aH:(bw p).isSome with
 | true=>exact ahs a aH
 | false=>exact ahq a aH
def aht(h:k<3):h2 p s (k::r)=h2 p s r:=by
 have e:kJ p k= []:=by rw[kJ,if_neg aa]
 rw[h2,e];rfl
def Tj(c:kJ p k=I)(h:I.any (λx=>x.1==s)=false):h2 p s (k::r)=h2 p s r/\I.filter (λx=>x.1==s)= []:=by
 have e:I.filter (λx=>x.1==s)= []:=List.filter_eq_nil_iff.2 λx a=>by have:=List.any_eq_false.1 h x a;simpa using this
 refine⟨?_,e⟩;rw[h2,c,e];rfl
def ahu(f:kJ p k=I)(h:I.any (λx=>x.1==s)=true):h2 p s (k::r)=I.filter (λx=>x.1==s):=by
 rw[h2,f];have e:(I.filter λx=>x.1==s).isEmpty=false:=by
  rw[<-Bool.not_eq_true,List.isEmpty_iff];intro e;obtain⟨x,a,c⟩:=List.any_eq_true.1 h;have:x∈I.filter λx=>x.1==s:=List.mem_filter.2 ⟨a,c⟩;rw[e] at this;cases this
 simp only[e];rfl
def ahv{j}(h:j<I.length)(a:((I.getD j default).1==s)=true):(I.take (j+1)).filter (λx=>x.1==s)=(I.take j).filter (λx=>x.1==s)++[I.getD j default]/\(I.take (j+1)).any (λx=>x.1==s)=true:=by
 rw[<-c2 h,List.filter_append,List.any_append];simp only[List.filter_cons,List.filter_nil,List.any_cons,a,if_true,Bool.true_or,Bool.or_true,and_self]
def ahw{j}(h:j<I.length)(a:((I.getD j default).1==s)=false):(I.take (j+1)).filter (λx=>x.1==s)=(I.take j).filter (λx=>x.1==s)/\(I.take (j+1)).any (λx=>x.1==s)=(I.take j).any (λx=>x.1==s):=by
 rw[<-c2 h,List.filter_append,List.any_append];simp only[List.filter_cons,List.filter_nil,List.any_cons,List.any_nil,a,Bool.or_false,List.append_nil,and_self,if_false,Bool.false_eq_true]
def ahx(O W)(x):ab.l6 (O++(W++[x]))= .ai 2 ((O++W).map qW++[qW x]):=by rw[<-List.append_assoc,P2]
def ahy{c g:Type}[Inhabited c](f:c->List g){l:List c}{i}(h:i<l.length):(l.take (i+1)).flatMap f=(l.take i).flatMap f++f (l.getD i default):=by
 rw[<-c2 h,List.flatMap_append];simp
theorem J9{p}{s}(n)(h:∀k∈p.aE,k.inits.length<=n):∀l:ak,(h2 p s l).length<=n
 | []=>Nat.zero_le _
 | k::r=>by
  simp[h2];split
  ·exact J9 n h r
  ·refine Nat.le_trans zx ?_;unfold kJ;split
   ·by_cases a:(k - 3).toNat<p.aE.length
    ·exact h _ (bI a)
    ·rw[List.getD_eq_getElem?_getD,List.getElem?_eq_none aa];exact Nat.zero_le _
   ·exact Nat.zero_le _
theorem Tk(c):∀(l:List (Int×Int)) (a:ak),kG c l a=true->(∀x∈l,x.1∉a)/\(l.map (·.1)).Nodup
 | [],a,h=>⟨λx f=>by(cases f),.nil⟩
 | y::r,a,h=>by
  simp[kG,Bool.and_eq_true,Bool.not_eq_true',List.contains_eq_mem,decide_eq_false_iff_not] at h;obtain⟨j,m⟩:=Tk c r _ h.2;refine⟨λx f=>?_,?_⟩
  ·rcases List.mem_cons.1 f with rfl | f
   ·exact h.1.1.2
   ·exact λe=>j x f (List.mem_append_left _ e)
  ·rw[List.map_cons,List.nodup_cons];refine⟨λe=>?_,m⟩;obtain⟨x,f,g⟩:=List.mem_map.1 e;exact j x f (by rw[g];simp)
def Tl{c}(h:eH p c):∀k∈p.aE,k.inits.length<=20000:=by
 obtain⟨⟨t,w⟩,j⟩:=ve h;have q:(bw p).isSome=true:=by unfold eH at h;rw[Bool.and_eq_true] at h;exact h.2
 have a:=j;simp only[fP,Bool.and_eq_true,decide_eq_true_eq] at a;intro k s;obtain⟨i,m,rfl⟩:=List.mem_iff_getElem.1 s;have e:p.aE.getD i default=p.aE[i]:=by rw[List.getD_eq_getElem?_getD,List.getElem?_eq_getElem m];rfl
 have g:=List.all_eq_true.1 a.2 i (List.mem_range.2 m);rw[nr,Bool.and_eq_true,e] at g;have l:=(Tk _ _ _ g.2).2;have f:=HW _ _ _ g.2;have v:=(o7 (p:=p) (c:=(i:Int)+3) (by unfold eH;rw[q,Bool.and_true,Bool.and_eq_true,decide_eq_true_eq,decide_eq_true_eq];omega)).br;have:=List.Nodup.length_le_of_subset l (l₂:=cu p ((i:Int)+3)) (λy r=>by obtain⟨x,o,rfl⟩:=List.mem_map.1 r;exact f x o);rw[List.length_map] at this;omega
def ahz(ck:p.Small){c}(bb:eH p c):aG prog 191 [ab.prog p,.i c] (ab.l6 (mN p c)):=by
 intro H;refine aM func191 λB I bW=>?_;have a3:=o7 bb;obtain⟨aV,P,gF,V,a5,A,im,bF,T,a0,Z,a9⟩:=o7 bb;have o:=Tl bb;have aH:(bw p).isSome=true:=by unfold eH at bb;rw[Bool.and_eq_true] at bb;exact bb.2
 have dV:(b9 p).length=p.aE.length:=by simp[b9]
 refine ba ?_;refine ag (.call .k (HD p aa (λc h=>(V c h).1))) ?_;refine aR ?_;refine ag (.call .k (Pv A aa aa)) ?_;refine bE ?_;refine ag (.call .k (HS ck aH aV P)) ?_;refine eb ?_;refine hh 8 101 2 ?_;refine bo (λm C=>∃(i:Nat) (v:Value) (O:List (Int×Int)),C=⟨[(9,.i i),(8,.as (ab.l6 O) v),(7,.ints (cu p c)),(5,.ints (dE (b9 p) c)),(2,.ptr (cM p))],.own 101 2 v::H⟩/\m=(cu p c).length - i/\i<=(cu p c).length/\O=(((cu p c).take i).flatMap λs=>h2 p s (dE (b9 p) c))/\O.length<=i*20000) ⟨0,_,[],rfl,rfl,aa,rfl,aS⟩ ?_;rintro m _ ⟨i,v,O,rfl,rfl,aQ,J,fw⟩;refine ba ?_;refine az (λaf=>?_) λaf=>?_
 ·have E:i<(cu p c).length:=by omega
  obtain⟨s,b6⟩:∃s,s=(cu p c).getD i default:=iO;have F:=ahy (λs=>h2 p s (dE (b9 p) c)) E;rw[<-b6, <-J] at F;have N:=J9 (s:=s) 20000 o;refine eb ?_;refine bo (λm C=>∃(k:Nat) (z:Bool) (v:Value) (W:List (Int×Int)),C=⟨[(11,.i k),(10,.b z),(9,.i i),(8,.as (ab.l6 (O++W)) v),(7,.ints (cu p c)),(5,.ints (dE (b9 p) c)),(2,.ptr (cM p))],.own 101 2 v::H⟩/\m=(dE (b9 p) c).length - k/\k<=(dE (b9 p) c).length/\(z=true->W=h2 p s (dE (b9 p) c))/\(z=false->W= []/\h2 p s (dE (b9 p) c)=h2 p s ((dE (b9 p) c).drop k))) (⟨0,false,v,[],by rw[List.append_nil],rfl,aa,λh=>(by cases h),λ_=>zr⟩) ?_;rintro m _ ⟨k,z,v,W,rfl,rfl,bD,Y,D⟩;refine dk ?_;refine az (λae=>?_) λae=>?_
  ·have a:k<(dE (b9 p) c).length/\z=false:=by revert ae;cases z <;> simp <;> omega
   obtain⟨a,rfl⟩:=a;obtain⟨rfl,g⟩:=D rfl;obtain⟨q,l⟩:∃q,q=(dE (b9 p) c).getD k default:=iO;have hN:=T q (l▸bI a);have S:(dE (b9 p) c).drop k=q::(dE (b9 p) c).drop (k+1):=by rw[l];exact u4 a
   rw[S] at g;refine ax ?_;refine bP 5 81 ?_;refine aP ?_;refine ag (.call .k (aat p aa _)) ?_;refine aF ?_;rw[<-l];refine az (λao=>?_) λao=>?_
   ·have w:q<3:=by revert ao;simp <;> omega
    refine ba ?_;exact aW (⟨k+1,false,v,[],rfl,rfl,a,λh=>(by cases h),λ_=>⟨rfl,by rw[g,aht w]⟩⟩)
   ·have w:3<=q:=by revert ao;simp <;> omega
    have K:(q - 3).toNat<p.aE.length:=by omega
    obtain⟨I,M⟩:∃I,I=(p.aE.getD (q - 3).toNat default).inits:=iO;have a2:I.length<=20000:=M▸o _ (bI K);have t:kJ p q=I:=by rw[P0 w,M]
    refine aF ?_;refine bP 7 81 ?_;refine ax ?_;refine bg (.arith rfl rfl rfl rfl rfl rfl (wrap64 (by rw[<-l];omega))) ?_;refine aO ?_;refine ag ((by first | exact .fC rfl rfl rfl rfl rfl ⟨by rw[<-l];omega,by rw[<-l];omega⟩ | exact .ep rfl rfl rfl rfl rfl ⟨by rw[<-l];omega,by rw[<-l];omega⟩)) ?_;refine ax ?_;rw[<-l, <-M];refine aT ?_;refine bo (λm C=>∃(j:Nat) (v:Value),C=⟨[(13,.i j),(12,ab.l6 I),(11,.i k),(10,.b ((I.take j).any λx=>x.1==s)),(9,.i i),(8,.as (ab.l6 (O++((I.take j).filter λx=>x.1==s))) v),(7,.ints (cu p c)),(5,.ints (dE (b9 p) c)),(2,.ptr (cM p))],.own 101 2 v::H⟩/\m=I.length - j/\j<=I.length) ⟨0,v,rfl,rfl,aa⟩ ?_;rintro m _ ⟨j,v,rfl,rfl,cm⟩;refine ba ?_;refine az (λaV=>?_) λaV=>?_
    ·have f:j<I.length:=by omega
     have G:=ahv (s:=s) f;have U:=ahw (s:=s) f;refine aT ?_;refine bP 9 81 ?_;refine c4 ?_;rw[<-b6];refine bc (λbu=>?_) λbu=>?_
     ·obtain⟨R,Q⟩:=G bu;refine bE ?_;refine .cn (x:=.ai 2 [qW (I.getD j default)]) rfl rfl rfl h7 ?_;refine aj.dJ rfl rfl rfl rfl rfl rfl rfl rfl (an.refl _) (rfl) (λ_=>df) Ku Ku λahA=>?_;refine ba ?_;exact aW (⟨j+1,ahA,by rw[R,Q,ahx],rfl,f⟩)
     ·obtain⟨L,X⟩:=U bu;refine aI ?_;exact aW ⟨j+1,v,by rw[L,X],rfl,f⟩
    ·obtain rfl:j=I.length:=by omega
     rw[List.take_length];refine bE ?_;exact aW (⟨k+1,I.any (λx=>x.1==s),v,I.filter (λx=>x.1==s),rfl,rfl,a,λh=>by rw[g,ahu t h],λh=>⟨(Tj (r:=[]) t h).2,by rw[g,(Tj t h).1]⟩⟩)
  ·have q7:W=h2 p s (dE (b9 p) c):=by
    cases z with
    | true=>exact Y rfl
    | false=>
     obtain⟨bM,bL⟩:=D rfl;have:k=(dE (b9 p) c).length:=by revert ae;simp;omega
     rw[bM,bL,this,List.drop_length];rfl
   subst q7;refine bE ?_;exact aW (⟨i+1,v,_,rfl,rfl,E,F.symm,by have c7:=N (dE (b9 p) c);rw[List.length_append,Nat.succ_mul];omega⟩)
 ·obtain rfl:i=(cu p c).length:=by omega
  rw[List.take_length] at J;refine bR ?_;refine .cg (rs:=[.tmp 4]) (H':=H) rfl eQ CB bC ?_;exact⟨by rw[J];rfl,rfl⟩
def ih(q:gx)(t:cI):aA:=fI q.de t.bz++(c6 q.cY t.nodes++(c6 q.cS t.av++iv q.vs t.params))
abbrev ahB(p:Prog)(q:gx)(A:List cW):bl:=cM p++([.val q.de,.ai 1 (q.vs.map λv=>[.val v]),.val q.cY,.val q.cS]++[ab.gg A])
abbrev lg(p:Prog)(q:gx)(A:List cW):bn:=.au q.bx 152 (ahB p q A)
abbrev cR(p:Prog)(A:List cW)(q:gx)(g:GT)(Hx:aA):aA:=lg p q A::(ih q g.t++Hx)
def Tm(q)(t:cI)(Hx):∃A C,∀l,l≠ []->ih q {t with nodes:=l}++Hx=A++.row 3 1 q.cY l.length (l.map .i)::C:=
 ⟨fI q.de t.bz,c6 q.cS t.av++iv q.vs t.params++Hx,λl h=>by simp[ih,c6,h]⟩
def Tn(q)(t:cI)(Hx):∃A C,∀l,l≠ []->ih q {t with av:=l}++Hx=A++.row 3 1 q.cS l.length (l.map .i)::C:=
 ⟨fI q.de t.bz++c6 q.cY t.nodes,iv q.vs t.params++Hx,λl h=>by simp[ih,c6,h]⟩
def To(q)(t:cI)(Hx):∃A C,∀l,l≠ []->ih q {t with bz:=l}++Hx=A++.row 4 1 q.de l.length (l.map .b)::C:=
 ⟨[],c6 q.cY t.nodes++(c6 q.cS t.av++iv q.vs t.params)++Hx,λl h=>by simp[ih,fI,h]⟩
def Tp(q)(t:cI)(Hx){k}(o:k<t.params.length):∃A C,∀l,l≠ []->ih q {t with params:=t.params.set k l}++Hx=A++.row 3 1 (q.vs.getD k default) l.length (l.map .i)::C:=by
 obtain⟨A,C,h⟩:=QY q.vs o;exact⟨fI q.de t.bz++(c6 q.cY t.nodes++(c6 q.cS t.av++A)),C++Hx,λl g=>by simp[ih,h,c6,g]⟩
section
variable{p:Prog}{A:List cW}{q:gx}{g:GT}{Hx:aA}
def gP(h:i<g.t.nodes.length):.row 3 1 q.cY g.t.nodes.length (g.t.nodes.map .i)∈cR p A q g Hx:=by
 obtain⟨A,C,e⟩:=Tm q g.t Hx;have:=e g.t.nodes (ne_of_lt h);show _∈_::(ih q {g.t with nodes:=g.t.nodes}++Hx);rw[this];simp
def lh(h:i<g.t.av.length):.row 3 1 q.cS g.t.av.length (g.t.av.map .i)∈cR p A q g Hx:=by
 obtain⟨A,C,e⟩:=Tn q g.t Hx;have:=e g.t.av (ne_of_lt h);show _∈_::(ih q {g.t with av:=g.t.av}++Hx);rw[this];simp
def vX(h:i<g.t.bz.length):.row 4 1 q.de g.t.bz.length (g.t.bz.map .b)∈cR p A q g Hx:=by
 obtain⟨A,C,e⟩:=To q g.t Hx;have:=e g.t.bz (ne_of_lt h);show _∈_::(ih q {g.t with bz:=g.t.bz}++Hx);rw[this];simp
def qj{k i}(f:k<g.t.params.length)(h:i<(g.t.params.getD k default).length):.row 3 1 (q.vs.getD k default) (g.t.params.getD k default).length ((g.t.params.getD k default).map .i)∈cR p A q g Hx:=by
 obtain⟨A,C,e⟩:=Tp q g.t Hx f;have:=e (g.t.params.getD k default) (ne_of_lt h);rw[(p7 f).2 rfl] at this;show _∈_::(ih q {g.t with params:=g.t.params}++Hx);rw[this];simp
def Ew{c}{r}{o}{agg}{t tb i}{x z}{cs}{y}{B w}{A0 C0}{H H2}{ds}[ht:cX P t (agg,1)](j:o.guard=none)(K:o.dst=none)(h:o.op= .store t x z)
  (E:aN (aD env) x=some (B,.val (j5 v i 1))) (s:B=true) (G:aN (aD env) z=some (w,y)) (D:w=true) (C:fa y) (I:dB (cG y)) (g:Nat.beq (cG y).length 1) (F:i<cs.length)
  (J:H=lg p q A::(A0++.row tb 1 v cs.length cs::C0)) (hds:∀a,(cs++a).take i++cG y++(cs++a).drop (i+1)=ds++a) (l:ds.length=cs.length) (m:lg p q A::(A0++.row tb 1 v cs.length ds::C0)=H2)
  (next:aj c r P ops rest ⟨env,H2⟩ Q):aj c r P ops (o::rest) ⟨env,H⟩ Q:=by
 subst J;subst m;exact .MK (i:=i) (H':=λe=>lg p q A::(A0++e::C0)) (ds:=ds) j K h E s G D C I g (λe=>.tail _ _ _ _ _ (.under A0)) (λe L=>.tail _ _ _ _ _ (.under A0)) F rfl hds l next
section
variable{c:Ctx}{r:Option Nat}{P:Program}{ops:Array Oper}{rest:cc}{o:Oper}{env:List (Nat×ab)}{Q:Exit->Act->World->Prop}{agg:Bool}{t i:Nat}{pp z:Operand}{ll uf:Bool}{x:Nat}{y:Int}
def AX[ht:cX P t (agg,1)](a:o.guard=none)(s:o.dst=none)(h:o.op= .store t pp z)
  (v:aN (aD env) pp=some (ll,.val (j5 q.cY i 1))) (f:ll=true) (l:aN (aD env) z=some (uf,.i y)) (m:uf=true) (aQ:i<g.t.nodes.length) (hy:y=pe (g.t.nodes.getD i default) x)
  (next:aj c r P ops rest ⟨env,cR p A q (g.bU i x) Hx⟩ Q):aj c r P ops (o::rest) ⟨env,cR p A q g Hx⟩ Q:=by
 obtain⟨A0,C0,e⟩:=Tm q g.t Hx;subst hy;refine Ew (p:=p) (A:=A) (q:=q) (cs:=g.t.nodes.map .i) (ds:=(hc g.t.nodes i x).map .i) (A0:=A0) (C0:=C0) (tb:=3) a s h v f l m rfl rfl rfl m3 ?_ (λmore=>DM aQ _ more) (by simp[kM]) ?_ next
 ·rw[List.length_map];exact congrArg (lg p q A::·) (e g.t.nodes (ne_of_lt aQ))
 ·have:=e (hc g.t.nodes i x) (ne_of_lt (i:=i) (by rw[kM];exact aQ));rw[List.length_map, <-kM g.t.nodes i x];exact congrArg (lg p q A::·) this.symm
def Ex[ht:cX P t (agg,1)](a:o.guard=none)(s:o.dst=none)(h:o.op= .store t pp z)
  (v:aN (aD env) pp=some (ll,.val (j5 q.cS i 1))) (f:ll=true) (l:aN (aD env) z=some (uf,.i y)) (m:uf=true) (aQ:i<g.t.av.length) (hy:y=pe (g.t.av.getD i default) x)
  (next:aj c r P ops rest ⟨env,cR p A q (g.eL i x) Hx⟩ Q):aj c r P ops (o::rest) ⟨env,cR p A q g Hx⟩ Q:=by
 obtain⟨A0,C0,e⟩:=Tn q g.t Hx;subst hy;refine Ew (p:=p) (A:=A) (q:=q) (cs:=g.t.av.map .i) (ds:=(hc g.t.av i x).map .i) (A0:=A0) (C0:=C0) (tb:=3) a s h v f l m rfl rfl rfl m3 ?_ (λmore=>DM aQ _ more) (by simp[kM]) ?_ next
 ·rw[List.length_map];exact congrArg (lg p q A::·) (e g.t.av (ne_of_lt aQ))
 ·have:=e (hc g.t.av i x) (ne_of_lt (i:=i) (by rw[kM];exact aQ));rw[List.length_map, <-kM g.t.av i x];exact congrArg (lg p q A::·) this.symm
def Tq{k}[ht:cX P t (agg,1)](a:o.guard=none)(v:o.dst=none)(h:o.op= .store t pp z)
  (w:aN (aD env) pp=some (ll,.val (j5 (q.vs.getD k default) i 1))) (f:ll=true) (m:aN (aD env) z=some (uf,.i y)) (s:uf=true) (l:k<g.t.params.length) (aQ:i<(g.t.params.getD k default).length) (hy:y=pe ((g.t.params.getD k default).getD i default) x)
  (next:aj c r P ops rest ⟨env,cR p A q (g.ic k i x) Hx⟩ Q):aj c r P ops (o::rest) ⟨env,cR p A q g Hx⟩ Q:=by
 obtain⟨A0,C0,e⟩:=Tp q g.t Hx l;subst hy;refine Ew (p:=p) (A:=A) (q:=q) (cs:=(g.t.params.getD k default).map .i) (ds:=(hc (g.t.params.getD k default) i x).map .i) (A0:=A0) (C0:=C0) (tb:=3) a v h w f m s rfl rfl rfl m3 ?_ (λmore=>DM aQ _ more) (by simp[kM]) ?_ next
 ·have:=e (g.t.params.getD k default) (ne_of_lt aQ);rw[(p7 l).2 rfl] at this;rw[List.length_map];exact congrArg (lg p q A::·) this
 ·have:=e (hc (g.t.params.getD k default) i x) (ne_of_lt (i:=i) (by rw[kM];exact aQ));rw[List.length_map, <-kM (g.t.params.getD k default) i x];exact congrArg (lg p q A::·) this.symm
def ahC[ht:cX P t (agg,1)](a:o.guard=none)(s:o.dst=none)(h:o.op= .store t pp z)
  (v:aN (aD env) pp=some (ll,.val (j5 q.de i 1))) (f:ll=true) (l:aN (aD env) z=some (uf,.b true)) (m:uf=true) (aQ:i<g.t.bz.length)
  (next:aj c r P ops rest ⟨env,cR p A q (g.reach i) Hx⟩ Q):aj c r P ops (o::rest) ⟨env,cR p A q g Hx⟩ Q:=by
 obtain⟨A0,C0,e⟩:=To q g.t Hx;refine Ew (p:=p) (A:=A) (q:=q) (cs:=g.t.bz.map .b) (ds:=(g.t.bz.set i true).map .b) (A0:=A0) (C0:=C0) (tb:=4) a s h v f l m rfl rfl rfl m3 ?_ (λmore=>JV aQ true more) aS ?_ next
 ·rw[List.length_map];exact congrArg (lg p q A::·) (e g.t.bz (ne_of_lt aQ))
 ·have:=e (g.t.bz.set i true) (ne_of_lt (i:=i) (by rw[List.length_set];exact aQ));rw[List.length_set] at this;rw[List.length_map];exact congrArg (lg p q A::·) this.symm
end
end
structure jd(p:Prog)(q:gx):Prop where
 aH:(bw p).isSome=true
 oH:q.vs.length=p.methods.length
 rj:p.methods.length=0->∃a c,q.de= .slice a 0 c
 p8:p.av=0->∃a c,q.cS= .slice a 0 c
 rk:q.de.oneCell'=true
 sz:∀v∈q.vs,v.oneCell'=true
 ow:q.cY.oneCell'=true
 mT:q.cS.oneCell'=true
def jd.many{q}(h:jd p q):aJ p<=13:=nx h.aH
def ahD{L}:(e1 L s).isSome=(L.map (·.1)).contains s:=by
 unfold e1;rw[Option.isSome_map,Bool.eq_iff_iff,List.find?_isSome,List.contains_iff_mem];simp[List.mem_reverse,List.mem_map,beq_iff_eq]
def ahE{c:Nat}(l:eH p c){s}(g:s∈cu p c):p5 p c s=if((mN p c).map (·.1)).contains s then 2 else 4:=by
 have f:((nv p c).map (·.1)).contains s=((mN p c).map (·.1)).contains s:=by
  rw[<-ahD (L:=mN p c),aa1 g,Bool.eq_iff_iff,List.contains_iff_mem,List.mem_map];unfold nv;constructor
  ·rintro⟨x,j,rfl⟩;obtain⟨y,m,a⟩:=List.mem_filterMap.1 j;cases br:e1 (kR p c) y with
   | none=>rw[br] at a;cases a
   | some n=>rw[br] at a;cases a;rw[br];rfl
  ·intro h;obtain⟨n,hn⟩:=Option.isSome_iff_exists.1 h;exact⟨(s,n),List.mem_filterMap.2 ⟨s,g,s0⟩,rfl⟩
 unfold p5;rw[l,if_pos rfl,f]
end Go.Proofs.YtodccgailpkgeaaGreat

