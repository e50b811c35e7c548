/- A part of the proof. No condition. -/
import Derived.Test.YtodccgailpkgeaaGreatKindClosesP22
set_option linter.defProp false
set_option maxHeartbeats 1000000
set_option linter.unusedVariables false
set_option linter.unusedSimpArgs false
set_option maxRecDepth 10000
namespace Go.Proofs.YtodccgailpkgeaaGreat
open Go.Proofs.Tryz
open Go.Eng
open Go.Eng.Fc
open Go.Eng.dO
variable{I:List (Int×Int)}{w:World}{b:Bool}{v:Value}{r:al}{P:Program}{ops:Array Oper}{rest:cg}{env:List (Nat×ab)}{H Hx:aC}{Q:Exit->Act->World->Prop}{f:FuncId}{p:Prog}{t:cv}{i:Nat}{s k:Int}
def ahQ(b:Bool):ab:=if b then .aj 1 [] else .one
abbrev jn(b:Bool)(v:Value):ab:=.as (ahQ b) v
def x8{I:cr}{v u:Value}(h:Rel I w (jn b v) u):u=v/\(b=true->∃a nt,v= .slice a 0 nt)/\v.oneCell'=true:=by
 cases h;rename_i aK;refine⟨rfl,?_⟩;cases b with
 | true=>
  have aK:Rel I w (.aj 1 []) v:=aK;cases aK with
  | dQ=>exact⟨λ_=>⟨_,_,rfl⟩,rfl⟩
  | aj _ _ _ _ _ _ bq=>cases bq;exact⟨λ_=>⟨_,_,rfl⟩,rfl⟩
 | false=>
  have aK:Rel I w .one v:=aK;cases aK with
  | single _ h=>exact⟨(λh=>by cases h),h⟩
def ai.dv{c}{r}{d}(m:aE env d=some (jn b v))(h:(b=true->∃a j,v= .slice a 0 j)->v.oneCell'=true->ai c r P ops rest ⟨(d,.val v)::env,H⟩ Q):ai c r P ops rest ⟨env,H⟩ Q:=λa w s=>by
 obtain⟨I,q,o,l,g⟩:=s.mem;obtain⟨B,A,z⟩:=x8 (g d _ m);exact h A z a w ⟨s.ds,s.size,I,q,o,l,λt x f=>by
  rw[k6] at f;split at f
  ·rename_i e;cases f;subst e;rw[B];exact .val _
  ·exact g t x f⟩
def TH{I}{v u}(h:Rel I w (jn b v) u):u.oneCell'=true/\Rel I w (.val v) u:=by
 obtain⟨a,f,c⟩:=x8 h;subst a;exact⟨c,.val _⟩
def ee.clone{X}{ρ}{o}{ys}{F H':Value->aC}{x:Value->ab}(A:gG P ρ o f ys)(h:∀H,bP P f ys H (λy L=>∃v,y= .val v/\L=F v++H/\(b=true->∃a c,v= .slice a 0 c)/\v.oneCell'=true) (λ_ _=>False))(z:∀v,(F v++H).Perm (H' v))(l:∀v,x v=jn b v):ee X P H H' x ρ o:=λB I w r a G t m=>
 (Cm (c:=⟨B,I,w,0,[]⟩) A ((h H).b) G t m).mono (λv O J=>by
  obtain⟨E,Q,y,q,g,D,C,j,rfl,rfl,s,K⟩:=J;have e:j=v:=(bZ C).symm;subst e;refine⟨E,q,g,D.perm (z _),?_⟩;rw[l];cases b with
  | true=>obtain⟨M,N,rfl⟩:=s rfl;exact .as _ _ (.dQ _ _ _)
  | false=>exact .as _ _ (.single _ K)) (λ_ _ h=>h.elim)
def TI{l}(g:l.length<=1000000)(H):bP prog 21 [.ints l] H (λy f=>∃v,y= .val v/\f=db v l++H/\(l.isEmpty=true->∃a c,v= .slice a 0 c)/\v.oneCell'=true) (λ_ _=>False):=
 (aek l g H).w8 λy f _ ⟨v,bM,bJ,e6,ns⟩=>⟨v,bM,bJ,λh=>e6 (List.isEmpty_iff.1 h),ns⟩
def ahR{l}(g:l.length<=1000000)(H):bP prog 20 [ab.dy l] H (λy f=>∃v,y= .val v/\f=fH v l++H/\(l.isEmpty=true->∃a c,v= .slice a 0 c)/\v.oneCell'=true) (λ_ _=>False):=
 (aep l g H).w8 λy f _ ⟨v,bM,bJ,e6,ns⟩=>⟨v,bM,bJ,λh=>e6 (List.isEmpty_iff.1 h),ns⟩
def TJ{vs}{ls}(a:vs.length=ls.length)(v)(l):iD (vs++[v]) (ls++[l])=iD vs ls++db v l:=by
 unfold iD;rw[List.length_append,List.length_singleton,List.range_succ,List.flatMap_append,List.flatMap_singleton];congr 1
 ·refine Jn λi c=>?_;have:=List.mem_range.1 c;rw[List.getD_eq_getElem?_getD,List.getElem?_append_left aa,List.getD_eq_getElem?_getD,List.getElem?_append_left aa,List.getD_eq_getElem?_getD,List.getD_eq_getElem?_getD]
 ·rw[<-a];simp only[List.getD_eq_getElem?_getD];rw[List.getElem?_append_right (Nat.le_refl _),a,List.getElem?_append_right (Nat.le_refl _)];simp
def TK{bz:Nat}{ms:List (Nat×List (Int×ab))}(aD:(bu p).isSome)(h:bf p t)(jq:p8 p ms (aG p)):bP prog 33 [.p bz 0] (.au bz 92 (jU t++cH p++cB (bR p)++[ab.gz (e8 p),ab.bp (fh p),.aj 1 (ms.map hJ),(.val (.map none)),(.val (.map none)),.b false])::(gA ms++Hx)) (λr H1=>∃q:gB,q.bz=bz/\r= .bj []/\H1=bO p (bk p) q ⟨t,false⟩ Hx/\fB p q) (λ_ _=>False):=by
 refine aM (n:=65) func33 λB I bN=>?_;have gk:=jY aD;have ahS:=h.hp;have p6:=h.pl;have Av:=h.nl;have nG:=h.aj;have alP:=D3 aD;have alQ:p.nodes.length<=120:=by
  obtain⟨o,bb⟩:=Option.isSome_iff_exists.1 aD;exact (sk bb).2
 have a2:=lI.nil;refine aH ?_;refine ai.mkMap rfl rfl rfl rfl (λdU=>?_);refine ay ?_;refine aA.gn (ev prog 198) (kX (bk p)) (.head _ _ _) ?_;refine aA.cu mixed ?_;refine bW.sd (X:=ob) [⟨8,17,false⟩,⟨14,23,false⟩,⟨20,29,false⟩,⟨24,89,false⟩,⟨28,93,false⟩] (λJ=>match J with | [some a,some b,some c,some _,some _]=>.gn dU (ev prog 198) (kX (bk p))::.au bz 92 ([.val a,ab.bp t.params,.val b,ab.ints t.aw]++cH p++cB (bR p)++[ab.gz (e8 p),ab.bp (fh p),.aj 1 (ms.map hJ),(.val (.map (some dU))),(.val (.map none)),.b false])::(fH a t.bC++(db b t.nodes++(db c t.aw++(gA ms++Hx)))) | [some a,some b,some c,some _,none]=>.gn dU (ev prog 198) (kX (bk p))::.au bz 92 ([.val a,ab.bp t.params,ab.ints t.nodes,ab.ints t.aw]++cH p++cB (bR p)++[ab.gz (e8 p),ab.bp (fh p),.aj 1 (ms.map hJ),(.val (.map (some dU))),(.val (.map none)),.b false])::(fH a t.bC++(db b t.nodes++(db c t.aw++(gA ms++Hx)))) | [some a,some b,some c,none,none]=>.gn dU (ev prog 198) (kX (bk p))::.au bz 92 ([ab.dy t.bC,ab.bp t.params,ab.ints t.nodes,ab.ints t.aw]++cH p++cB (bR p)++[ab.gz (e8 p),ab.bp (fh p),.aj 1 (ms.map hJ),(.val (.map (some dU))),(.val (.map none)),.b false])::(fH a t.bC++(db b t.nodes++(db c t.aw++(gA ms++Hx)))) | [some a,some b,none,none,none]=>.gn dU (ev prog 198) (kX (bk p))::.au bz 92 ([ab.dy t.bC,ab.bp t.params,ab.ints t.nodes,ab.ints t.aw]++cH p++cB (bR p)++[ab.gz (e8 p),ab.bp (fh p),.aj 1 (ms.map hJ),(.val (.map (some dU))),(.val (.map none)),.b false])::(fH a t.bC++(db b t.nodes++(gA ms++Hx))) | [some a,none,none,none,none]=>.gn dU (ev prog 198) (kX (bk p))::.au bz 92 ([ab.dy t.bC,ab.bp t.params,ab.ints t.nodes,ab.ints t.aw]++cH p++cB (bR p)++[ab.gz (e8 p),ab.bp (fh p),.aj 1 (ms.map hJ),(.val (.map (some dU))),(.val (.map none)),.b false])::(fH a t.bC++(gA ms++Hx)) | _=>.gn dU (ev prog 198) (kX (bk p))::.au bz 92 ([ab.dy t.bC,ab.bp t.params,ab.ints t.nodes,ab.ints t.aw]++cH p++cB (bR p)++[ab.gz (e8 p),ab.bp (fh p),.aj 1 (ms.map hJ),(.val (.map (some dU))),(.val (.map none)),.b false])::(gA ms++Hx)) (λj J=>match j,J with | 0,some a::_=>jn t.bC.isEmpty a | 1,_::some b::_=>jn t.nodes.isEmpty b | 2,_::_::some c::_=>jn t.aw.isEmpty c | _,_=>.any) 0 29 65 rfl ao ao rfl rfl ao rfl (λ_ _ _ _ _ _ _ _ _ h=>h.elim) ?_;refine cn [[true,true,true,false,false],[true,true,false,false,false],[true,false,false,false,false],[false,false,false,false,false]] ⟨λf=>ad.move rfl rfl rfl,λf=>ad.move rfl rfl rfl,λf=>ad.move rfl rfl rfl,λf=>ad.move rfl rfl rfl,trivial⟩ ?_;refine cn [[true,true,true,true,false],[true,true,true,false,false],[true,true,false,false,false],[true,false,false,false,false],[false,false,false,false,false]] ⟨λf=>ad.move rfl rfl rfl,λf=>ad.move rfl rfl rfl,λf=>ad.move rfl rfl rfl,λf=>ad.move rfl rfl rfl,λf=>ad.move rfl rfl rfl,trivial⟩ ?_;refine cn [[true,true,true,true,true],[true,true,true,true,false],[true,true,true,false,false],[true,true,false,false,false],[true,false,false,false,false],[false,false,false,false,false]] ⟨λf=>ad.move rfl rfl rfl,λf=>ad.move rfl rfl rfl,λf=>ad.move rfl rfl rfl,λf=>ad.move rfl rfl rfl,λf=>ad.move rfl rfl rfl,λf=>ad.move rfl rfl rfl,trivial⟩ ?_;refine cn [[false,false,false,false,false]] ⟨λf=>ad.move rfl rfl rfl,trivial⟩ ?_;refine cn [[false,false,false,false,false]] ⟨λf=>fU,trivial⟩ ?_;refine cn [[false,false,false,false,false]] ⟨λf=>b9,trivial⟩ ?_;refine cn [[false,false,false,false,false]] ⟨λf=>b9,trivial⟩ ?_;refine cn [[false,false,false,false,false]] ⟨λf=>cP,trivial⟩ ?_;refine cN.kg 0 [[false,false,false,false,false]] rfl rfl rfl ao rfl rfl rfl ⟨λf=>⟨ee.clone (F:=λv=>fH v t.bC) .k (ahR aa) (λv=>show (fH v t.bC++(.gn dU (ev prog 198) (kX (bk p))::.au bz 92 ([ab.dy t.bC,ab.bp t.params,ab.ints t.nodes,ab.ints t.aw]++cH p++cB (bR p)++[ab.gz (e8 p),ab.bp (fh p),.aj 1 (ms.map hJ),(.val (.map (some dU))),(.val (.map none)),.b false])::(gA ms++Hx))).Perm (.gn dU (ev prog 198) (kX (bk p))::.au bz 92 ([ab.dy t.bC,ab.bp t.params,ab.ints t.nodes,ab.ints t.aw]++cH p++cB (bR p)++[ab.gz (e8 p),ab.bp (fh p),.aj 1 (ms.map hJ),(.val (.map (some dU))),(.val (.map none)),.b false])::(fH v t.bC++(gA ms++Hx))) from by classical exact List.perm_iff_count.2 λx=>by simp only[List.count_append,List.count_cons,List.count_nil,List.cons_append,List.nil_append,eh];omega) (λ_=>rfl),hL⟩,trivial⟩ ?_;refine cn [[true,false,false,false,false],[false,false,false,false,false]] ⟨λf=>ad.move rfl rfl rfl,λf=>ad.move rfl rfl rfl,trivial⟩ ?_;refine cn [[true,false,false,false,false],[false,false,false,false,false]] ⟨λf=>fU,λf=>fU,trivial⟩ ?_;refine cn [[true,false,false,false,false],[false,false,false,false,false]] ⟨λf=>b9,λf=>b9,trivial⟩ ?_;refine cn [[true,false,false,false,false],[false,false,false,false,false]] ⟨λf=>b9,λf=>b9,trivial⟩ ?_;refine cn [[true,false,false,false,false],[false,false,false,false,false]] ⟨λf=>cP,λf=>cP,trivial⟩ ?_;refine cN.kg 1 [[true,false,false,false,false]] rfl rfl rfl ao rfl rfl rfl ⟨λf=>⟨ee.clone (F:=λv=>db v t.nodes) .k (TI aa) (λv=>show (db v t.nodes++(.gn dU (ev prog 198) (kX (bk p))::.au bz 92 ([ab.dy t.bC,ab.bp t.params,ab.ints t.nodes,ab.ints t.aw]++cH p++cB (bR p)++[ab.gz (e8 p),ab.bp (fh p),.aj 1 (ms.map hJ),(.val (.map (some dU))),(.val (.map none)),.b false])::(fH (f 17) t.bC++(gA ms++Hx)))).Perm (.gn dU (ev prog 198) (kX (bk p))::.au bz 92 ([ab.dy t.bC,ab.bp t.params,ab.ints t.nodes,ab.ints t.aw]++cH p++cB (bR p)++[ab.gz (e8 p),ab.bp (fh p),.aj 1 (ms.map hJ),(.val (.map (some dU))),(.val (.map none)),.b false])::(fH (f 17) t.bC++(db v t.nodes++(gA ms++Hx)))) from by classical exact List.perm_iff_count.2 λx=>by simp only[List.count_append,List.count_cons,List.count_nil,List.cons_append,List.nil_append,eh];omega) (λ_=>rfl),hL⟩,trivial⟩ ?_;refine cn [[true,true,false,false,false],[true,false,false,false,false],[false,false,false,false,false]] ⟨λf=>ad.move rfl rfl rfl,λf=>ad.move rfl rfl rfl,λf=>ad.move rfl rfl rfl,trivial⟩ ?_;refine cn [[true,true,false,false,false],[true,false,false,false,false],[false,false,false,false,false]] ⟨λf=>fU,λf=>fU,λf=>fU,trivial⟩ ?_;refine cn [[true,true,false,false,false],[true,false,false,false,false],[false,false,false,false,false]] ⟨λf=>b9,λf=>b9,λf=>b9,trivial⟩ ?_;refine cn [[true,true,false,false,false],[true,false,false,false,false],[false,false,false,false,false]] ⟨λf=>b9,λf=>b9,λf=>b9,trivial⟩ ?_;refine cn [[true,true,false,false,false],[true,false,false,false,false],[false,false,false,false,false]] ⟨λf=>cP,λf=>cP,λf=>cP,trivial⟩ ?_;refine cN.kg 2 [[true,true,false,false,false]] rfl rfl rfl ao rfl rfl rfl ⟨λf=>⟨ee.clone (F:=λv=>db v t.aw) .k (TI aa) (λv=>show (db v t.aw++(.gn dU (ev prog 198) (kX (bk p))::.au bz 92 ([ab.dy t.bC,ab.bp t.params,ab.ints t.nodes,ab.ints t.aw]++cH p++cB (bR p)++[ab.gz (e8 p),ab.bp (fh p),.aj 1 (ms.map hJ),(.val (.map (some dU))),(.val (.map none)),.b false])::(fH (f 17) t.bC++(db (f 23) t.nodes++(gA ms++Hx))))).Perm (.gn dU (ev prog 198) (kX (bk p))::.au bz 92 ([ab.dy t.bC,ab.bp t.params,ab.ints t.nodes,ab.ints t.aw]++cH p++cB (bR p)++[ab.gz (e8 p),ab.bp (fh p),.aj 1 (ms.map hJ),(.val (.map (some dU))),(.val (.map none)),.b false])::(fH (f 17) t.bC++(db (f 23) t.nodes++(db v t.aw++(gA ms++Hx))))) from by classical exact List.perm_iff_count.2 λx=>by simp only[List.count_append,List.count_cons,List.count_nil,List.cons_append,List.nil_append,eh];omega) (λ_=>rfl),hL⟩,trivial⟩ ?_;refine cn [[true,true,true,false,false]] ⟨λf=>fU,trivial⟩ ?_;refine cn [[true,true,true,false,false]] ⟨λf=>b9,trivial⟩ ?_;refine cn [[true,true,true,false,false]] ⟨λf=>b9,trivial⟩ ?_;refine cN.MN 3 [[true,true,true,false,false]] rfl rfl rfl ao rfl rfl ⟨λf u=>⟨⟨ee.BW (qQ.M9 (y:=jn t.bC.isEmpty (f 17)) (y':=.val (f 17)) rfl rfl rfl rfl rfl (λB I w u aW bK=>TH bK) (.tail _ _ _ _ _ (.head _ _ _)) rfl rfl) (λ_=>rfl) (λ_=>rfl),rfl⟩,Lp⟩,trivial⟩ ?_;refine cn [[true,true,true,true,false]] ⟨λf=>fU,trivial⟩ ?_;refine cn [[true,true,true,true,false]] ⟨λf=>b9,trivial⟩ ?_;refine cn [[true,true,true,true,false]] ⟨λf=>b9,trivial⟩ ?_;refine cN.MN 4 [[true,true,true,true,false]] rfl rfl rfl ao rfl rfl ⟨λf u=>⟨⟨ee.BW (qQ.M9 (y:=jn t.nodes.isEmpty (f 23)) (y':=.val (f 23)) rfl rfl rfl rfl rfl (λB I w u aW bK=>TH bK) (.tail _ _ _ _ _ (.head _ _ _)) rfl rfl) (λ_=>rfl) (λ_=>rfl),rfl⟩,Lp⟩,trivial⟩ ?_;refine cN.nil (λf=>?_);simp only[kN,List.map_cons,List.map_nil,List.cons_append,List.nil_append];refine aR ?_;generalize f 17=dh;generalize f 23=cZ;generalize f 29=cV;refine ai.dv (d:=17) (b:=t.bC.isEmpty) (v:=dh) rfl (λrq rr=>?_);refine ai.dv (d:=23) (b:=t.nodes.isEmpty) (v:=cZ) rfl (λahT oF=>?_);refine ai.dv (d:=29) (b:=t.aw.isEmpty) (v:=cV) rfl (λqf m2=>?_);refine aH ?_;apply ai.gb rfl rfl rfl rfl rfl rfl rfl (Cq m2) (Cr m2) rfl
 (case hu=>repeat (first | exact bG.head _ _ _ | apply bG.tail));(case hfit=>rfl);(case hds=>rfl)
 refine iY ?_;refine hi 2 23 1 ?_;refine bm (λz st=>∃(i:Nat) (vs:dj) (v1:Value),st=⟨[(45,.i i),(44,.i t.params.length),(43,ab.bp t.params),(2,.as (.aj 1 (vs.map λv=>[ab.val v])) v1),(0,.p bz 0)],.own 23 1 v1::.gn dU (ev prog 198) (kX (bk p))::.au bz 92 ([.val dh,ab.bp t.params,.val cZ,.val cV]++cH p++cB (bR p)++[ab.gz (e8 p),ab.bp (fh p),.aj 1 (ms.map hJ),(.val (.map (some dU))),(.val (.map none)),.b false])::(iD vs (t.params.take i)++(fH dh t.bC++(db cZ t.nodes++(db cV t.aw++(gA ms++Hx)))))⟩/\z=t.params.length - i/\i<=t.params.length/\vs.length=i/\∀v∈vs,v.oneCell'=true) (⟨0,[],_,rfl,rfl,aa,rfl,λv bd=>by cases bd⟩) ?_;rintro z _ ⟨i,vs,v1,rfl,rfl,aN,RO,TL⟩;refine ay ?_;refine az (λaf=>?_) λaf=>?_
 ·have bI:i<t.params.length:=by omega
  obtain⟨L,e0⟩:∃L,L=t.params.getD i default:=⟨_,rfl⟩;have P:L≠ []:=by rw[e0];exact ua aD h aa
  have ar:L.length<=10:=by
   rw[e0];have:=(A6 aD (bk p) (g:=⟨t,false⟩) h (i:=i) aa).2.1;show (t.params.getD i default).length<=10;have dc:((⟨t,false⟩:GT).t.params.getD i default).length=(t.params.getD i default).length:=rfl;omega
  refine aP ?_;refine ag (ad.le (ad.cE rfl rfl rfl rfl) (by rw[<-e0];exact aq.refl _)) ?_;refine ay ?_;refine cI .k ((RL L P aa _).b) ?_;rintro _ _ ⟨v,rfl,rfl⟩;refine ai.Ge (.head _) (λkb=>?_);refine ag (ad.sg [(true,.val v)] rfl rfl rfl rfl (by simp only[List.all_cons,List.all_nil,fa,kb];rfl) rfl rfl rfl) ?_;refine ai.dJ rfl rfl rfl rfl rfl rfl rfl rfl (aq.refl _) (xQ (vs:=[v]) (by intro u hu;simp at hu;rw[hu];exact kb)) (λ_=>dt) cF cF (λv53=>?_);refine aV ?_;have lG:=c3 bI;rw[<-e0] at lG;have xx:iD (vs++[v]) (t.params.take (i+1))=iD vs (t.params.take i)++[.row 3 1 v L.length (L.map ab.i)]:=by
   rw[<-lG,TJ yr,db,if_neg P]
  refine aA.perm (H':=.own 23 1 v53::.gn dU (ev prog 198) (kX (bk p))::.au bz 92 ([.val dh,ab.bp t.params,.val cZ,.val cV]++cH p++cB (bR p)++[ab.gz (e8 p),ab.bp (fh p),.aj 1 (ms.map hJ),(.val (.map (some dU))),(.val (.map none)),.b false])::(iD (vs++[v]) (t.params.take (i+1))++(fH dh t.bC++(db cZ t.nodes++(db cV t.aw++(gA ms++Hx)))))) (by rw[xx];exact (show _ from by classical exact List.perm_iff_count.2 λx=>by simp only[List.count_append,List.count_cons,List.count_nil,List.cons_append,List.nil_append,eh];omega)) ?_;refine aV ?_;exact aU (⟨i+1,vs++[v],v53,by rw[List.map_append],rfl,bI,by simp[RO],λu hu=>(List.mem_append.1 hu).elim (TL u) (λh=>by simp at h;rw[h];exact kb)⟩)
 ·obtain rfl:i=t.params.length:=by omega
  rw[List.take_length];refine ay ?_;refine aA.le 2 (y:=.aj 1 (vs.map λv=>[ab.val v])) rfl (aq.eY _ _) ?_;refine bA ?_;refine ai.mkMap rfl rfl rfl rfl (λm1=>?_);have hQ:=a2.put (k:=1) ey (.fn (.func 59) [] []);refine ai.iA (u':=(.fn (.func 59) [] [])) rfl rfl (.inr rfl) rfl rfl rfl rfl rfl rfl (aq.refl _) (.head _ _ _) a2 ey ?_;have iy:=hQ.put (k:=12) ey (.fn (.func 59) [] []);refine ai.iA (u':=(.fn (.func 59) [] [])) rfl rfl (.inr rfl) rfl rfl rfl rfl rfl rfl (aq.refl _) (.head _ _ _) hQ ey ?_;have gJ:=iy.put (k:=13) ey (.fn (.func 59) [] []);refine ai.iA (u':=(.fn (.func 59) [] [])) rfl rfl (.inr rfl) rfl rfl rfl rfl rfl rfl (aq.refl _) (.head _ _ _) iy ey ?_;have a0:=gJ.put (k:=14) ey (.fn (.func 59) [] []);refine ai.iA (u':=(.fn (.func 59) [] [])) rfl rfl (.inr rfl) rfl rfl rfl rfl rfl rfl (aq.refl _) (.head _ _ _) gJ ey ?_;have Z:=a0.put (k:=15) ey (.fn (.func 59) [] []);refine ai.iA (u':=(.fn (.func 59) [] [])) rfl rfl (.inr rfl) rfl rfl rfl rfl rfl rfl (aq.refl _) (.head _ _ _) a0 ey ?_;have a4:=Z.put (k:=16) ey (.fn (.func 59) [] []);refine ai.iA (u':=(.fn (.func 59) [] [])) rfl rfl (.inr rfl) rfl rfl rfl rfl rfl rfl (aq.refl _) (.head _ _ _) Z ey ?_;have ac:=a4.put (k:=2) ey (.fn (.func 60) [] []);refine ai.iA (u':=(.fn (.func 60) [] [])) rfl rfl (.inr rfl) rfl rfl rfl rfl rfl rfl (aq.refl _) (.head _ _ _) a4 ey ?_;have a3:=ac.put (k:=3) ey (.fn (.func 61) [] []);refine ai.iA (u':=(.fn (.func 61) [] [])) rfl rfl (.inr rfl) rfl rfl rfl rfl rfl rfl (aq.refl _) (.head _ _ _) ac ey ?_;have TM:=a3.put (k:=4) ey (.fn (.func 62) [] []);refine ai.iA (u':=(.fn (.func 62) [] [])) rfl rfl (.inr rfl) rfl rfl rfl rfl rfl rfl (aq.refl _) (.head _ _ _) a3 ey ?_;have M:=TM.put (k:=6) ey (.fn (.func 63) [] []);refine ai.iA (u':=(.fn (.func 63) [] [])) rfl rfl (.inr rfl) rfl rfl rfl rfl rfl rfl (aq.refl _) (.head _ _ _) TM ey ?_;have N:=M.put (k:=7) ey (.fn (.func 64) [] []);refine ai.iA (u':=(.fn (.func 64) [] [])) rfl rfl (.inr rfl) rfl rfl rfl rfl rfl rfl (aq.refl _) (.head _ _ _) M ey ?_;have T:=N.put (k:=8) ey (.fn (.func 65) [] []);refine ai.iA (u':=(.fn (.func 65) [] [])) rfl rfl (.inr rfl) rfl rfl rfl rfl rfl rfl (aq.refl _) (.head _ _ _) N ey ?_;have S:=T.put (k:=9) ey (.fn (.func 66) [] []);refine ai.iA (u':=(.fn (.func 66) [] [])) rfl rfl (.inr rfl) rfl rfl rfl rfl rfl rfl (aq.refl _) (.head _ _ _) T ey ?_;have Q:=S.put (k:=11) ey (.fn (.func 66) [] []);refine ai.iA (u':=(.fn (.func 66) [] [])) rfl rfl (.inr rfl) rfl rfl rfl rfl rfl rfl (aq.refl _) (.head _ _ _) S ey ?_;have O:=Q.put (k:=10) ey (.fn (.func 67) [] []);refine ai.iA (u':=(.fn (.func 67) [] [])) rfl rfl (.inr rfl) rfl rfl rfl rfl rfl rfl (aq.refl _) (.head _ _ _) Q ey ?_;have K:=O.put (k:=17) ey (.fn (.func 68) [] []);refine ai.iA (u':=(.fn (.func 68) [] [])) rfl rfl (.inr rfl) rfl rfl rfl rfl rfl rfl (aq.refl _) (.head _ _ _) O ey ?_;have R:=K.put (k:=5) ey (.fn (.func 69) [] []);refine ai.iA (u':=(.fn (.func 69) [] [])) rfl rfl (.inr rfl) rfl rfl rfl rfl rfl rfl (aq.refl _) (.head _ _ _) K ey ?_;have pL:=R.put (k:=18) ey (.fn (.func 70) [] []);refine ai.iA (u':=(.fn (.func 70) [] [])) rfl rfl (.inr rfl) rfl rfl rfl rfl rfl rfl (aq.refl _) (.head _ _ _) R ey ?_;refine aS ?_;have a6:(eQ (eQ (eQ (eQ (eQ (eQ (eQ (eQ (eQ (eQ (eQ (eQ (eQ (eQ (eQ (eQ (eQ (eQ [] 1 (.fn (.func 59) [] [])) 12 (.fn (.func 59) [] [])) 13 (.fn (.func 59) [] [])) 14 (.fn (.func 59) [] [])) 15 (.fn (.func 59) [] [])) 16 (.fn (.func 59) [] [])) 2 (.fn (.func 60) [] [])) 3 (.fn (.func 61) [] [])) 4 (.fn (.func 62) [] [])) 6 (.fn (.func 63) [] [])) 7 (.fn (.func 64) [] [])) 8 (.fn (.func 65) [] [])) 9 (.fn (.func 66) [] [])) 11 (.fn (.func 66) [] [])) 10 (.fn (.func 67) [] [])) 17 (.fn (.func 68) [] [])) 5 (.fn (.func 69) [] [])) 18 (.fn (.func 70) [] []))=oE:=rfl;rw[a6];refine aZ.perm (H':=dV m1 oE::.own 23 1 v1::.gn dU (ev prog 198) (kX (bk p))::.au bz 92 ([.val dh,.aj 1 (vs.map λv=>[ab.val v]),.val cZ,.val cV]++cH p++cB (bR p)++[ab.gz (e8 p),ab.bp (fh p),.aj 1 (ms.map hJ),(.val (.map (some dU))),(.val (.map (some m1))),.b false])::(iD vs t.params++(fH dh t.bC++(db cZ t.nodes++(db cV t.aw++(gA ms++Hx)))))) (.of_eq rfl) ?_;refine aZ.perm (H':=.own 23 1 v1::.au bz 92 ([.val dh,.aj 1 (vs.map λv=>[ab.val v]),.val cZ,.val cV]++cH p++cB (bR p)++[ab.gz (e8 p),ab.bp (fh p),.aj 1 (ms.map hJ),(.val (.map (some dU))),(.val (.map (some m1))),.b false])::((.gn dU (ev prog 198) (kX (bk p))::dV m1 oE::(gA ms++(fH dh t.bC++(db cZ t.nodes++(db cV t.aw++iD vs t.params)))))++Hx)) (by classical exact List.perm_iff_count.2 λx=>by simp only[List.count_append,List.count_cons,List.count_nil,List.cons_append,List.nil_append,eh];omega) ?_;refine gQ [] (bO p (bk p) ⟨bz,dh,vs,cZ,cV,dU,m1,ms⟩ ⟨t,false⟩ Hx) ?_;exact⟨⟨bz,dh,vs,cZ,cV,dU,m1,ms⟩,rfl,rfl,rfl,⟨aD,jq,by show vs.length=_;omega,λaf=>rq (List.isEmpty_iff.2 (List.eq_nil_of_length_eq_zero aa)),λaf=>qf (List.isEmpty_iff.2 (List.eq_nil_of_length_eq_zero aa)),rr,TL,oF,m2⟩⟩
section
variable{p:Prog}{g:GT}
def j5{c}[Decidable c]{a b}(l:c->Grow p g a)(j: ¬c->Grow p g b):Grow p g (if c then a else b):=by
 by_cases h:c
 ·rw[if_pos h];exact l h
 ·rw[if_neg h];exact j h
def TN(h:bf p g.t)(c){s}(a:0<=s/\s<p.aw):Grow p g (GT.begin p c g s):=Jl h aa (DX c s)
def ahU(h:bf p g.t){n}(hn:n<p.nodes.length){c}(f:1<=c)(a:c<aG p):Grow p g (vE p n c g):=
 (xN h hn (kv f a)).trans (rp _ (h.bX n (kv f a)) λg s j h=>TN h c (D2 s j).1)
def ahV(h:bf p g.t){i j}(q:i<p.methods.length+2)(a:j<(e9 g.t i).length){x}(c:fp p x):Grow p g (g.nK i j x):=by
 have m:=h.pl;have r:=h.aj;have o:=h.nl;unfold GT.nK;unfold e9 at a;by_cases l:i<g.t.params.length
 ·rw[if_pos l] at a ⊢;exact Rv h aa a c
 ·rw[if_neg l] at a ⊢;by_cases f:i=g.t.params.length
  ·rw[if_pos f] at a ⊢;exact xN h aa c
  ·rw[if_neg f] at a ⊢;exact Jl h aa c
def ahW{t a}(h:bf p t)(c:bf p a){i}(m:i<p.methods.length+2):(e9 t i).length=(e9 a i).length:=by
 have j:=h.pl;have g:=c.pl;unfold e9;by_cases f:i<p.methods.length
 ·rw[if_pos (show i<t.params.length by omega),if_pos (show i<a.params.length by omega)];have:=h.jW i f;have:=c.jW i f;omega
 ·rw[if_neg (show ¬i<t.params.length by omega),if_neg (show ¬i<a.params.length by omega)];by_cases l:i=p.methods.length
  ·rw[if_pos (show i=t.params.length by omega),if_pos (show i=a.params.length by omega),h.nl,c.nl]
  ·rw[if_neg (show ¬i=t.params.length by omega),if_neg (show ¬i=a.params.length by omega)];have:=h.aj;have:=c.aj;omega
def ahX(h:bf p g.t){c to i j}(m:i<p.methods.length+2)(l:j<(e9 g.t i).length)(f:1<=to)(a:to<aG p):Grow p g (hK c to i g j):=by
 unfold hK;exact j5 (λ_=>ahV h m l (kv f a)) λ_=>.refl h
def ahY(h:bf p g.t){c to i}(a:i<p.methods.length+2)(m:1<=to)(l:to<aG p):Grow p g (eC c to g i):=
 rp _ h λn2 j o f=>ahX f a (by rw[ahW f h a];exact List.mem_range.1 o) m l
def ahZ(h:bf p g.t)(c){to}(f:1<=to)(a:to<aG p):Grow p g (GT.ku c to g):=
 rp _ h λn2 i j l=>ahY l (by have:=List.mem_range.1 j;have:=h.pl;omega) f a
def ah0(h:bf p g.t){n}(hn:n<p.nodes.length){to}(j:1<=to)(f:to<aG p)(c):Grow p g (jj p n to g c):=by
 unfold jj;refine j5 (λ_=>.refl h) λ_=>?_;have a:=xN h hn (kv j f);have b:=ahZ a.fx c j f;exact (a.trans b).trans (rp _ b.fx λg s l h=>j5 (λ_=>.refl h) λ_=>TN h to (D2 s l).1)
def ah1(h:bf p g.t){n}(hn:n<p.nodes.length){to}(f:1<=to)(a:to<aG p)(k):Grow p g (ps p n to k g):=rp _ h λg c _ h=>ah0 h hn f a c
def ah2(h:bf p g.t){m}(hm:m<p.methods.length){got}(j:got.length=(g.t.params.getD m default).length)(c:∀k∈got,cq (aG p) k=true):Grow p g (nL m got g):=
 rp _ h λn2 k f a=>Rv a hm (by have:=List.mem_range.1 f;have:=h.jW m hm;have:=a.jW m hm;omega) (mq c k)
def ah3(m:(bu p).isSome)(h:bf p g.t){n}(hn:n<p.nodes.length){x:Int×al}(l:0<=x.1/\x.1<p.methods.length)(j:(x.2.length:Int)=gg p (p.methods.getD x.1.toNat default).gen)(f:∀k∈x.2,cq (aG p) k=true):Grow p g (m0 p n g x):=by
 have c:x.1.toNat<p.methods.length:=by omega
 have a:=ad3 h c;have b:=ah2 (got:=x.2) a.fx c (by have:=a.fx.jW _ c;unfold gg at j;omega) f;unfold m0;exact j5 (λ_=>(a.trans b).trans (xN b.fx hn (mq b.fx.nb _))) λ_=>a.trans b
def ah4(j:(bu p).isSome)(h:bf p g.t){n}(hn:n<p.nodes.length){gen}{f}(a:∀k∈f,cq (aG p) k=true)(c:(f.length:Int)=gg p gen):Grow p g (sH p n gen f g):=
 rp _ h λn2 x r v=>by
  obtain⟨⟨o,l,q⟩,m,s⟩:=xL a x r;exact ah3 j v hn ⟨o,l⟩ (by rw[m,c,q]) s
def ah5(h:bf p g.t)(ah){n}(hn:n<p.nodes.length)(m):Grow p g (sI p ah n m g):=rp _ h λg o _ h=>by
 unfold jZ;exact j5 (λ_=>xN h hn (mq h.nb _)) λ_=>.refl h
def ah6(v:(bu p).isSome)(h:bf p g.t)(ah){n}(hn:n<p.nodes.length){y}{m env}{w s}(hy:fW p y s)(r:∀k∈env,cq (aG p) k=true)(f:∀k∈m,cq (aG p) k=true)(o:y.op=5->(m.length:Int)=gg p y.n):Grow p g (eI p ah y n env w m g):=by
 have c:=λi=>mq f i;have N:=λ{x:Nat} (aK:fp p x)=>xN h hn aK;unfold eI;refine j5 (λ_=>N (Js p)) λ_=>?_;refine j5 (λ_=>N (Jt p)) λ_=>?_;refine j5 (λ_=>N (mq r _)) λ_=>?_;refine j5 (λbb=>j5 (λ_=>N (mq h.fg _)) λ_=>.refl h) λ_=>?_;refine j5 (λbb=>ahU h hn (pA hy (.inl bb)).2.1 (pA hy (.inl bb)).2.2) λ_=>?_;refine j5 (λbb=>by
  unfold tX;have z:=A5 hy (.inr bb);exact j5 (λ_=>(N (c 1)).trans (Jl (h.bX n (c 1)) aa (c 1))) λ_=>N (c 1)) λ_=>?_
 refine j5 (λbb=>ah1 h hn (pA hy (.inr bb)).2.1 (pA hy (.inr bb)).2.2 _) λ_=>?_;refine j5 (λ_=>N (c 1)) λ_=>?_;refine j5 (λ_=>N (xK (c 1) (c 2))) λ_=>?_;refine j5 (λ_=>N (c 0)) λ_=>?_;refine j5 (λbb=>ah4 v h hn f (o bb)) λ_=>?_;exact j5 (λ_=>j5 (λ_=>.refl h) λ_=>ah5 h ah hn _) λ_=>.refl h
def TO{R}{y:gR}{env}(hy:∀k∈y.kids,0<=k/\k<p.nodes.length)(f:∀k∈env,cq (aG p) k=true):∀(l:al) (i:Nat) {g:GT},(∀k∈l,k∈y.kids)->bf p g.t->
  (∀j,j<l.length->∀(e:al) (g:GT),(∀k∈e,cq (aG p) k=true)->(e.length=env.length+(if y.op=9/\i+j=1 then 1 else 0))->bf p g.t->Grow p g (R (l.getD j default) e g))->Grow p g (j0 R y env i l g)
 | [],i,g,_,h,_=>.refl h
 | k::r,i,g,q,h,o=>by
  rw[j0];have a:Grow p g (R k (if y.op=9/\i=1 then env++[g.t.nodes.getD (y.kids.getD 0 default).toNat default] else env) g):=by
   refine o 0 aT _ g ?_ ?_ h
   ·split
    ·intro x c;rcases List.mem_append.1 c with m | m
     ·exact f x m
     ·rw[List.mem_singleton.1 m];refine xM h (hy _ (bH ?_));have:=List.length_pos_of_mem (q k dB);omega
    ·exact f
   ·rw[Nat.add_zero];split
    ·rw[List.length_append];rfl
    ·rfl
  refine a.trans (TO hy f r (i+1) (λx c=>q x (.tail _ c)) a.fx λj w e g a s v=>?_);exact o (j+1) (by simpa using w) e g a (by rw[s,show i+1+j=i+(j+1) by omega]) v
theorem Ko(v:(bu p).isSome){ah}{m}{next}:∀(f:Nat) {n:Int} {a:al} {g:GT},h9 p next f n a.length->(∀k∈a,cq (aG p) k=true)->bf p g.t->Grow p g (fQ p ah m f n a g)
 | 0,n,a,g,l,_,_=>l.elim
 | f+1,n,a,g,l,s,h=>by
  rw[fQ];have c:=Au l;have A:=tW l;have o:Grow p g (j0 (fQ p ah m f) (ji p n) a 0 (ji p n).kids g):=by
   refine TO c s _ 0 (λx x=>x) h λj z e g o r w=>?_;have:=l.2.2 j z;refine Ko v f (next:=next) (by
    rw[Nat.zero_add] at r;rw[r];split at this
    ·rename_i q;rw[if_pos q];simpa using this
    ·rename_i q;rw[if_neg q];simpa using this) o w
  exact o.trans (ah6 v o.fx ah aa (xG l).1 s (DY o.fx c) λcm=>by rw[mo,List.length_map];exact (DT l).1 (by rw[cm];rfl))
def ah7(a:(bu p).isSome)(ah)(h:bf p g.t){i}(j:i<p.methods.length):Grow p g (kV p ah g i):=by
 obtain⟨f,_,c,_⟩:=A6 a ah h j;unfold kV;exact j5 (λ_=>Ko a 13 f c h) λ_=>.refl h
def TP(a:(bu p).isSome)(ah)(h:bf p g.t):Grow p g ((List.range p.methods.length).foldl (kV p ah) g):=rp _ h λg m c h=>ah7 a ah h (List.mem_range.1 c)
def Kp(a:(bu p).isSome)(ah){t}(h:bf p t):Grow p ⟨t,false⟩ (fR p ah t):=
 (TP a ah (g:=⟨t,false⟩) h).trans (Ko a 13 (sC a).2.1 (λk c=>by cases c) (TP a ah (g:=⟨t,false⟩) h).fx)
end
def rI(m:Nat)(l:al):Nat:=(l.map λk=>2^m - k.toNat).sum
def oO(p:Prog)(t:cv):Nat:=(t.bC.map λb=>if b then 0 else 1).sum+(t.params.map (rI (aG p))).sum+rI (aG p) t.nodes+rI (aG p) t.aw
theorem u6{g:Type}[Inhabited g]{f:g->Nat}:∀{a b:List g},a.length=b.length->(∀i,i<a.length->f (b.getD i default)<=f (a.getD i default))->(b.map f).sum<=(a.map f).sum
 | [],[],_,_=>Nat.le_refl _
 | x::r,y::s,m,h=>by
  have l:=h 0 aT;have j:=u6 (f:=f) (a:=r) (b:=s) (by simpa using m) λi aN=>h (i+1) ng;simp[List.map_cons,List.sum_cons];exact Nat.add_le_add l j
theorem EE{j:Type}[Inhabited j]{f:j->Nat}:∀{a b:List j},a.length=b.length->(∀i,i<a.length->f (b.getD i default)<=f (a.getD i default))->(∃i,i<a.length/\f (b.getD i default)<f (a.getD i default))->(b.map f).sum<(a.map f).sum
 | [],[],_,_,⟨i,aN,_⟩=>by simp at aN
 | x::r,y::s,m,h,⟨i,aN,g⟩=>by
  have o:f y<=f x:=h 0 aT;have l:∀i,i<r.length->f (s.getD i default)<=f (r.getD i default):=λi aN=>h (i+1) ng;simp[List.map_cons,List.sum_cons];cases i with
  | zero=>exact Nat.add_lt_add_of_lt_of_le g (u6 (by simpa using m) l)
  | succ i=>exact Nat.add_lt_add_of_le_of_lt o (EE (by simpa using m) l ⟨i,ng,g⟩)
def ah8{a b:Nat}(h:∀c,a.testBit c=true->b.testBit c=true):a<=b:=by
 have:a ||| b=b:=Nat.eq_of_testBit_eq λc=>by
  rw[Nat.testBit_or];cases e:a.testBit c with
  | false=>simp
  | true=>rw[h c e];rfl
 rw[<-this];exact Nat.left_le_or
def ah9{m}{a b}(g:cq m a)(f:cq m b)(h:∀c,tY a c->tY b c):2^m - b.toNat<=2^m - a.toNat/\(a≠b->2^m - b.toNat<2^m - a.toNat):=by
 have j:=hW.1 g;have l:=hW.1 f;have:=ah8 h;exact⟨aa,λhx=>by omega⟩
def Kq{m}{a b}(j:a.length=b.length)(r:∀k∈a,cq m k=true)(q:∀k∈b,cq m k=true)(h:lr a b):rI m b<=rI m a/\(a≠b->rI m b<rI m a):=by
 have f:∀i,i<a.length->_:=λi c=>ah9 (r _ (bH c)) (q _ (bH (by omega:i<b.length))) (h i);refine⟨u6 j λi c=>(f i c).1,λhx=>EE j (λi c=>(f i c).1) ?_⟩;apply Classical.byContradiction;intro l;apply hx;refine qd j λi c=>?_;apply Classical.byContradiction;intro g;exact l ⟨i,c,(f i c).2 g⟩
def aia{a b}(l:bf p a)(j:bf p b)(h:oD a b)(t:b≠a):oO p b<oO p a:=by
 have H:=l.hp;have C:=j.hp;have G:=l.pl;have A:=j.pl;have aB:∀i,i<a.bC.length->(if b.bC.getD i default=true then 0 else 1)<=(if a.bC.getD i default=true then 0 else 1):=λi _=>by
  by_cases e:a.bC.getD i default=true
  ·rw[if_pos e,if_pos (h.r i e)];exact Nat.le_refl _
  ·rw[if_neg e];split <;> omega
 have F:=u6 (f:=λb:Bool=>if b=true then 0 else 1) (a:=a.bC) (b:=b.bC) aa aB;have q:∀i,i<a.params.length->_:=λi g=>Kq (m:=aG p) (a:=a.params.getD i default) (b:=b.params.getD i default) (by have:=l.jW i aa;have:=j.jW i aa;omega) (l.ks _ (bH g)) (j.ks _ nA) (h.p i);have E:=u6 (f:=rI (aG p)) (a:=a.params) (b:=b.params) aa λi g=>(q i g).1;have z:=Kq (m:=aG p) (by rw[l.nl,j.nl]) l.nb j.nb h.n;have B:=Kq (m:=aG p) (by have:=l.aj;have:=j.aj;omega) l.fg j.fg h.s;unfold oO;by_cases x:a.nodes=b.nodes
 ·by_cases w:a.aw=b.aw
  ·by_cases v:a.params=b.params
   ·have D:a.bC≠b.bC:=λe=>t (by cases a;cases b;simp only at*;subst x;subst w;subst v;subst e;rfl);have:(b.bC.map λb:Bool=>if b=true then 0 else 1).sum<(a.bC.map λb:Bool=>if b=true then 0 else 1).sum:=by
     refine EE aa aB ?_;apply Classical.byContradiction;intro o;apply D;refine qd aa λi g=>?_;apply Classical.byContradiction;intro c;refine o ⟨i,g,?_⟩;cases bM:a.bC.getD i default with
     | true=>rw[bM,h.r i bM] at c;exact absurd rfl c
     | false=>
      cases bJ:b.bC.getD i default with
      | true=>decide
      | false=>rw[bM,bJ] at c;exact absurd rfl c
    omega
   ·have:(b.params.map (rI (aG p))).sum<(a.params.map (rI (aG p))).sum:=by
     refine EE aa (λi g=>(q i g).1) ?_;apply Classical.byContradiction;intro o;apply v;refine qd aa λi g=>?_;apply Classical.byContradiction;intro c;exact o ⟨i,g,(q i g).2 c⟩
    omega
  ·have:=B.2 w;omega
 ·have:=z.2 x;omega
section
variable{p:Prog}(aD:(bu p).isSome=true)(ah:Nat->Nat->Bool)
include aD
def TQ(h:bf p t)(a1:(fR p ah t).ch=false):(fR p ah t).t=t:=by
 have av:=Kp aD ah h;apply Classical.byContradiction;intro hx;have:=av.ch.2 (.inr hx);rw[a1] at this;cases this
def TR(h:bf p t)(a1:(fR p ah t).ch):oO p (fR p ah t).t<oO p t:=by
 have av:=Kp aD ah h;exact aia h av.fx av.le ((av.ch.1 a1).resolve_left aT)
theorem Kr:∀(k:Nat) {t:cv},bf p t->oO p t<k->sJ p ah k t=sJ p ah (oO p t+1) t
 | 0,t,_,bD=>by omega
 | k+1,t,h,bD=>by
  rw[sJ,sJ];cases a1:(fR p ah t).ch with
  | false=>rfl
  | true=>
   have ae:=TR aD ah h a1;have ak:=Kn aD ah h;rw[if_pos rfl,if_pos rfl,Kr k ak aa];by_cases e:oO p t=oO p (fR p ah t).t+1
   ·rw[e]
   ·exact (Kr (oO p t) ak ae).symm
end
def h0(p:Prog):cv:=⟨List.replicate p.methods.length false,p.methods.map λM=>List.replicate (gg p M.gen).toNat 0,List.replicate p.nodes.length 0,List.replicate p.aw.toNat 0⟩
def A7(p:Prog)(ah:Nat->Nat->Bool):cv:=sJ p ah (oO p (h0 p)+1) (h0 p)
def fq.au{H}{b t}{cs}{y}(hm:.au b t cs∈H)(m:aq (.ptr cs) y):fq H [.p b 0] [y]:=λB I w F J D A x z=>by
 cases z with
 | cons _ u _ G v r=>
  cases r;have:=bZ v;subst this;obtain⟨E,q,g,f,_⟩:=A.ok _ (x _ hm);have C:er I w (kY w) w:=⟨λb o g=>D.there b o g,λ_ _ _=>rfl⟩;have a:=f.bw C;refine⟨kY w,λ_ _ h=>h,.cons _ _ _ _ (m _ _ _ (.ptr _ _ _ (uG g _ _ 0 a (λj u s=>by simpa using s) λj B=>?_))) .nil⟩;have c:=a.length;rw[Array.length_toList] at c;have l:j<q.size:=by rw[c];exact B
  exact⟨q[j],by rw[jK g,Nat.zero_add];exact Array.getElem?_eq_getElem l⟩
def aib(h:p.Small){t}(f:(bu p).isSome)(ht:h5 p t)(H):bP prog 32 [ab.prog p,ab.dI t] H (λy g=>∃c a,y= .bj [.p c 0,.b true]/\g= .au c 92 (sz p t (ab.gz (e8 p)) (.bp (fh p)) (.aj 1 (a.map hJ)) (.val (.map none)) (.val (.map none)) (.b false))::(gA a++H)/\p8 p a (aG p)) (λ_ _=>False):=by
 refine aM func32 λB I m=>?_;refine bS ?_;refine cI .k ((DG h f t H).b) ?_;rintro _ _ ⟨c,a,rfl,rfl,j⟩;refine c6 ?_;refine gw (λav=>.qO (.mk' rfl rfl rfl rfl cU) (fq.au dB (Iv _ _ _ _)) (Ix f t)) ?_;refine aV ?_;refine bc (λaf=>?_) λaf=>?_
 ·simp[ht] at af
 ·refine bQ ?_;refine dM [.tmp 4,.tmp 5] (.au c 92 (sz p t (ab.gz (e8 p)) (.bp (fh p)) (.aj 1 (a.map hJ)) (.val (.map none)) (.val (.map none)) (.b false))::(gA a++H)) ?_;exact⟨c,a,rfl,rfl,j⟩
def aic(c:p.Small){t}(a:(bu p).isSome=false):aI prog 9 [ab.prog p,ab.dI t] (.bj [.b false,.i 2]):=by
 intro H;refine aM func9 λB I g=>?_;refine bS ?_;refine ag (.call .k (DH c t a)) ?_;refine c6 ?_;refine bc (λaf=>?_) λaf=>?_
 ·refine aJ ?_;refine dM [.tmp 4,.tmp 5] (H) ?_;exact⟨cM,rfl⟩
 ·simp at af
def aid(c:p.Small){t}(a:(bu p).isSome)(ht:h5 p t=false):aI prog 9 [ab.prog p,ab.dI t] (.bj [.b false,.i 2]):=by
 intro H;refine aM func9 λB I g=>?_;refine bS ?_;refine ag (.call .k (DI c a ht)) ?_;refine c6 ?_;refine bc (λaf=>?_) λaf=>?_
 ·refine aJ ?_;refine dM [.tmp 4,.tmp 5] (H) ?_;exact⟨cM,rfl⟩
 ·simp at af
def aie(f:p.Small){t}(c:(bu p).isSome)(ht:h5 p t):aI prog 9 [ab.prog p,ab.dI t] (.bj [.b (!(fR p (bk p) t).ch),.i 0]):=by
 intro H;refine aM func9 λB I s=>?_;have a:=Rr.1 ht;refine bS ?_;refine cI .k ((aib f c ht _).b) ?_;rintro _ _ ⟨o,m,rfl,rfl,j⟩;refine c6 ?_;refine bc (λaf=>?_) (λaf=>?_)
 ·simp at af
 ·refine aS ?_;refine cI .k ((TK c a j).b) ?_;rintro _ _ ⟨q,l,rfl,rfl,h⟩;subst l;refine aS ?_;refine cI .k ((TG (g:=⟨t,false⟩) h f a).b) ?_;rintro _ _ ⟨rfl,rfl⟩;refine ay ?_;refine aZ.cl (rs:=[.tmp 4,.tmp 5]) (H':=H) rfl (.tmp rfl (.tmp rfl (.nil))) (c5.refl _) (by exact List.Sublist.cons _ (List.sublist_append_right _ _)) ?_;exact⟨cM,rfl⟩
def x9(p:Prog)(t:cv):Bool:=!(fR p (bk p) t).ch
def Ks(a:p.Small)(t):aI prog 9 [ab.prog p,ab.dI t] (if ij p t then .bj [.b (x9 p t),.i 0] else .bj [.b false,.i 2]):=by
 unfold ij;cases aD:(bu p).isSome with
 | false=>exact aic a aD
 | true=>
  cases ht:h5 p t with
  | false=>exact aid a aD ht
  | true=>exact aie a aD ht
def bP.pS{xs}{s a}{E}(h:bP P f xs H s E)(N:∀y r,s y r->∀B I w v,bY B I w->a7 B I w r->Rel I w y v->∃J o m,bY B J w/\Ext B I w J w/\a7 B J w m/\Rel J w o v/\a o m):bP P f xs H a E:=by
 refine⟨h.1,λB I w M L C q=>((h.2 B I w M L C q).mono λe' O l=>?_)⟩;obtain⟨K,F,g,c,j,l⟩:=l;rcases l with⟨v,x,ae,ak,aL⟩ | l
 ·obtain⟨J,o,m,z,t,G,D,A⟩:=N _ _ aL _ _ _ _ g j ak;exact⟨J,m,z,c.trans t,G,.inl ⟨v,o,ae,D,A⟩⟩
 ·exact⟨K,F,g,c,j,.inr l⟩
def a7.front{B}{I}{F Hx}(E:bY B I w)(m:a7 B I w (F++Hx)):∃J,bY B J w/\Ext B I w J w/\a7 B J w Hx/\∀t v a,.row t 1 v a.length a∈F->Rel J w (.aj 1 (a.map λx=>[x])) v:=by
 obtain⟨J,g⟩:∃J:cr,J=λb o=>I b o\/((∃e∈F,e.dY=some b)/\∃c,w.cell? ⟨b,o,none⟩=some c):=iZ;have s:er I w J w:=⟨λb o h=>by rw[g];exact .inl h,λ_ _ _=>rfl⟩;refine⟨J,⟨E.base,λb o h=>by rw[g] at h;exact h.elim (E.there b o) And.right⟩,⟨s.ix,s.cell,Go.RowKit.Below.refl _ _⟩,?_,λt v a D=>?_⟩
 ·refine⟨λf C=>br.bw (m.ok f (List.mem_append_right _ C)) s (λ_ _=>rfl) (λb l o j=>?_),(List.pairwise_append.1 m.apart).2.1⟩;rw[g] at j;rcases j with j | ⟨⟨e,M,r⟩,_⟩
  ·exact j
  ·exact absurd l ((List.pairwise_append.1 m.apart).2.2 e M f C b r)
 ·have z:=m.ok _ (List.mem_append_left Hx D);obtain⟨K,O,G,L,N⟩:=za (els:=a.map λx=>[x]) (by rw[List.length_map,zx];exact z) (λx H=>by obtain⟨y,_,rfl⟩:=List.mem_map.1 H;rfl);refine N.bw ⟨λb o l=>?_,λ_ _ _=>rfl⟩;rw[g];rcases G b o l with q | q
  ·exact .inl q
  ·rcases L b o l with A | A
   ·exact .inl A
   ·exact .inr ⟨⟨_,D,q⟩,A⟩
def EF{J}{a:Type}{enc:a->ab}{l:List a}(h:Rel J w (.aj 1 ((l.map enc).map λx=>[x])) v):Rel J w (.aj 1 (l.map λx=>[enc x])) v:=by rw[List.map_map] at h;exact h
section
variable{p:Prog}{ah:Nat->Nat->Bool}{q:gB}{g:GT}
def aif(a1:fB p q)(h:bf p g.t){B}{I}{w}{Hx}{u}(hw:bY B I w)(O:a7 B I w (bO p ah q g Hx))(X:Rel I w (.agg [.val q.dh,.aj 1 (q.vs.map λv=>[.val v]),.val q.cZ,.val q.cV]) u):
  ∃J,bY B J w/\Ext B I w J w/\a7 B J w Hx/\Rel J w (ab.dI g.t) u:=by
 obtain⟨J,Kt,K,Y,L⟩:=a7.front (F:=eo p q g.ch::eh ah q g.t) hw O;have Q:=K.keeps;have mem:∀e∈bO p ah q g [],e∈eo p q g.ch::eh ah q g.t:=λe N=>by simpa [bO] using N
 refine⟨J,Kt,K,Y,?_⟩;have S:Rel J w (ab.dy g.t.bC) q.dh:=by
  by_cases j:g.t.bC= []
  ·obtain⟨a,c,e⟩:=a1.rq (by rw[<-h.hp,j];rfl);rw[e,j];exact .dQ _ _ _
  ·exact EF (L 4 _ (g.t.bC.map .b) (by rw[List.length_map];exact mem _ (sK (i:=0) (List.length_pos_iff.2 j))))
 have E:∀{v:Value} {l:al},l≠ []->.row 3 1 v l.length (l.map .i)∈bO p ah q g []->Rel J w (.ints l) v:=λbq R=>EF (L 3 _ _ (by rw[List.length_map];exact mem _ R));have U:Rel J w (.ints g.t.nodes) q.cZ:=by
  have j:g.t.nodes≠ []:=λe=>by have:=h.nl;rw[e] at this;have:=AD a1.aD;simp at*;omega
  exact E j (nN (i:=0) (List.length_pos_iff.2 j))
 have W:Rel J w (.ints g.t.aw) q.cV:=by
  by_cases j:g.t.aw= []
  ·obtain⟨a,c,e⟩:=a1.qf (by have:=h.aj;rw[j] at this;simpa using this.symm);rw[e,j];exact .dQ _ _ _
  ·exact E j (tZ (i:=0) (List.length_pos_iff.2 j))
 cases X with
 | agg _ A f=>
  refine .agg _ _ ?_;generalize A.toList=l at f;cases f with | cons _ a _ l Z f=>cases f with | cons _ b _ l T f=>cases f with | cons _ c _ l M f=>cases f with | cons _ d _ l P f=>
   cases f;rw[bZ Z,bZ M,bZ P];refine .cons _ _ _ _ S (.cons _ _ _ _ ?_ (.cons _ _ _ _ U (.cons _ _ _ _ W .nil)));refine (T.bw Q).CG Fb λi x y m z=>?_;rw[List.getElem?_map] at m z;cases aN:g.t.params[i]? with
   | none=>rw[aN] at z;cases z
   | some l=>
    have r:=(List.getElem?_eq_some_iff.1 aN).1;have j:g.t.params.getD i default=l:=by rw[List.getD_eq_getElem?_getD,aN];rfl
    cases bd:q.vs[i]? with
    | none=>rw[bd] at m;cases m
    | some v=>
     have G:q.vs.getD i default=v:=by rw[List.getD_eq_getElem?_getD,bd];rfl
     rw[aN] at z;rw[bd] at m;cases m;cases z;refine⟨rfl,λb o H=>?_⟩;cases H with
     | cons _ _ _ c _ C D m V=>
      refine .cons _ _ _ c _ C D ?_ (by cases V;exact .nil _ _);rw[bZ m];have s:=ua a1.aD h (k:=i) (by rw[<-h.pl];exact r);have:=E s (Jr (p:=p) (ah:=ah) (q:=q) (g:=g) (Hx:=[]) r s);rw[j,G] at this;exact this
end
def aih(n):ab.aj 1 (List.replicate n [.val (.bool false)])=ab.dy (List.replicate n false):=by rw[ab.dy,List.map_replicate]
def Ku(n):ab.aj 1 (List.replicate n [.val aY])=ab.ints (List.replicate n 0):=by
 show _=ab.aj 1 (List.map _ _);rw[List.map_replicate]
def TS(g:(bu p).isSome):bf p (h0 p):=by
 have h:cq (aG p) 0=true:=hW.2 ⟨rfl,Nat.pow_pos c8,rfl⟩;have t:0<=p.aw:=by
  obtain⟨o,f⟩:=Option.isSome_iff_exists.1 g;have a:=(jf f).1;simp[fO,Bool.and_eq_true,decide_eq_true_eq,beq_iff_eq] at a;obtain⟨⟨⟨r,w⟩,q,m⟩,v⟩:=a;omega
 refine⟨by simp[h0],by simp[h0],by simp[h0],by simp[h0];omega,λi j=>?_,λl s k c=>?_,λk c=>?_,λk c=>?_⟩
 ·have m:=tV g j;obtain⟨o,f⟩:=Option.isSome_iff_exists.1 g;have:=(sj (jf f).2.2.1 (bH (l:=p.c2) (k:=(p.methods.getD i default).gen.toNat) aa)).1;show (((p.methods.map λM=>List.replicate (gg p M.gen).toNat (0:Int)).getD i default).length:Int)=_;rw[sY j,List.length_replicate];unfold gg;omega
 ·obtain⟨M,_,rfl⟩:=List.mem_map.1 s;rw[List.eq_of_mem_replicate c];exact h
 ·rw[List.eq_of_mem_replicate c];exact h
 ·rw[List.eq_of_mem_replicate c];exact h
def aii(h:i<p.methods.length):ab.bp ((h0 p).params.take (i+1))= .aj 1 (((h0 p).params.take i).map (λx=>[.ints x])++[[.ints (List.replicate (gg p (p.methods.getD i default).gen).toNat 0)]]):=by
 have a:i<(h0 p).params.length:=by simp[h0,h]
 rw[<-c3 a];have e:(h0 p).params.getD i default=List.replicate (gg p (p.methods.getD i default).gen).toNat 0:=sY h;rw[e];show ab.aj 1 (List.map _ (_++_))=_;rw[List.map_append];rfl
def aij(f:p.Small)(c:(bu p).isSome=false):aI prog 14 [ab.prog p] (.bj [ab.dI ⟨[],[],[],[]⟩,.i 2]):=by
 intro H;refine aM func14 λB I h=>?_;have a:=Dr f;rw[c] at a;refine aH ?_;refine bT (λdg=>?_);refine aH ?_;refine .scope ?_;refine aV ?_;refine ag (.call .k a) ?_;refine aH ?_;refine bc (λaf=>?_) λaf=>?_
 ·refine a8 ?_;refine .wW ?_;refine .cl (rs:=[.cell 2 31,.tmp 3]) (H':=H) rfl (wc) (.cons (aq.agg (.cons (aq.nil 1) (.cons (aq.nil 1) (.cons (aq.nil 1) (.cons (aq.nil 1) .nil))))) (.cons (.refl _) .nil)) bE ?_;exact⟨cM,rfl⟩
 ·simp at af
def TT(c:(bu p).isSome):0<=p.aw/\p.aw<=40:=by
 have f:=D3 c;obtain⟨o,g⟩:=Option.isSome_iff_exists.1 c;have a:=(jf g).1;simp[fO,Bool.and_eq_true,decide_eq_true_eq,beq_iff_eq] at a;obtain⟨⟨⟨h,m⟩,j,l⟩,q⟩:=a;omega
def aik(L:p.Small)(aD:(bu p).isSome)(H):bP prog 14 [ab.prog p] H (λy H'=>∃(q:gB) (G:GT),y= .bj [.agg [.val q.dh,.aj 1 (q.vs.map λv=>[.val v]),.val q.cZ,.val q.cV],.i 0]/\H'=bO p (bk p) q G H/\fB p q/\bf p G.t/\G.t=A7 p (bk p)) (λ_ _=>False):=by
 refine aM func14 λB I bN=>?_;have m:=Dr L;rw[aD] at m;have S:=jY aD;have nG:=TT aD;have D:p.nodes.length<=120:=by
  obtain⟨o,C⟩:=Option.isSome_iff_exists.1 aD;exact (sk C).2
 have K:(h0 p).params.length=p.methods.length:=by simp[h0]
 refine aH ?_;refine bT (λdg=>?_);refine aH ?_;refine .scope ?_;refine aV ?_;refine ag (.call .k m) ?_;refine aH ?_;refine bc (λaf=>?_) λaf=>?_
 ·simp at af
 ·refine aH ?_;refine .cu mixed ?_;refine .Cx [⟨12,4,31,[aX,aX,aX,aX],13,[ab.dy (h0 p).bC,.val aX,.ints (h0 p).nodes,.ints (h0 p).aw]⟩] 0 14 60 rfl ao ax rfl rfl ao ?_;refine eH (b9) ?_;refine eH (cP) ?_;refine eH (Bn) ?_;refine eH (.eq (.CK p.methods.length rfl rfl rfl rfl rfl rfl rfl aa BQ) (aih _)) ?_;refine eH (b9) ?_;refine eH (cP) ?_;refine eH (Bn) ?_;refine eH (.eq (ad.CK p.nodes.length rfl rfl rfl rfl rfl rfl rfl aa BQ) (Ku _)) ?_;refine eH (b9) ?_;refine eH (cP) ?_;refine eH (ad.eq (ad.CK p.aw.toNat rfl rfl rfl rfl rfl aa aa aa BQ) (Ku _)) ?_;refine eH (ad.BZ rfl rfl cD rfl) ?_;refine cN.zg [] [] ⟨12,4,31,[aX,aX,aX,aX],13,[ab.dy (h0 p).bC,.val aX,ab.ints (h0 p).nodes,ab.ints (h0 p).aw]⟩ rfl ⟨0,14,ax⟩ rfl rfl rfl rfl rfl rfl rfl ?_;refine cN.zh [] [] ⟨12,4,31,[aX,aX,aX,aX],13,[ab.dy (h0 p).bC,.val aX,ab.ints (h0 p).nodes,ab.ints (h0 p).aw]⟩ rfl ⟨0,14,ax⟩ rfl rfl rfl (λb H1 X hu=>.store rfl rfl rfl rfl rfl rfl rfl rfl hu fl fl) ?_;refine cN.nil (λea=>?_);simp only[List.map_cons,List.map_nil,List.cons_append,List.nil_append];refine bW.done rfl ?_;refine aH ?_;generalize ea 4=tb;refine aJ ?_;refine aA.qM (b:=tb) (t:=31) 23 1 1 dt rfl rfl ?_;refine bm (λz st=>∃(i:Nat) (v1:Value),st=⟨[(28,.i i),(27,.i p.methods.length),(26,.aj 9 (p.methods.map eS)),(4,.p tb 0),(2,.p dg 0),(1,.ptr (cH p))],.own 23 1 v1::.au tb 31 [ab.dy (h0 p).bC,.as (ab.bp ((h0 p).params.take i)) v1,ab.ints (h0 p).nodes,ab.ints (h0 p).aw]::.au dg 31 [.val aX,.val aX,.val aX,.val aX]::H⟩/\z=p.methods.length - i/\i<=p.methods.length) (⟨0,_,rfl,rfl,aa⟩) ?_;rintro z _ ⟨i,v1,rfl,rfl,Z⟩;refine ay ?_;refine az (λae=>?_) λae=>?_
  ·have j:i<p.methods.length:=by omega
   obtain⟨M,c4⟩:∃M,M=p.methods.getD i default:=⟨_,rfl⟩;have Y:=tV aD j;obtain⟨A,O⟩:∃A,A=(gg p M.gen).toNat:=⟨_,rfl⟩;have N:A<=10/\0<=gg p M.gen/\(A:Int)=p.c2.getD M.gen.toNat default:=by
    obtain⟨o,C⟩:=Option.isSome_iff_exists.1 aD;have W:=(sj (jf C).2.2.1 (bH (l:=p.c2) (k:=M.gen.toNat) Lx)).2;have de:=(sj (jf C).2.2.1 (bH (l:=p.c2) (k:=M.gen.toNat) Lx)).1;unfold gg at O ⊢;omega
   refine aJ ?_;refine bT (λxI=>?_);refine aH ?_;rw[<-c4];refine eB 6 ?_;refine b0 10 60 ?_;refine ay ?_;refine bh (UZ) ?_;refine aR ?_;refine bh (ad.eq (ad.CK A rfl rfl rfl rfl rfl aa aa aa BQ) (Ku _)) ?_;refine ed.cc (x:=.aj 1 [[ab.ints (List.replicate A 0)]]) rfl rfl rfl (ad.row rfl rfl cD rfl rfl rfl rfl rfl rfl) ?_;refine aQ ?_;refine ai.dJ rfl rfl rfl rfl rfl rfl rfl rfl (aq.refl _) (rfl) (λ_=>dt) cF cF (λAc=>?_);refine a8 ?_;exact aU (⟨i+1,Ac,by rw[aii j, <-c4, <-O],rfl,j⟩)
  ·obtain rfl:i=p.methods.length:=by omega
   rw[<-K,List.take_length];refine ay ?_;refine aA.GL dt (.cons (.refl _) (.cons (aq.eY _ _) (.cons (.refl _) (.cons (.refl _) .nil)))) ?_;refine eB 4 ?_;refine aH ?_;refine cI .k ((DG L aD (h0 p) _).b) ?_;rintro _ _ ⟨bz,ms,rfl,rfl,Q⟩;refine bQ ?_;refine cI .k ((TK aD (TS aD) Q).b) ?_;rintro _ _ ⟨q,V,rfl,rfl,f⟩;subst V;refine aH ?_;refine aA.label ?_;refine aH ?_;refine aA.Fu (λz st=>∃(G:GT),st=⟨[(7,.p q.bz 0),(2,.p dg 0),(1,.ptr (cH p))],bO p (bk p) q G (.au dg 31 [.val aX,.val aX,.val aX,.val aX]::H)⟩/\z=oO p G.t/\bf p G.t/\sJ p (bk p) (oO p G.t+1) G.t=A7 p (bk p)) ⟨_,_,⟨⟨_,false⟩,rfl,rfl,TS aD,rfl⟩,h1,(List.Sublist.cons_cons _ (List.Sublist.append (List.Sublist.refl _) (List.sublist_cons_self _ _)))⟩ ?_;rintro z _ ⟨G,rfl,rfl,w,h⟩;refine aV ?_;refine cI .k ((TG (g:=G) f L w).b) ?_;rintro _ _ ⟨rfl,rfl⟩;refine aH ?_;refine az (λak=>?_) λak=>?_
   ·have c:(fR p (bk p) G.t).ch=false:=by simpa using ak
    have ny:=TQ aD (bk p) w c;rw[sJ,c] at h;refine ay ?_;refine aA.perm (H':=.au dg 31 [.val aX,.val aX,.val aX,.val aX]::bO p (bk p) q (fR p (bk p) G.t) H) (by first | exact List.perm_middle (l₁:=eo p q (fR p (bk p) G.t).ch::eh (bk p) q (fR p (bk p) G.t).t) | exact (List.perm_middle (l₁:=eo p q (fR p (bk p) G.t).ch::eh (bk p) q (fR p (bk p) G.t).t)).symm) ?_;refine aS ?_;apply ai.gb rfl rfl rfl rfl rfl rfl rfl (by simp[fa,f.rr,f.sL,f.oF,f.m2]) (by simp[dG,cJ,fa,f.rr,f.sL,f.oF,f.m2]) rfl
    (case hu=>repeat (first | exact bG.head _ _ _ | apply bG.tail));(case hfit=>rfl);(case hds=>rfl)
    refine aV ?_;refine aZ.wW ?_;refine aZ.cl (rs:=[.cell 2 31,.tmp 3]) (H':=bO p (bk p) q (fR p (bk p) G.t) H) rfl (wc) (c5.refl _) (by exact List.sublist_cons_self _ _) ?_;exact⟨q,fR p (bk p) G.t,rfl,rfl,f,by rw[ny];exact w,by rw[ny];exact h⟩
   ·have c:(fR p (bk p) G.t).ch=true:=by simpa using ak
    have J:=TR aD (bk p) w c;have r:=Kn aD (bk p) w;rw[sJ,c,if_pos rfl,Kr aD (bk p) _ r J] at h;refine aQ ?_;exact aU (⟨fR p (bk p) G.t,rfl,rfl,r,h⟩)
def ail(r:p.Small)(t:(bu p).isSome):aI prog 14 [ab.prog p] (.bj [ab.dI (A7 p (bk p)),.i 0]):=λH=>by
 refine bP.pS (aik r t H) ?_;rintro _ _ ⟨q,G,rfl,rfl,m,E,h⟩ B I w v C j s;cases s with
 | bj _ D c=>
  generalize A:D.toList=l at c;cases c with | cons _ a _ l z c=>cases c with | cons _ b _ l o c=>
   cases c;obtain⟨J,F,f,x,g⟩:=aif m E C j z;rw[h] at g;exact⟨J,_,_,F,f,x,.bj _ _ (by rw[A];exact .cons _ _ _ _ g (.cons _ _ _ _ (o.bw f.keeps) .nil)),rfl,rfl⟩
def aim(a:p.Small):aI prog 14 [ab.prog p] (if(bu p).isSome then .bj [ab.dI (A7 p (bk p)),.i 0] else .bj [ab.dI ⟨[],[],[],[]⟩,.i 2]):=by
 cases aD:(bu p).isSome with
 | true=>exact ail a aD
 | false=>exact aij a aD
def ain(h:k<3):h7 p s (k::r)=h7 p s r:=by
 have e:kT p k= []:=by rw[kT,if_neg aa]
 rw[h7,e];rfl
def TU(c:kT p k=I)(h:I.any (λx=>x.1==s)=false):h7 p s (k::r)=h7 p s r/\I.filter (λx=>x.1==s)= []:=by
 have e:I.filter (λx=>x.1==s)= []:=List.filter_eq_nil_iff.2 λx a=>by have:=List.any_eq_false.1 h x a;simpa using this
 refine⟨?_,e⟩;rw[h7,c,e];rfl
def aio(f:kT p k=I)(h:I.any (λx=>x.1==s)=true):h7 p s (k::r)=I.filter (λx=>x.1==s):=by
 rw[h7,f];have e:(I.filter λx=>x.1==s).isEmpty=false:=by
  rw[<-Bool.not_eq_true,List.isEmpty_iff];intro e;obtain⟨x,a,c⟩:=List.any_eq_true.1 h;have:x∈I.filter λx=>x.1==s:=List.mem_filter.2 ⟨a,c⟩;rw[e] at this;cases this
 simp only[e];rfl
def aip{j}(h:j<I.length)(a:((I.getD j default).1==s)=true):(I.take (j+1)).filter (λx=>x.1==s)=(I.take j).filter (λx=>x.1==s)++[I.getD j default]/\(I.take (j+1)).any (λx=>x.1==s)=true:=by
 rw[<-c3 h,List.filter_append,List.any_append];simp only[List.filter_cons,List.filter_nil,List.any_cons,a,if_true,Bool.true_or,Bool.or_true,and_self]
def aiq{j}(h:j<I.length)(a:((I.getD j default).1==s)=false):(I.take (j+1)).filter (λx=>x.1==s)=(I.take j).filter (λx=>x.1==s)/\(I.take (j+1)).any (λx=>x.1==s)=(I.take j).any (λx=>x.1==s):=by
 rw[<-c3 h,List.filter_append,List.any_append];simp only[List.filter_cons,List.filter_nil,List.any_cons,List.any_nil,a,Bool.or_false,List.append_nil,and_self,if_false,Bool.false_eq_true]
def air(O W)(x):ab.mg (O++(W++[x]))= .aj 2 ((O++W).map q5++[q5 x]):=by rw[<-List.append_assoc,Qp]
def ais{c g:Type}[Inhabited c](f:c->List g){l:List c}{i}(h:i<l.length):(l.take (i+1)).flatMap f=(l.take i).flatMap f++f (l.getD i default):=by
 rw[<-c3 h,List.flatMap_append];simp
theorem Kv{p}{s}(n)(h:∀k∈p.aF,k.inits.length<=n):∀l:al,(h7 p s l).length<=n
 | []=>Nat.zero_le _
 | k::r=>by
  simp[h7];split
  ·exact Kv n h r
  ·refine Nat.le_trans zE ?_;unfold kT;split
   ·by_cases a:(k - 3).toNat<p.aF.length
    ·exact h _ (bH a)
    ·rw[List.getD_eq_getElem?_getD,List.getElem?_eq_none aa];exact Nat.zero_le _
   ·exact Nat.zero_le _
theorem TV(c):∀(l:List (Int×Int)) (a:al),kQ c l a=true->(∀x∈l,x.1∉a)/\(l.map (·.1)).Nodup
 | [],a,h=>⟨λx f=>by(cases f),.nil⟩
 | y::r,a,h=>by
  simp[kQ,Bool.and_eq_true,Bool.not_eq_true',List.contains_eq_mem,decide_eq_false_iff_not] at h;obtain⟨j,m⟩:=TV c r _ h.2;refine⟨λx f=>?_,?_⟩
  ·rcases List.mem_cons.1 f with rfl | f
   ·exact h.1.1.2
   ·exact λe=>j x f (List.mem_append_left _ e)
  ·rw[List.map_cons,List.nodup_cons];refine⟨λe=>?_,m⟩;obtain⟨x,f,g⟩:=List.mem_map.1 e;exact j x f (by rw[g];simp)
def TW{c}(h:eJ p c):∀k∈p.aF,k.inits.length<=20000:=by
 obtain⟨⟨t,w⟩,j⟩:=vf h;have q:(bu p).isSome=true:=by unfold eJ at h;rw[Bool.and_eq_true] at h;exact h.2
 have a:=j;simp only[fO,Bool.and_eq_true,decide_eq_true_eq] at a;intro k s;obtain⟨i,m,rfl⟩:=List.mem_iff_getElem.1 s;have e:p.aF.getD i default=p.aF[i]:=by rw[List.getD_eq_getElem?_getD,List.getElem?_eq_getElem m];rfl
 have g:=List.all_eq_true.1 a.2 i (List.mem_range.2 m);rw[nE,Bool.and_eq_true,e] at g;have l:=(TV _ _ _ g.2).2;have f:=Ib _ _ _ g.2;have v:=(pk (p:=p) (c:=(i:Int)+3) (by unfold eJ;rw[q,Bool.and_true,Bool.and_eq_true,decide_eq_true_eq,decide_eq_true_eq];omega)).bq;have:=List.Nodup.length_le_of_subset l (l₂:=cw p ((i:Int)+3)) (λy r=>by obtain⟨x,o,rfl⟩:=List.mem_map.1 r;exact f x o);rw[List.length_map] at this;omega
def ait(bV:p.Small){c}(bb:eJ p c):aI prog 191 [ab.prog p,.i c] (ab.mg (mV p c)):=by
 intro H;refine aM func191 λB I bN=>?_;have a3:=pk bb;obtain⟨aL,P,gJ,V,a5,A,iy,bI,T,a0,Z,a9⟩:=pk bb;have o:=TW bb;have aD:(bu p).isSome=true:=by unfold eJ at bb;rw[Bool.and_eq_true] at bb;exact bb.2
 have dU:(ca p).length=p.aF.length:=by simp[ca]
 refine a8 ?_;refine ag (.call .k (HQ p aa (λc h=>(V c h).1))) ?_;refine aR ?_;refine ag (.call .k (PU A aa aa)) ?_;refine bA ?_;refine ag (.call .k (H7 bV aD aL P)) ?_;refine dW ?_;refine hi 8 101 2 ?_;refine bm (λm C=>∃(i:Nat) (v:Value) (O:List (Int×Int)),C=⟨[(9,.i i),(8,.as (ab.mg O) v),(7,.ints (cw p c)),(5,.ints (dH (ca p) c)),(2,.ptr (cH p))],.own 101 2 v::H⟩/\m=(cw p c).length - i/\i<=(cw p c).length/\O=(((cw p c).take i).flatMap λs=>h7 p s (dH (ca p) c))/\O.length<=i*20000) ⟨0,_,[],rfl,rfl,aa,rfl,aT⟩ ?_;rintro m _ ⟨i,v,O,rfl,rfl,aN,J,fw⟩;refine a8 ?_;refine az (λaf=>?_) λaf=>?_
 ·have E:i<(cw p c).length:=by omega
  obtain⟨s,b4⟩:∃s,s=(cw p c).getD i default:=iZ;have F:=ais (λs=>h7 p s (dH (ca p) c)) E;rw[<-b4, <-J] at F;have N:=Kv (s:=s) 20000 o;refine dW ?_;refine bm (λm C=>∃(k:Nat) (z:Bool) (v:Value) (W:List (Int×Int)),C=⟨[(11,.i k),(10,.b z),(9,.i i),(8,.as (ab.mg (O++W)) v),(7,.ints (cw p c)),(5,.ints (dH (ca p) c)),(2,.ptr (cH p))],.own 101 2 v::H⟩/\m=(dH (ca p) c).length - k/\k<=(dH (ca p) c).length/\(z=true->W=h7 p s (dH (ca p) c))/\(z=false->W= []/\h7 p s (dH (ca p) c)=h7 p s ((dH (ca p) c).drop k))) (⟨0,false,v,[],by rw[List.append_nil],rfl,aa,λh=>(by cases h),λ_=>zz⟩) ?_;rintro m _ ⟨k,z,v,W,rfl,rfl,bD,Y,D⟩;refine di ?_;refine az (λae=>?_) λae=>?_
  ·have a:k<(dH (ca p) c).length/\z=false:=by revert ae;cases z <;> simp <;> omega
   obtain⟨a,rfl⟩:=a;obtain⟨rfl,g⟩:=D rfl;obtain⟨q,l⟩:∃q,q=(dH (ca p) c).getD k default:=iZ;have hQ:=T q (l▸bH a);have S:(dH (ca p) c).drop k=q::(dH (ca p) c).drop (k+1):=by rw[l];exact u5 a
   rw[S] at g;refine ay ?_;refine b0 5 81 ?_;refine aP ?_;refine ag (.call .k (abf p aa _)) ?_;refine aH ?_;rw[<-l];refine az (λak=>?_) λak=>?_
   ·have w:q<3:=by revert ak;simp <;> omega
    refine a8 ?_;exact aU (⟨k+1,false,v,[],rfl,rfl,a,λh=>(by cases h),λ_=>⟨rfl,by rw[g,ain w]⟩⟩)
   ·have w:3<=q:=by revert ak;simp <;> omega
    have K:(q - 3).toNat<p.aF.length:=by omega
    obtain⟨I,M⟩:∃I,I=(p.aF.getD (q - 3).toNat default).inits:=iZ;have a2:I.length<=20000:=M▸o _ (bH K);have t:kT p q=I:=by rw[Qn w,M]
    refine aH ?_;refine b0 7 81 ?_;refine ay ?_;refine bh (.arith rfl rfl rfl rfl rfl rfl (wrap64 (by rw[<-l];omega))) ?_;refine aQ ?_;refine ag ((by first | exact .fC rfl rfl rfl rfl rfl ⟨by rw[<-l];omega,by rw[<-l];omega⟩ | exact .ep rfl rfl rfl rfl rfl ⟨by rw[<-l];omega,by rw[<-l];omega⟩)) ?_;refine ay ?_;rw[<-l, <-M];refine aS ?_;refine bm (λm C=>∃(j:Nat) (v:Value),C=⟨[(13,.i j),(12,ab.mg I),(11,.i k),(10,.b ((I.take j).any λx=>x.1==s)),(9,.i i),(8,.as (ab.mg (O++((I.take j).filter λx=>x.1==s))) v),(7,.ints (cw p c)),(5,.ints (dH (ca p) c)),(2,.ptr (cH p))],.own 101 2 v::H⟩/\m=I.length - j/\j<=I.length) ⟨0,v,rfl,rfl,aa⟩ ?_;rintro m _ ⟨j,v,rfl,rfl,cp⟩;refine a8 ?_;refine az (λaL=>?_) λaL=>?_
    ·have f:j<I.length:=by omega
     have G:=aip (s:=s) f;have U:=aiq (s:=s) f;refine aS ?_;refine b0 9 81 ?_;refine c6 ?_;rw[<-b4];refine bc (λbo=>?_) λbo=>?_
     ·obtain⟨R,Q⟩:=G bo;refine bA ?_;refine .cc (x:=.aj 2 [q5 (I.getD j default)]) rfl rfl rfl ie ?_;refine ai.dJ rfl rfl rfl rfl rfl rfl rfl rfl (aq.refl _) (rfl) (λ_=>dt) KQ KQ λaiu=>?_;refine a8 ?_;exact aU (⟨j+1,aiu,by rw[R,Q,air],rfl,f⟩)
     ·obtain⟨L,X⟩:=U bo;refine aJ ?_;exact aU ⟨j+1,v,by rw[L,X],rfl,f⟩
    ·obtain rfl:j=I.length:=by omega
     rw[List.take_length];refine bA ?_;exact aU (⟨k+1,I.any (λx=>x.1==s),v,I.filter (λx=>x.1==s),rfl,rfl,a,λh=>by rw[g,aio t h],λh=>⟨(TU (r:=[]) t h).2,by rw[g,(TU t h).1]⟩⟩)
  ·have rh:W=h7 p s (dH (ca p) c):=by
    cases z with
    | true=>exact Y rfl
    | false=>
     obtain⟨bM,bJ⟩:=D rfl;have:k=(dH (ca p) c).length:=by revert ae;simp;omega
     rw[bM,bJ,this,List.drop_length];rfl
   subst rh;refine bA ?_;exact aU (⟨i+1,v,_,rfl,rfl,E,F.symm,by have dc:=N (dH (ca p) c);rw[List.length_append,Nat.succ_mul];omega⟩)
 ·obtain rfl:i=(cw p c).length:=by omega
  rw[List.take_length] at J;refine bS ?_;refine .cl (rs:=[.tmp 4]) (H':=H) rfl eR CN bE ?_;exact⟨by rw[J];rfl,rfl⟩
def iu(q:gB)(t:cv):aC:=fH q.dh t.bC++(db q.cZ t.nodes++(db q.cV t.aw++iD q.vs t.params))
abbrev aiv(p:Prog)(q:gB)(A:List cY):bl:=cH p++([.val q.dh,.aj 1 (q.vs.map λv=>[.val v]),.val q.cZ,.val q.cV]++[ab.gz A])
abbrev ly(p:Prog)(q:gB)(A:List cY):br:=.au q.bz 152 (aiv p q A)
abbrev cT(p:Prog)(A:List cY)(q:gB)(g:GT)(Hx:aC):aC:=ly p q A::(iu q g.t++Hx)
def TX(q)(t:cv)(Hx):∃A C,∀l,l≠ []->iu q {t with nodes:=l}++Hx=A++.row 3 1 q.cZ l.length (l.map .i)::C:=
 ⟨fH q.dh t.bC,db q.cV t.aw++iD q.vs t.params++Hx,λl h=>by simp[iu,db,h]⟩
def TY(q)(t:cv)(Hx):∃A C,∀l,l≠ []->iu q {t with aw:=l}++Hx=A++.row 3 1 q.cV l.length (l.map .i)::C:=
 ⟨fH q.dh t.bC++db q.cZ t.nodes,iD q.vs t.params++Hx,λl h=>by simp[iu,db,h]⟩
def TZ(q)(t:cv)(Hx):∃A C,∀l,l≠ []->iu q {t with bC:=l}++Hx=A++.row 4 1 q.dh l.length (l.map .b)::C:=
 ⟨[],db q.cZ t.nodes++(db q.cV t.aw++iD q.vs t.params)++Hx,λl h=>by simp[iu,fH,h]⟩
def T0(q)(t:cv)(Hx){k}(o:k<t.params.length):∃A C,∀l,l≠ []->iu q {t with params:=t.params.set k l}++Hx=A++.row 3 1 (q.vs.getD k default) l.length (l.map .i)::C:=by
 obtain⟨A,C,h⟩:=RB q.vs o;exact⟨fH q.dh t.bC++(db q.cZ t.nodes++(db q.cV t.aw++A)),C++Hx,λl g=>by simp[iu,h,db,g]⟩
section
variable{p:Prog}{A:List cY}{q:gB}{g:GT}{Hx:aC}
def gT(h:i<g.t.nodes.length):.row 3 1 q.cZ g.t.nodes.length (g.t.nodes.map .i)∈cT p A q g Hx:=by
 obtain⟨A,C,e⟩:=TX q g.t Hx;have:=e g.t.nodes (ne_of_lt h);show _∈_::(iu q {g.t with nodes:=g.t.nodes}++Hx);rw[this];simp
def lz(h:i<g.t.aw.length):.row 3 1 q.cV g.t.aw.length (g.t.aw.map .i)∈cT p A q g Hx:=by
 obtain⟨A,C,e⟩:=TY q g.t Hx;have:=e g.t.aw (ne_of_lt h);show _∈_::(iu q {g.t with aw:=g.t.aw}++Hx);rw[this];simp
def v8(h:i<g.t.bC.length):.row 4 1 q.dh g.t.bC.length (g.t.bC.map .b)∈cT p A q g Hx:=by
 obtain⟨A,C,e⟩:=TZ q g.t Hx;have:=e g.t.bC (ne_of_lt h);show _∈_::(iu q {g.t with bC:=g.t.bC}++Hx);rw[this];simp
def qq{k i}(f:k<g.t.params.length)(h:i<(g.t.params.getD k default).length):.row 3 1 (q.vs.getD k default) (g.t.params.getD k default).length ((g.t.params.getD k default).map .i)∈cT p A q g Hx:=by
 obtain⟨A,C,e⟩:=T0 q g.t Hx f;have:=e (g.t.params.getD k default) (ne_of_lt h);rw[(qe f).2 rfl] at this;show _∈_::(iu q {g.t with params:=g.t.params}++Hx);rw[this];simp
def EG{c}{r}{o}{agg}{t tb i}{x z}{cs}{y}{B w}{A0 C0}{H H2}{ds}[ht:cQ P t (agg,1)](j:o.guard=none)(K:o.dst=none)(h:o.op= .store t x z)
  (E:aO (aE env) x=some (B,.val (ki v i 1))) (s:B=true) (G:aO (aE env) z=some (w,y)) (D:w=true) (C:fa y) (I:dG (cJ y)) (g:Nat.beq (cJ y).length 1) (F:i<cs.length)
  (J:H=ly p q A::(A0++.row tb 1 v cs.length cs::C0)) (hds:∀a,(cs++a).take i++cJ y++(cs++a).drop (i+1)=ds++a) (l:ds.length=cs.length) (m:ly p q A::(A0++.row tb 1 v cs.length ds::C0)=H2)
  (next:ai c r P ops rest ⟨env,H2⟩ Q):ai c r P ops (o::rest) ⟨env,H⟩ Q:=by
 subst J;subst m;exact .M8 (i:=i) (H':=λe=>ly p q A::(A0++e::C0)) (ds:=ds) j K h E s G D C I g (λe=>.tail _ _ _ _ _ (.under A0)) (λe L=>.tail _ _ _ _ _ (.under A0)) F rfl hds l next
section
variable{c:Ctx}{r:Option Nat}{P:Program}{ops:Array Oper}{rest:cg}{o:Oper}{env:List (Nat×ab)}{Q:Exit->Act->World->Prop}{agg:Bool}{t i:Nat}{pp z:Operand}{lC ui:Bool}{x:Nat}{y:Int}
def A8[ht:cQ P t (agg,1)](a:o.guard=none)(s:o.dst=none)(h:o.op= .store t pp z)
  (v:aO (aE env) pp=some (lC,.val (ki q.cZ i 1))) (f:lC=true) (l:aO (aE env) z=some (ui,.i y)) (m:ui=true) (aN:i<g.t.nodes.length) (hy:y=pr (g.t.nodes.getD i default) x)
  (next:ai c r P ops rest ⟨env,cT p A q (g.bX i x) Hx⟩ Q):ai c r P ops (o::rest) ⟨env,cT p A q g Hx⟩ Q:=by
 obtain⟨A0,C0,e⟩:=TX q g.t Hx;subst hy;refine EG (p:=p) (A:=A) (q:=q) (cs:=g.t.nodes.map .i) (ds:=(hf g.t.nodes i x).map .i) (A0:=A0) (C0:=C0) (tb:=3) a s h v f l m rfl rfl rfl ng ?_ (λmore=>DZ aN _ more) (by simp[kW]) ?_ next
 ·rw[List.length_map];exact congrArg (ly p q A::·) (e g.t.nodes (ne_of_lt aN))
 ·have:=e (hf g.t.nodes i x) (ne_of_lt (i:=i) (by rw[kW];exact aN));rw[List.length_map, <-kW g.t.nodes i x];exact congrArg (ly p q A::·) this.symm
def EH[ht:cQ P t (agg,1)](a:o.guard=none)(s:o.dst=none)(h:o.op= .store t pp z)
  (v:aO (aE env) pp=some (lC,.val (ki q.cV i 1))) (f:lC=true) (l:aO (aE env) z=some (ui,.i y)) (m:ui=true) (aN:i<g.t.aw.length) (hy:y=pr (g.t.aw.getD i default) x)
  (next:ai c r P ops rest ⟨env,cT p A q (g.eN i x) Hx⟩ Q):ai c r P ops (o::rest) ⟨env,cT p A q g Hx⟩ Q:=by
 obtain⟨A0,C0,e⟩:=TY q g.t Hx;subst hy;refine EG (p:=p) (A:=A) (q:=q) (cs:=g.t.aw.map .i) (ds:=(hf g.t.aw i x).map .i) (A0:=A0) (C0:=C0) (tb:=3) a s h v f l m rfl rfl rfl ng ?_ (λmore=>DZ aN _ more) (by simp[kW]) ?_ next
 ·rw[List.length_map];exact congrArg (ly p q A::·) (e g.t.aw (ne_of_lt aN))
 ·have:=e (hf g.t.aw i x) (ne_of_lt (i:=i) (by rw[kW];exact aN));rw[List.length_map, <-kW g.t.aw i x];exact congrArg (ly p q A::·) this.symm
def T1{k}[ht:cQ P t (agg,1)](a:o.guard=none)(v:o.dst=none)(h:o.op= .store t pp z)
  (w:aO (aE env) pp=some (lC,.val (ki (q.vs.getD k default) i 1))) (f:lC=true) (m:aO (aE env) z=some (ui,.i y)) (s:ui=true) (l:k<g.t.params.length) (aN:i<(g.t.params.getD k default).length) (hy:y=pr ((g.t.params.getD k default).getD i default) x)
  (next:ai c r P ops rest ⟨env,cT p A q (g.im k i x) Hx⟩ Q):ai c r P ops (o::rest) ⟨env,cT p A q g Hx⟩ Q:=by
 obtain⟨A0,C0,e⟩:=T0 q g.t Hx l;subst hy;refine EG (p:=p) (A:=A) (q:=q) (cs:=(g.t.params.getD k default).map .i) (ds:=(hf (g.t.params.getD k default) i x).map .i) (A0:=A0) (C0:=C0) (tb:=3) a v h w f m s rfl rfl rfl ng ?_ (λmore=>DZ aN _ more) (by simp[kW]) ?_ next
 ·have:=e (g.t.params.getD k default) (ne_of_lt aN);rw[(qe l).2 rfl] at this;rw[List.length_map];exact congrArg (ly p q A::·) this
 ·have:=e (hf (g.t.params.getD k default) i x) (ne_of_lt (i:=i) (by rw[kW];exact aN));rw[List.length_map, <-kW (g.t.params.getD k default) i x];exact congrArg (ly p q A::·) this.symm
def aiw[ht:cQ P t (agg,1)](a:o.guard=none)(s:o.dst=none)(h:o.op= .store t pp z)
  (v:aO (aE env) pp=some (lC,.val (ki q.dh i 1))) (f:lC=true) (l:aO (aE env) z=some (ui,.b true)) (m:ui=true) (aN:i<g.t.bC.length)
  (next:ai c r P ops rest ⟨env,cT p A q (g.reach i) Hx⟩ Q):ai c r P ops (o::rest) ⟨env,cT p A q g Hx⟩ Q:=by
 obtain⟨A0,C0,e⟩:=TZ q g.t Hx;refine EG (p:=p) (A:=A) (q:=q) (cs:=g.t.bC.map .b) (ds:=(g.t.bC.set i true).map .b) (A0:=A0) (C0:=C0) (tb:=4) a s h v f l m rfl rfl rfl ng ?_ (λmore=>Kh aN true more) aT ?_ next
 ·rw[List.length_map];exact congrArg (ly p q A::·) (e g.t.bC (ne_of_lt aN))
 ·have:=e (g.t.bC.set i true) (ne_of_lt (i:=i) (by rw[List.length_set];exact aN));rw[List.length_set] at this;rw[List.length_map];exact congrArg (ly p q A::·) this.symm
end
end
structure jo(p:Prog)(q:gB):Prop where
 aD:(bu p).isSome=true
 oQ:q.vs.length=p.methods.length
 rq:p.methods.length=0->∃a c,q.dh= .slice a 0 c
 qf:p.aw=0->∃a c,q.cV= .slice a 0 c
 rr:q.dh.oneCell'=true
 sL:∀v∈q.vs,v.oneCell'=true
 oF:q.cZ.oneCell'=true
 m2:q.cV.oneCell'=true
def jo.many{q}(h:jo p q):aG p<=13:=mm h.aD
def aix{L}:(e3 L s).isSome=(L.map (·.1)).contains s:=by
 unfold e3;rw[Option.isSome_map,Bool.eq_iff_iff,List.find?_isSome,List.contains_iff_mem];simp[List.mem_reverse,List.mem_map,beq_iff_eq]
def aiy{c:Nat}(l:eJ p c){s}(g:s∈cw p c):qc p c s=if((mV p c).map (·.1)).contains s then 2 else 4:=by
 have f:((nH p c).map (·.1)).contains s=((mV p c).map (·.1)).contains s:=by
  rw[<-aix (L:=mV p c),abN g,Bool.eq_iff_iff,List.contains_iff_mem,List.mem_map];unfold nH;constructor
  ·rintro⟨x,j,rfl⟩;obtain⟨y,m,a⟩:=List.mem_filterMap.1 j;cases bq:e3 (k3 p c) y with
   | none=>rw[bq] at a;cases a
   | some n=>rw[bq] at a;cases a;rw[bq];rfl
  ·intro h;obtain⟨n,hn⟩:=Option.isSome_iff_exists.1 h;exact⟨(s,n),List.mem_filterMap.2 ⟨s,g,tc⟩,rfl⟩
 unfold qc;rw[l,if_pos rfl,f]
end Go.Proofs.YtodccgailpkgeaaGreat

