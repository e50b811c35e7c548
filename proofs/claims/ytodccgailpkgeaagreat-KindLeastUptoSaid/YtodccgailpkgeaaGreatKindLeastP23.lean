/- Part 23 of the proof: contracts of functions of the program and what they need. No condition beyond those that each theorem names. -/
import Derived.Test.YtodccgailpkgeaaGreatKindLeastP22
set_option maxHeartbeats 1000000
set_option linter.unusedVariables false
set_option linter.unusedSimpArgs false
set_option maxRecDepth 10000
namespace Go.Proofs.YtodccgailpkgeaaGreat
open Go.Eng
open Go.Eng.Fc
open Go.Eng.ei
variable{I:a8}{w:World}{b:Bool}{v:Value}{P:Program}{H Hx:List aj}{f:FuncId}{x lb y y':Bool×Bool}{p:Prog}{t:bG}{a:List Int}{m i k cJ:Nat}
def ahR(b:Bool):aa:=if b then .aF 1 [] else .one
abbrev n9(b:Bool)(v:Value):aa:=.as (ahR b) v
theorem FA{v u:Value}(h:Rel I w (n9 b v) u):u=v/\(b=true->∃a il,v= .slice a 0 il)/\v.oneCell'=true:=by
 cases h;rename_i ag;refine⟨rfl,?_⟩;cases b with
 | true=>
  have ag:Rel I w (.aF 1 []) v:=ag;cases ag with
  | eP=>exact⟨λ_=>⟨_,_,rfl⟩,rfl⟩
  | aF _ _ _ _ _ _ ax=>cases ax;exact⟨λ_=>⟨_,_,rfl⟩,rfl⟩
 | false=>
  have ag:Rel I w .one v:=ag;cases ag with
  | single _ h=>exact⟨(λh=>by cases h),h⟩
theorem au.dS{c:Ctx}{r:Option Nat}{ops:Array Oper}{rest:List Oper}{env:List (Nat×aa)}{Q:Exit->Act->World->Prop}{d:Nat}(aN:aX env d=some (n9 b v))(h:(b=true->∃a il,v= .slice a 0 il)->v.oneCell'=true->au c r P ops rest ⟨(d,.val v)::env,H⟩ Q):au c r P ops rest ⟨env,H⟩ Q:=λa w s=>by
 obtain⟨I,hw,he,az,aC⟩:=s.mem;obtain⟨dg,dh,ea⟩:=FA (aC d _ aN);exact h dh ea a w ⟨s.ds,s.size,I,hw,he,az,λt x ag=>by
  rw[l0] at ag;split at ag
  ·rename_i e;cases ag;subst e;rw[dg];exact .val _
  ·exact aC t x ag⟩
theorem Ul{v u:Value}(h:Rel I w (n9 b v) u):u.oneCell'=true/\Rel I w (.val v) u:=by
 obtain⟨dg,dh,ea⟩:=FA h;subst dg;exact⟨ea,.val _⟩
theorem et.clone{X:jP}{ρ:Nat->Option aa}{o:Oper}{ys:List aa}{F H':Value->List aj}{x:Value->aa}(ak:gZ P ρ o f ys)(h:∀H,b1 P f ys H (λy H1=>∃v,y= .val v/\H1=F v++H/\(b=true->∃a c,v= .slice a 0 c)/\v.oneCell'=true) (λ_ _=>False))(b0:∀v,(F v++H).Perm (H' v))(ag:∀v,x v=n9 b v):et X P H H' x ρ o:=λB I w r a hw az aA=>
 (x3 (c:=⟨B,I,w,0,[]⟩) ak ((h H).b) hw az aA).mono (λv w' hR=>by
  obtain⟨aQ,db,y,cI,a2,a3,a4,dr,rfl,rfl,dg,dh⟩:=hR;have e:dr=v:=(ct a4).symm;subst e;refine⟨aQ,cI,a2,a3.perm (b0 _),?_⟩;rw[ag];cases b with
  | true=>obtain⟨cX,il,rfl⟩:=dg rfl;exact .as _ _ (.eP _ _ _)
  | false=>exact .as _ _ (.single _ dh)) (λ_ _ h=>h.elim)
theorem y9{l:List Int}(ax:l.length<=1000000)(H:List aj):b1 Tryz.prog 21 [aa.ints l] H (λy H1=>∃v,y= .val v/\H1=ec v l++H/\(l.isEmpty=true->∃a c,v= .slice a 0 c)/\v.oneCell'=true) (λ_ _=>False):=
 (aeJ l ax H).yj λy H1 _ ⟨v,a6,aW,cN,gO⟩=>⟨v,a6,aW,λh=>cN (List.isEmpty_iff.1 h),gO⟩
theorem ahS{l:List Bool}(ax:l.length<=1000000)(H:List aj):b1 Tryz.prog 20 [aa.da l] H (λy H1=>∃v,y= .val v/\H1=jX v l++H/\(l.isEmpty=true->∃a c,v= .slice a 0 c)/\v.oneCell'=true) (λ_ _=>False):=
 (aeO l ax H).yj λy H1 _ ⟨v,a6,aW,cN,gO⟩=>⟨v,a6,aW,λh=>cN (List.isEmpty_iff.1 h),gO⟩
theorem ahT{vs:List Value}{ls:List (List Int)}(ax:vs.length=ls.length)(v:Value)(l:List Int):n2 (vs++[v]) (ls++[l])=n2 vs ls++ec v l:=by
 unfold n2;rw[List.length_append,List.length_singleton,List.range_succ,List.flatMap_append,List.flatMap_singleton];congr 1
 ·refine Km λi av=>?_;have:=List.mem_range.1 av;rw[List.getD_eq_getElem?_getD,List.getElem?_append_left ad,List.getD_eq_getElem?_getD,List.getElem?_append_left ad,List.getD_eq_getElem?_getD,List.getD_eq_getElem?_getD]
 ·rw[<-ax];simp only[List.getD_eq_getElem?_getD];rw[List.getElem?_append_right (Nat.le_refl _),ax,List.getElem?_append_right (Nat.le_refl _)];simp
theorem Um{b3:Nat}{ms:List (Nat×List (Int×aa))}(an:(bK p).isSome=true)(h:bA p t)(b4:q9 p ms (a7 p)):b1 Tryz.prog 33 [.p b3 0] (.aI b3 92 (lQ t++dF p++dH (cH p)++[aa.iE (fJ p),aa.bD (fV p),.aF 1 (ms.map iF),(.val (.map none)),(.val (.map none)),.b false])::(hk ms++Hx)) (λr H1=>∃q:fa,q.b3=b3/\r= .bJ []/\H1=b5 p (bW p) q ⟨t,false⟩ Hx/\gC p q) (λ_ _=>False):=by
 refine bh (n:=65) Tryz.func33 λB I aO=>?_;have en:=oF an;have ja:=h.jm;have hL:=h.pl;have ir:=h.nl;have eZ:=h.aF;have Un:=BZ an;have Ld:p.nodes.length<=120:=by
  obtain⟨o,aA⟩:=Option.isSome_iff_exists.1 an;exact (wk aA).2
 have pC:=lK.nil;refine bg ?_;refine au.mkMap rfl rfl rfl rfl (λfO=>?_);refine aT ?_;refine aq.gX (e0 Tryz.prog 198) (lX (bW p)) (.head _ _ _) ?_;refine aq.bL mixed ?_;refine bk.uo (X:=p0) [⟨8,17,false⟩,⟨14,23,false⟩,⟨20,29,false⟩,⟨24,89,false⟩,⟨28,93,false⟩] (λJ=>match J with | [some a,some b,some c,some _,some _]=>.gX fO (e0 Tryz.prog 198) (lX (bW p))::.aI b3 92 ([.val a,aa.bD t.params,.val b,aa.ints t.aJ]++dF p++dH (cH p)++[aa.iE (fJ p),aa.bD (fV p),.aF 1 (ms.map iF),(.val (.map (some fO))),(.val (.map none)),.b false])::(jX a t.bP++(ec b t.nodes++(ec c t.aJ++(hk ms++Hx)))) | [some a,some b,some c,some _,none]=>.gX fO (e0 Tryz.prog 198) (lX (bW p))::.aI b3 92 ([.val a,aa.bD t.params,aa.ints t.nodes,aa.ints t.aJ]++dF p++dH (cH p)++[aa.iE (fJ p),aa.bD (fV p),.aF 1 (ms.map iF),(.val (.map (some fO))),(.val (.map none)),.b false])::(jX a t.bP++(ec b t.nodes++(ec c t.aJ++(hk ms++Hx)))) | [some a,some b,some c,none,none]=>.gX fO (e0 Tryz.prog 198) (lX (bW p))::.aI b3 92 ([aa.da t.bP,aa.bD t.params,aa.ints t.nodes,aa.ints t.aJ]++dF p++dH (cH p)++[aa.iE (fJ p),aa.bD (fV p),.aF 1 (ms.map iF),(.val (.map (some fO))),(.val (.map none)),.b false])::(jX a t.bP++(ec b t.nodes++(ec c t.aJ++(hk ms++Hx)))) | [some a,some b,none,none,none]=>.gX fO (e0 Tryz.prog 198) (lX (bW p))::.aI b3 92 ([aa.da t.bP,aa.bD t.params,aa.ints t.nodes,aa.ints t.aJ]++dF p++dH (cH p)++[aa.iE (fJ p),aa.bD (fV p),.aF 1 (ms.map iF),(.val (.map (some fO))),(.val (.map none)),.b false])::(jX a t.bP++(ec b t.nodes++(hk ms++Hx))) | [some a,none,none,none,none]=>.gX fO (e0 Tryz.prog 198) (lX (bW p))::.aI b3 92 ([aa.da t.bP,aa.bD t.params,aa.ints t.nodes,aa.ints t.aJ]++dF p++dH (cH p)++[aa.iE (fJ p),aa.bD (fV p),.aF 1 (ms.map iF),(.val (.map (some fO))),(.val (.map none)),.b false])::(jX a t.bP++(hk ms++Hx)) | _=>.gX fO (e0 Tryz.prog 198) (lX (bW p))::.aI b3 92 ([aa.da t.bP,aa.bD t.params,aa.ints t.nodes,aa.ints t.aJ]++dF p++dH (cH p)++[aa.iE (fJ p),aa.bD (fV p),.aF 1 (ms.map iF),(.val (.map (some fO))),(.val (.map none)),.b false])::(hk ms++Hx)) (λj J=>match j,J with | 0,some a::_=>n9 t.bP.isEmpty a | 1,_::some b::_=>n9 t.nodes.isEmpty b | 2,_::_::some c::_=>n9 t.aJ.isEmpty c | _,_=>.any) 0 29 65 rfl ay ay rfl rfl ay rfl (λ_ _ _ _ _ _ _ _ _ h=>h.elim) ?_;refine bp.cS [[true,true,true,false,false],[true,true,false,false,false],[true,false,false,false,false],[false,false,false,false,false]] rfl ay rfl rfl rfl ⟨λf=>af.move rfl rfl rfl,λf=>af.move rfl rfl rfl,λf=>af.move rfl rfl rfl,λf=>af.move rfl rfl rfl,trivial⟩ ?_;refine bp.cS [[true,true,true,true,false],[true,true,true,false,false],[true,true,false,false,false],[true,false,false,false,false],[false,false,false,false,false]] rfl ay rfl rfl rfl ⟨λf=>af.move rfl rfl rfl,λf=>af.move rfl rfl rfl,λf=>af.move rfl rfl rfl,λf=>af.move rfl rfl rfl,λf=>af.move rfl rfl rfl,trivial⟩ ?_;refine bp.cS [[true,true,true,true,true],[true,true,true,true,false],[true,true,true,false,false],[true,true,false,false,false],[true,false,false,false,false],[false,false,false,false,false]] rfl ay rfl rfl rfl ⟨λf=>af.move rfl rfl rfl,λf=>af.move rfl rfl rfl,λf=>af.move rfl rfl rfl,λf=>af.move rfl rfl rfl,λf=>af.move rfl rfl rfl,λf=>af.move rfl rfl rfl,trivial⟩ ?_;refine bp.cS [[false,false,false,false,false]] rfl ay rfl rfl rfl ⟨λf=>af.move rfl rfl rfl,trivial⟩ ?_;refine bp.cS [[false,false,false,false,false]] rfl ay rfl rfl rfl ⟨λf=>hH,trivial⟩ ?_;refine bp.cS [[false,false,false,false,false]] rfl ay rfl rfl rfl ⟨λf=>cK,trivial⟩ ?_;refine bp.cS [[false,false,false,false,false]] rfl ay rfl rfl rfl ⟨λf=>cK,trivial⟩ ?_;refine bp.cS [[false,false,false,false,false]] rfl ay rfl rfl rfl ⟨λf=>dI,trivial⟩ ?_;refine bp.mC 0 [[false,false,false,false,false]] rfl rfl rfl ay rfl rfl rfl ⟨λf=>⟨et.clone (F:=λv=>jX v t.bP) .k (ahS ad) (λv=>show (jX v t.bP++(.gX fO (e0 Tryz.prog 198) (lX (bW p))::.aI b3 92 ([aa.da t.bP,aa.bD t.params,aa.ints t.nodes,aa.ints t.aJ]++dF p++dH (cH p)++[aa.iE (fJ p),aa.bD (fV p),.aF 1 (ms.map iF),(.val (.map (some fO))),(.val (.map none)),.b false])::(hk ms++Hx))).Perm (.gX fO (e0 Tryz.prog 198) (lX (bW p))::.aI b3 92 ([aa.da t.bP,aa.bD t.params,aa.ints t.nodes,aa.ints t.aJ]++dF p++dH (cH p)++[aa.iE (fJ p),aa.bD (fV p),.aF 1 (ms.map iF),(.val (.map (some fO))),(.val (.map none)),.b false])::(jX v t.bP++(hk ms++Hx))) from by classical exact List.perm_iff_count.2 λx=>by simp only[List.count_append,List.count_cons,List.count_nil,List.cons_append,List.nil_append,eL];omega) (λ_=>rfl),jn⟩,trivial⟩ ?_;refine bp.cS [[true,false,false,false,false],[false,false,false,false,false]] rfl ay rfl rfl rfl ⟨λf=>af.move rfl rfl rfl,λf=>af.move rfl rfl rfl,trivial⟩ ?_;refine bp.cS [[true,false,false,false,false],[false,false,false,false,false]] rfl ay rfl rfl rfl ⟨λf=>hH,λf=>hH,trivial⟩ ?_;refine bp.cS [[true,false,false,false,false],[false,false,false,false,false]] rfl ay rfl rfl rfl ⟨λf=>cK,λf=>cK,trivial⟩ ?_;refine bp.cS [[true,false,false,false,false],[false,false,false,false,false]] rfl ay rfl rfl rfl ⟨λf=>cK,λf=>cK,trivial⟩ ?_;refine bp.cS [[true,false,false,false,false],[false,false,false,false,false]] rfl ay rfl rfl rfl ⟨λf=>dI,λf=>dI,trivial⟩ ?_;refine bp.mC 1 [[true,false,false,false,false]] rfl rfl rfl ay rfl rfl rfl ⟨λf=>⟨et.clone (F:=λv=>ec v t.nodes) .k (y9 ad) (λv=>show (ec v t.nodes++(.gX fO (e0 Tryz.prog 198) (lX (bW p))::.aI b3 92 ([aa.da t.bP,aa.bD t.params,aa.ints t.nodes,aa.ints t.aJ]++dF p++dH (cH p)++[aa.iE (fJ p),aa.bD (fV p),.aF 1 (ms.map iF),(.val (.map (some fO))),(.val (.map none)),.b false])::(jX (f 17) t.bP++(hk ms++Hx)))).Perm (.gX fO (e0 Tryz.prog 198) (lX (bW p))::.aI b3 92 ([aa.da t.bP,aa.bD t.params,aa.ints t.nodes,aa.ints t.aJ]++dF p++dH (cH p)++[aa.iE (fJ p),aa.bD (fV p),.aF 1 (ms.map iF),(.val (.map (some fO))),(.val (.map none)),.b false])::(jX (f 17) t.bP++(ec v t.nodes++(hk ms++Hx)))) from by classical exact List.perm_iff_count.2 λx=>by simp only[List.count_append,List.count_cons,List.count_nil,List.cons_append,List.nil_append,eL];omega) (λ_=>rfl),jn⟩,trivial⟩ ?_;refine bp.cS [[true,true,false,false,false],[true,false,false,false,false],[false,false,false,false,false]] rfl ay rfl rfl rfl ⟨λf=>af.move rfl rfl rfl,λf=>af.move rfl rfl rfl,λf=>af.move rfl rfl rfl,trivial⟩ ?_;refine bp.cS [[true,true,false,false,false],[true,false,false,false,false],[false,false,false,false,false]] rfl ay rfl rfl rfl ⟨λf=>hH,λf=>hH,λf=>hH,trivial⟩ ?_;refine bp.cS [[true,true,false,false,false],[true,false,false,false,false],[false,false,false,false,false]] rfl ay rfl rfl rfl ⟨λf=>cK,λf=>cK,λf=>cK,trivial⟩ ?_;refine bp.cS [[true,true,false,false,false],[true,false,false,false,false],[false,false,false,false,false]] rfl ay rfl rfl rfl ⟨λf=>cK,λf=>cK,λf=>cK,trivial⟩ ?_;refine bp.cS [[true,true,false,false,false],[true,false,false,false,false],[false,false,false,false,false]] rfl ay rfl rfl rfl ⟨λf=>dI,λf=>dI,λf=>dI,trivial⟩ ?_;refine bp.mC 2 [[true,true,false,false,false]] rfl rfl rfl ay rfl rfl rfl ⟨λf=>⟨et.clone (F:=λv=>ec v t.aJ) .k (y9 ad) (λv=>show (ec v t.aJ++(.gX fO (e0 Tryz.prog 198) (lX (bW p))::.aI b3 92 ([aa.da t.bP,aa.bD t.params,aa.ints t.nodes,aa.ints t.aJ]++dF p++dH (cH p)++[aa.iE (fJ p),aa.bD (fV p),.aF 1 (ms.map iF),(.val (.map (some fO))),(.val (.map none)),.b false])::(jX (f 17) t.bP++(ec (f 23) t.nodes++(hk ms++Hx))))).Perm (.gX fO (e0 Tryz.prog 198) (lX (bW p))::.aI b3 92 ([aa.da t.bP,aa.bD t.params,aa.ints t.nodes,aa.ints t.aJ]++dF p++dH (cH p)++[aa.iE (fJ p),aa.bD (fV p),.aF 1 (ms.map iF),(.val (.map (some fO))),(.val (.map none)),.b false])::(jX (f 17) t.bP++(ec (f 23) t.nodes++(ec v t.aJ++(hk ms++Hx))))) from by classical exact List.perm_iff_count.2 λx=>by simp only[List.count_append,List.count_cons,List.count_nil,List.cons_append,List.nil_append,eL];omega) (λ_=>rfl),jn⟩,trivial⟩ ?_;refine bp.cS [[true,true,true,false,false]] rfl ay rfl rfl rfl ⟨λf=>hH,trivial⟩ ?_;refine bp.cS [[true,true,true,false,false]] rfl ay rfl rfl rfl ⟨λf=>cK,trivial⟩ ?_;refine bp.cS [[true,true,true,false,false]] rfl ay rfl rfl rfl ⟨λf=>cK,trivial⟩ ?_;refine bp.N1 3 [[true,true,true,false,false]] rfl rfl rfl ay rfl rfl ⟨λf u=>⟨⟨et.zF (ow.Ox (y:=n9 t.bP.isEmpty (f 17)) (y':=.val (f 17)) rfl rfl rfl rfl rfl (λB I w u az aK=>Ul aK) (.tail _ _ _ _ _ (.head _ _ _)) rfl rfl) (λ_=>rfl) (λ_=>rfl),rfl⟩,Mf⟩,trivial⟩ ?_;refine bp.cS [[true,true,true,true,false]] rfl ay rfl rfl rfl ⟨λf=>hH,trivial⟩ ?_;refine bp.cS [[true,true,true,true,false]] rfl ay rfl rfl rfl ⟨λf=>cK,trivial⟩ ?_;refine bp.cS [[true,true,true,true,false]] rfl ay rfl rfl rfl ⟨λf=>cK,trivial⟩ ?_;refine bp.N1 4 [[true,true,true,true,false]] rfl rfl rfl ay rfl rfl ⟨λf u=>⟨⟨et.zF (ow.Ox (y:=n9 t.nodes.isEmpty (f 23)) (y':=.val (f 23)) rfl rfl rfl rfl rfl (λB I w u az aK=>Ul aK) (.tail _ _ _ _ _ (.head _ _ _)) rfl rfl) (λ_=>rfl) (λ_=>rfl),rfl⟩,Mf⟩,trivial⟩ ?_;refine bp.nil (λf=>?_);simp only[mB,List.map_cons,List.map_nil,List.cons_append,List.nil_append];refine bt ?_;generalize f 17=hD;generalize f 23=gk;generalize f 29=fP;refine au.dS (d:=17) (b:=t.bP.isEmpty) (v:=hD) rfl (λuX yW=>?_);refine au.dS (d:=23) (b:=t.nodes.isEmpty) (v:=gk) rfl (λB6 n3=>?_);refine au.dS (d:=29) (b:=t.aJ.isEmpty) (v:=fP) rfl (λsa rh=>?_);refine bg ?_;apply au.j9 rfl rfl rfl rfl rfl rfl rfl (ud rh) (Di rh) rfl
 (case hu=>repeat (first | exact bu.head _ _ _ | apply bu.tail));(case hfit=>rfl);(case hds=>rfl)
 refine ma ?_;refine aq.iq 2 23 1 rfl ?_;refine cq (λz st=>∃(i:Nat) (vs:List Value) (v1:Value),st=⟨[(45,.i i),(44,.i t.params.length),(43,aa.bD t.params),(2,.as (.aF 1 (vs.map λv=>[aa.val v])) v1),(0,.p b3 0)],.own 23 1 v1::.gX fO (e0 Tryz.prog 198) (lX (bW p))::.aI b3 92 ([.val hD,aa.bD t.params,.val gk,.val fP]++dF p++dH (cH p)++[aa.iE (fJ p),aa.bD (fV p),.aF 1 (ms.map iF),(.val (.map (some fO))),(.val (.map none)),.b false])::(n2 vs (t.params.take i)++(jX hD t.bP++(ec gk t.nodes++(ec fP t.aJ++(hk ms++Hx)))))⟩/\z=t.params.length - i/\i<=t.params.length/\vs.length=i/\∀v∈vs,v.oneCell'=true) (⟨0,[],_,rfl,rfl,ad,rfl,λv aC=>by cases aC⟩) ?_;rintro z _ ⟨i,vs,v1,rfl,rfl,av,zH,Uo⟩;refine aT ?_;refine aZ (λai=>?_) λai=>?_
 ·have a1:i<t.params.length:=by omega
  obtain⟨L,df⟩:∃L,L=t.params.getD i default:=⟨_,rfl⟩;have Up:L≠ []:=by rw[df];exact BV an h ad
  have R1:L.length<=10:=by
   rw[df];have:=(y8 an (bW p) (g:=⟨t,false⟩) h (i:=i) ad).2.1;show (t.params.getD i default).length<=10;have cQ:((⟨t,false⟩:GT).t.params.getD i default).length=(t.params.getD i default).length:=rfl;omega
  refine bn ?_;refine aG (af.le (af.eN rfl rfl rfl rfl) (by rw[<-df];exact aL.refl _)) ?_;refine aT ?_;refine dE .k ((SY L Up ad _).b) ?_;rintro _ _ ⟨v,rfl,rfl⟩;refine au.G9 (.head _) (λgI=>?_);refine aG (af.AJ [(true,.val v)] rfl rfl rfl rfl (by simp only[List.all_cons,List.all_nil,ha,gI];rfl) rfl rfl rfl) ?_;refine au.gu rfl rfl rfl rfl rfl rfl rfl rfl (aL.refl _) (Kw (vs:=[v]) (by intro u hu;simp at hu;rw[hu];exact gI)) (λv=>by repeat (first | exact bu.head _ _ _ | apply bu.tail)) dj dj (λv53=>?_);refine bI ?_;have j7:=eE a1;rw[<-df] at j7;have ng:n2 (vs++[v]) (t.params.take (i+1))=n2 vs (t.params.take i)++[.row 3 1 v L.length (L.map aa.i)]:=by
   rw[<-j7,ahT Mq,ec,if_neg Up]
  refine aq.perm (H':=.own 23 1 v53::.gX fO (e0 Tryz.prog 198) (lX (bW p))::.aI b3 92 ([.val hD,aa.bD t.params,.val gk,.val fP]++dF p++dH (cH p)++[aa.iE (fJ p),aa.bD (fV p),.aF 1 (ms.map iF),(.val (.map (some fO))),(.val (.map none)),.b false])::(n2 (vs++[v]) (t.params.take (i+1))++(jX hD t.bP++(ec gk t.nodes++(ec fP t.aJ++(hk ms++Hx)))))) (by rw[ng];exact (show _ from by classical exact List.perm_iff_count.2 λx=>by simp only[List.count_append,List.count_cons,List.count_nil,List.cons_append,List.nil_append,eL];omega)) ?_;refine bI ?_;exact bV (⟨i+1,vs++[v],v53,by rw[List.map_append],rfl,a1,by simp[zH],λu hu=>(List.mem_append.1 hu).elim (Uo u) (λh=>by simp at h;rw[h];exact gI)⟩)
 ·obtain rfl:i=t.params.length:=by omega
  rw[List.take_length];refine aT ?_;refine aq.le 2 (y:=.aF 1 (vs.map λv=>[aa.val v])) rfl (aL.hb _ _) ?_;refine cw ?_;refine au.mkMap rfl rfl rfl rfl (λn1=>?_);have rY:=pC.put (k:=1) eV (.fn (.func 59) [] []);refine au.jE (u':=(.fn (.func 59) [] [])) rfl rfl (.inr rfl) rfl rfl rfl rfl rfl rfl (aL.refl _) (.head _ _ _) pC eV ?_;have Ay:=rY.put (k:=12) eV (.fn (.func 59) [] []);refine au.jE (u':=(.fn (.func 59) [] [])) rfl rfl (.inr rfl) rfl rfl rfl rfl rfl rfl (aL.refl _) (.head _ _ _) rY eV ?_;have Uq:=Ay.put (k:=13) eV (.fn (.func 59) [] []);refine au.jE (u':=(.fn (.func 59) [] [])) rfl rfl (.inr rfl) rfl rfl rfl rfl rfl rfl (aL.refl _) (.head _ _ _) Ay eV ?_;have Ur:=Uq.put (k:=14) eV (.fn (.func 59) [] []);refine au.jE (u':=(.fn (.func 59) [] [])) rfl rfl (.inr rfl) rfl rfl rfl rfl rfl rfl (aL.refl _) (.head _ _ _) Uq eV ?_;have Us:=Ur.put (k:=15) eV (.fn (.func 59) [] []);refine au.jE (u':=(.fn (.func 59) [] [])) rfl rfl (.inr rfl) rfl rfl rfl rfl rfl rfl (aL.refl _) (.head _ _ _) Ur eV ?_;have Ut:=Us.put (k:=16) eV (.fn (.func 59) [] []);refine au.jE (u':=(.fn (.func 59) [] [])) rfl rfl (.inr rfl) rfl rfl rfl rfl rfl rfl (aL.refl _) (.head _ _ _) Us eV ?_;have Uu:=Ut.put (k:=2) eV (.fn (.func 60) [] []);refine au.jE (u':=(.fn (.func 60) [] [])) rfl rfl (.inr rfl) rfl rfl rfl rfl rfl rfl (aL.refl _) (.head _ _ _) Ut eV ?_;have Uv:=Uu.put (k:=3) eV (.fn (.func 61) [] []);refine au.jE (u':=(.fn (.func 61) [] [])) rfl rfl (.inr rfl) rfl rfl rfl rfl rfl rfl (aL.refl _) (.head _ _ _) Uu eV ?_;have Uw:=Uv.put (k:=4) eV (.fn (.func 62) [] []);refine au.jE (u':=(.fn (.func 62) [] [])) rfl rfl (.inr rfl) rfl rfl rfl rfl rfl rfl (aL.refl _) (.head _ _ _) Uv eV ?_;have Ux:=Uw.put (k:=6) eV (.fn (.func 63) [] []);refine au.jE (u':=(.fn (.func 63) [] [])) rfl rfl (.inr rfl) rfl rfl rfl rfl rfl rfl (aL.refl _) (.head _ _ _) Uw eV ?_;have Uy:=Ux.put (k:=7) eV (.fn (.func 64) [] []);refine au.jE (u':=(.fn (.func 64) [] [])) rfl rfl (.inr rfl) rfl rfl rfl rfl rfl rfl (aL.refl _) (.head _ _ _) Ux eV ?_;have Uz:=Uy.put (k:=8) eV (.fn (.func 65) [] []);refine au.jE (u':=(.fn (.func 65) [] [])) rfl rfl (.inr rfl) rfl rfl rfl rfl rfl rfl (aL.refl _) (.head _ _ _) Uy eV ?_;have EN:=Uz.put (k:=9) eV (.fn (.func 66) [] []);refine au.jE (u':=(.fn (.func 66) [] [])) rfl rfl (.inr rfl) rfl rfl rfl rfl rfl rfl (aL.refl _) (.head _ _ _) Uz eV ?_;have UA:=EN.put (k:=11) eV (.fn (.func 66) [] []);refine au.jE (u':=(.fn (.func 66) [] [])) rfl rfl (.inr rfl) rfl rfl rfl rfl rfl rfl (aL.refl _) (.head _ _ _) EN eV ?_;have UB:=UA.put (k:=10) eV (.fn (.func 67) [] []);refine au.jE (u':=(.fn (.func 67) [] [])) rfl rfl (.inr rfl) rfl rfl rfl rfl rfl rfl (aL.refl _) (.head _ _ _) UA eV ?_;have UC:=UB.put (k:=17) eV (.fn (.func 68) [] []);refine au.jE (u':=(.fn (.func 68) [] [])) rfl rfl (.inr rfl) rfl rfl rfl rfl rfl rfl (aL.refl _) (.head _ _ _) UB eV ?_;have UD:=UC.put (k:=5) eV (.fn (.func 69) [] []);refine au.jE (u':=(.fn (.func 69) [] [])) rfl rfl (.inr rfl) rfl rfl rfl rfl rfl rfl (aL.refl _) (.head _ _ _) UC eV ?_;have alG:=UD.put (k:=18) eV (.fn (.func 70) [] []);refine au.jE (u':=(.fn (.func 70) [] [])) rfl rfl (.inr rfl) rfl rfl rfl rfl rfl rfl (aL.refl _) (.head _ _ _) UD eV ?_;refine bz ?_;have aN:(fg (fg (fg (fg (fg (fg (fg (fg (fg (fg (fg (fg (fg (fg (fg (fg (fg (fg [] 1 (.fn (.func 59) [] [])) 12 (.fn (.func 59) [] [])) 13 (.fn (.func 59) [] [])) 14 (.fn (.func 59) [] [])) 15 (.fn (.func 59) [] [])) 16 (.fn (.func 59) [] [])) 2 (.fn (.func 60) [] [])) 3 (.fn (.func 61) [] [])) 4 (.fn (.func 62) [] [])) 6 (.fn (.func 63) [] [])) 7 (.fn (.func 64) [] [])) 8 (.fn (.func 65) [] [])) 9 (.fn (.func 66) [] [])) 11 (.fn (.func 66) [] [])) 10 (.fn (.func 67) [] [])) 17 (.fn (.func 68) [] [])) 5 (.fn (.func 69) [] [])) 18 (.fn (.func 70) [] []))=pI:=rfl;rw[aN];refine aR.perm (H':=eu n1 pI::.own 23 1 v1::.gX fO (e0 Tryz.prog 198) (lX (bW p))::.aI b3 92 ([.val hD,.aF 1 (vs.map λv=>[aa.val v]),.val gk,.val fP]++dF p++dH (cH p)++[aa.iE (fJ p),aa.bD (fV p),.aF 1 (ms.map iF),(.val (.map (some fO))),(.val (.map (some n1))),.b false])::(n2 vs t.params++(jX hD t.bP++(ec gk t.nodes++(ec fP t.aJ++(hk ms++Hx)))))) (.of_eq rfl) ?_;refine aR.perm (H':=.own 23 1 v1::.aI b3 92 ([.val hD,.aF 1 (vs.map λv=>[aa.val v]),.val gk,.val fP]++dF p++dH (cH p)++[aa.iE (fJ p),aa.bD (fV p),.aF 1 (ms.map iF),(.val (.map (some fO))),(.val (.map (some n1))),.b false])::((.gX fO (e0 Tryz.prog 198) (lX (bW p))::eu n1 pI::(hk ms++(jX hD t.bP++(ec gk t.nodes++(ec fP t.aJ++n2 vs t.params)))))++Hx)) (by classical exact List.perm_iff_count.2 λx=>by simp only[List.count_append,List.count_cons,List.count_nil,List.cons_append,List.nil_append,eL];omega) ?_;refine jj [] (b5 p (bW p) ⟨b3,hD,vs,gk,fP,fO,n1,ms⟩ ⟨t,false⟩ Hx) ?_;exact⟨⟨b3,hD,vs,gk,fP,fO,n1,ms⟩,rfl,rfl,rfl,⟨an,b4,by show vs.length=_;omega,λai=>uX (List.isEmpty_iff.2 (List.eq_nil_of_length_eq_zero ad)),λai=>sa (List.isEmpty_iff.2 (List.eq_nil_of_length_eq_zero ad)),yW,Uo,n3,rh⟩⟩
section
variable{p:Prog}{g:GT}
theorem ku{c:Prop}[Decidable c]{a b:GT}(ab:c->Grow p g a)(ae: ¬c->Grow p g b):Grow p g (if c then a else b):=by
 by_cases h:c
 ·rw[if_pos h];exact ab h
 ·rw[if_neg h];exact ae h
theorem B7(h:bA p g.t)(c:Nat){s:Int}(aH:0<=s/\s<p.aJ):Grow p g (GT.begin p c g s):=EX h ad (BR c s)
theorem ahU(h:bA p g.t){n:Nat}(hn:n<p.nodes.length){c:Nat}(ab:1<=c)(ae:c<a7 p):Grow p g (xb p n c g):=
 (rf h hn (kI ab ae)).trans (pH _ (h.cz n (kI ab ae)) λg s aH h=>B7 h c (tu s aH).1)
theorem ahV(h:bA p g.t){i j:Nat}(av:i<p.methods.length+2)(aU:j<(fB g.t i).length){x:Nat}(ag:fj p x):Grow p g (g.qj i j x):=by
 have aB:=h.pl;have aH:=h.aF;have hn:=h.nl;unfold GT.qj;unfold fB at aU;by_cases ab:i<g.t.params.length
 ·rw[if_pos ab] at aU ⊢;exact Kj h ad aU ag
 ·rw[if_neg ab] at aU ⊢;by_cases ae:i=g.t.params.length
  ·rw[if_pos ae] at aU ⊢;exact rf h ad ag
  ·rw[if_neg ae] at aU ⊢;exact EX h ad ag
theorem Le{t dR:bG}(h:bA p t)(cf:bA p dR){i:Nat}(av:i<p.methods.length+2):(fB t i).length=(fB dR i).length:=by
 have ab:=h.pl;have ae:=cf.pl;unfold fB;by_cases a6:i<p.methods.length
 ·rw[if_pos (show i<t.params.length by omega),if_pos (show i<dR.params.length by omega)];have:=h.gT i a6;have:=cf.gT i a6;omega
 ·rw[if_neg (show ¬i<t.params.length by omega),if_neg (show ¬i<dR.params.length by omega)];by_cases aW:i=p.methods.length
  ·rw[if_pos (show i=t.params.length by omega),if_pos (show i=dR.params.length by omega),h.nl,cf.nl]
  ·rw[if_neg (show ¬i=t.params.length by omega),if_neg (show ¬i=dR.params.length by omega)];have:=h.aF;have:=cf.aF;omega
theorem UE(h:bA p g.t){c to i j:Nat}(av:i<p.methods.length+2)(aU:j<(fB g.t i).length)(ab:1<=to)(ae:to<a7 p):Grow p g (oH c to i g j):=by
 unfold oH;exact ku (λ_=>ahV h av aU (kI ab ae)) λ_=>.refl h
theorem UF(h:bA p g.t){c to i:Nat}(av:i<p.methods.length+2)(ab:1<=to)(ae:to<a7 p):Grow p g (nk c to g i):=
 pH _ h λjb j aU cf=>UE cf av (by rw[Le cf h av];exact List.mem_range.1 aU) ab ae
theorem UG(h:bA p g.t)(c:Nat){to:Nat}(ab:1<=to)(ae:to<a7 p):Grow p g (GT.oI c to g):=
 pH _ h λjb i av cf=>UF cf (by have:=List.mem_range.1 av;have:=h.pl;omega) ab ae
theorem UH(h:bA p g.t){n:Nat}(hn:n<p.nodes.length){to:Nat}(ab:1<=to)(ae:to<a7 p)(c:Nat):Grow p g (pE p n to g c):=by
 unfold pE;refine ku (λ_=>.refl h) λ_=>?_;have a:=rf h hn (kI ab ae);have b:=UG a.c7 c ab ae;exact (a.trans b).trans (pH _ b.c7 λg s aH h=>ku (λ_=>.refl h) λ_=>B7 h to (tu s aH).1)
theorem ahW(h:bA p g.t){n:Nat}(hn:n<p.nodes.length){to:Nat}(ab:1<=to)(ae:to<a7 p)(k:Nat):Grow p g (tr p n to k g):=pH _ h λg c _ h=>UH h hn ab ae c
theorem UI(h:bA p g.t){m:Nat}(hm:m<p.methods.length){got:List Int}(ax:got.length=(g.t.params.getD m default).length)(al:∀k∈got,cr (a7 p) k=true):Grow p g (re m got g):=
 pH _ h λjb k ao cf=>Kj cf hm (by have:=List.mem_range.1 ao;have:=h.gT m hm;have:=cf.gT m hm;omega) (iN al k)
theorem UJ(an:(bK p).isSome=true)(h:bA p g.t){n:Nat}(hn:n<p.nodes.length){x:Int×List Int}(sn:0<=x.1/\x.1<p.methods.length)(ax:(x.2.length:Int)=gU p (p.methods.getD x.1.toNat default).gen)(al:∀k∈x.2,cr (a7 p) k=true):Grow p g (pF p n g x):=by
 have hm:x.1.toNat<p.methods.length:=by omega
 have a:=SI h hm;have b:=UI (got:=x.2) a.c7 hm (by have:=a.c7.gT _ hm;unfold gU at ax;omega) al;unfold pF;exact ku (λ_=>(a.trans b).trans (rf b.c7 hn (iN b.c7.nb _))) λ_=>a.trans b
theorem ahX(an:(bK p).isSome=true)(h:bA p g.t){n:Nat}(hn:n<p.nodes.length){gen:Int}{bc:List Int}(eD:∀k∈bc,cr (a7 p) k=true)(m8:(bc.length:Int)=gU p gen):Grow p g (BQ p n gen bc g):=
 pH _ h λjb x ag cf=>by
  obtain⟨⟨ab,ae,aD⟩,aV,bl⟩:=xd eD x ag;exact UJ an cf hn ⟨ab,ae⟩ (by rw[aV,m8,aD]) bl
theorem ahY(h:bA p g.t)(ah:Nat->Nat->Bool){n:Nat}(hn:n<p.nodes.length)(m:Nat):Grow p g (xc p ah n m g):=pH _ h λg o _ h=>by
 unfold nY;exact ku (λ_=>rf h hn (iN h.nb _)) λ_=>.refl h
theorem UK(an:(bK p).isSome=true)(h:bA p g.t)(ah:Nat->Nat->Bool){n:Nat}(hn:n<p.nodes.length){y:ew}{bc env:List Int}{cj bx:Int}(hy:hI p y bx=true)(he:∀k∈env,cr (a7 p) k=true)(eD:∀k∈bc,cr (a7 p) k=true)(m8:y.op=5->(bc.length:Int)=gU p y.n):Grow p g (kq p ah y n env cj bc g):=by
 have h6:=λi=>iN eD i;have N:=λ{x:Nat} (ag:fj p x)=>rf h hn ag;unfold kq;refine ku (λ_=>N (Kr p)) λ_=>?_;refine ku (λ_=>N (Ks p)) λ_=>?_;refine ku (λ_=>N (iN he _)) λ_=>?_;refine ku (λaA=>ku (λ_=>N (iN h.fh _)) λ_=>.refl h) λ_=>?_;refine ku (λaA=>ahU h hn (oP hy (.inl aA)).2.1 (oP hy (.inl aA)).2.2) λ_=>?_;refine ku (λaA=>by
  unfold yS;have aH:=Fx hy (.inr aA);exact ku (λ_=>(N (h6 1)).trans (EX (h.cz n (h6 1)) ad (h6 1))) λ_=>N (h6 1)) λ_=>?_
 refine ku (λaA=>ahW h hn (oP hy (.inr aA)).2.1 (oP hy (.inr aA)).2.2 _) λ_=>?_;refine ku (λ_=>N (h6 1)) λ_=>?_;refine ku (λ_=>N (yT (h6 1) (h6 2))) λ_=>?_;refine ku (λ_=>N (h6 0)) λ_=>?_;refine ku (λaA=>ahX an h hn eD (m8 aA)) λ_=>?_;exact ku (λ_=>ku (λ_=>.refl h) λ_=>ahY h ah hn _) λ_=>.refl h
theorem FB{R:Int->List Int->GT->GT}{y:ew}{env:List Int}(hy:∀k∈y.kids,0<=k/\k<p.nodes.length)(he:∀k∈env,cr (a7 p) k=true):∀(l:List Int) (i:Nat) {g:GT},(∀k∈l,k∈y.kids)->bA p g.t->
  (∀j,j<l.length->∀(e:List Int) (g:GT),(∀k∈e,cr (a7 p) k=true)->(e.length=env.length+(if y.op=9/\i+j=1 then 1 else 0))->bA p g.t->Grow p g (R (l.getD j default) e g))->Grow p g (lp R y env i l g)
 | [],i,g,_,h,_=>.refl h
 | k::r,i,g,ax,h,aK=>by
  rw[lp];have ab:Grow p g (R k (if y.op=9/\i=1 then env++[g.t.nodes.getD (y.kids.getD 0 default).toNat default] else env) g):=by
   refine aK 0 bj _ g ?_ ?_ h
   ·split
    ·intro x ag;rcases List.mem_append.1 ag with aV | aV
     ·exact he x aV
     ·rw[List.mem_singleton.1 aV];refine BS h (hy _ (cp ?_));have:=List.length_pos_of_mem (ax k (.head _));omega
    ·exact he
   ·rw[Nat.add_zero];split
    ·rw[List.length_append];rfl
    ·rfl
  refine ab.trans (FB hy he r (i+1) (λx ag=>ax x (.tail _ ag)) ab.c7 λj aU e g ab ae aD=>?_);exact aK (j+1) (by simpa using aU) e g ab (by rw[ae,show i+1+j=i+(j+1) by omega]) aD
theorem B8(an:(bK p).isSome=true){ah:Nat->Nat->Bool}{m:Int}{next:Bool}:∀(f:Nat) {n:Int} {env:List Int} {g:GT},jI p next f n env.length->(∀k∈env,cr (a7 p) k=true)->bA p g.t->Grow p g (hX p ah m f n env g)
 | 0,n,env,g,bX,_,_=>bX.elim
 | f+1,n,env,g,bX,he,h=>by
  rw[hX];have mK:=BN bX;have iH:=w7 bX;have ab:Grow p g (lp (hX p ah m f) (hl p n) env 0 (hl p n).kids g):=by
   refine FB mK he _ 0 (λx ag=>ag) h λj aU e g ab ae aD=>?_;have:=bX.2.2 j aU;refine B8 an f (next:=next) (by
    rw[Nat.zero_add] at ae;rw[ae];split at this
    ·rename_i ak;rw[if_pos ak];simpa using this
    ·rename_i ak;rw[if_neg ak];simpa using this) ab aD
  exact ab.trans (UK an ab.c7 ah ad (BO bX).1 he (yU ab.c7 mK) λbl=>by rw[lV,List.length_map];exact (ER bX).1 (by rw[bl];rfl))
theorem UL(an:(bK p).isSome=true)(ah:Nat->Nat->Bool)(h:bA p g.t){i:Nat}(av:i<p.methods.length):Grow p g (nm p ah g i):=by
 obtain⟨ab,_,aD,_⟩:=y8 an ah h av;unfold nm;exact ku (λ_=>B8 an 13 ab aD h) λ_=>.refl h
theorem Lf(an:(bK p).isSome=true)(ah:Nat->Nat->Bool)(h:bA p g.t):Grow p g ((List.range p.methods.length).foldl (nm p ah) g):=pH _ h λg m hm h=>UL an ah h (List.mem_range.1 hm)
theorem UM(an:(bK p).isSome=true)(ah:Nat->Nat->Bool){t:bG}(h:bA p t):Grow p ⟨t,false⟩ (gg p ah t):=
 (Lf an ah (g:=⟨t,false⟩) h).trans (B8 an 13 (tm an).2.1 (λk ao=>by cases ao) (Lf an ah (g:=⟨t,false⟩) h).c7)
end
def si(m:Nat)(l:List Int):Nat:=(l.map λk=>2^m - k.toNat).sum
def oa(p:Prog)(t:bG):Nat:=(t.bP.map λb=>if b then 0 else 1).sum+(t.params.map (si (a7 p))).sum+si (a7 p) t.nodes+si (a7 p) t.aJ
theorem wb{α:Type}[Inhabited α]{f:α->Nat}:∀{a b:List α},a.length=b.length->(∀i,i<a.length->f (b.getD i default)<=f (a.getD i default))->(b.map f).sum<=(a.map f).sum
 | [],[],_,_=>Nat.le_refl _
 | x::r,y::s,ax,h=>by
  have ab:=h 0 bj;have ae:=wb (f:=f) (a:=r) (b:=s) (by simpa using ax) λi av=>h (i+1) rr;simp only[List.map_cons,List.sum_cons];exact Nat.add_le_add ab ae
theorem FC{α:Type}[Inhabited α]{f:α->Nat}:∀{a b:List α},a.length=b.length->(∀i,i<a.length->f (b.getD i default)<=f (a.getD i default))->(∃i,i<a.length/\f (b.getD i default)<f (a.getD i default))->(b.map f).sum<(a.map f).sum
 | [],[],_,_,⟨i,av,_⟩=>by simp at av
 | x::r,y::s,ax,h,⟨i,av,cO⟩=>by
  have ab:f y<=f x:=h 0 bj;have aD:∀i,i<r.length->f (s.getD i default)<=f (r.getD i default):=λi av=>h (i+1) rr;simp only[List.map_cons,List.sum_cons];cases i with
  | zero=>exact Nat.add_lt_add_of_lt_of_le cO (wb (by simpa using ax) aD)
  | succ i=>exact Nat.add_lt_add_of_le_of_lt ab (FC (by simpa using ax) aD ⟨i,rr,cO⟩)
theorem FD{a b:Nat}(h:∀c,a.testBit c=true->b.testBit c=true):a<=b:=by
 have:a ||| b=b:=Nat.eq_of_testBit_eq λc=>by
  rw[Nat.testBit_or];cases e:a.testBit c with
  | false=>simp
  | true=>rw[h c e];rfl
 rw[<-this];exact Nat.left_le_or
theorem ahZ{a b:Int}(bN:cr m a=true)(aw:cr m b=true)(h:∀c,jK a c->jK b c):2^m - b.toNat<=2^m - a.toNat/\(a≠b->2^m - b.toNat<2^m - a.toNat):=by
 have ab:=k6.1 bN;have ae:=k6.1 aw;have:=FD h;exact⟨ad,λbq=>by omega⟩
theorem Lg{a b:List Int}(ax:a.length=b.length)(bN:∀k∈a,cr m k=true)(aw:∀k∈b,cr m k=true)(h:fK a b):si m b<=si m a/\(a≠b->si m b<si m a):=by
 have key:∀i,i<a.length->_:=λi av=>ahZ (bN _ (cp av)) (aw _ (cp (by omega:i<b.length))) (h i);refine⟨wb ax λi av=>(key i av).1,λbq=>FC ax (λi av=>(key i av).1) ?_⟩;apply Classical.byContradiction;intro eF;apply bq;refine uV ax λi av=>?_;apply Classical.byContradiction;intro u6;exact eF ⟨i,av,(key i av).2 u6⟩
theorem ah0{a b:bG}(bN:bA p a)(aw:bA p b)(h:mL a b)(bq:b≠a):oa p b<oa p a:=by
 have aK:=bN.jm;have nD:=aw.jm;have aB:=bN.pl;have uh:=aw.pl;have aS:∀i,i<a.bP.length->(if b.bP.getD i default=true then 0 else 1)<=(if a.bP.getD i default=true then 0 else 1):=λi _=>by
  by_cases e:a.bP.getD i default=true
  ·rw[if_pos e,if_pos (h.r i e)];exact Nat.le_refl _
  ·rw[if_neg e];split <;> omega
 have alH:=wb (f:=λb:Bool=>if b=true then 0 else 1) (a:=a.bP) (b:=b.bP) ad aS;have gT:∀i,i<a.params.length->_:=λi av=>Lg (m:=a7 p) (a:=a.params.getD i default) (b:=b.params.getD i default) (by have:=bN.gT i ad;have:=aw.gT i ad;omega) (bN.kH _ (cp av)) (aw.kH _ (cp ad)) (h.p i);have alI:=wb (f:=si (a7 p)) (a:=a.params) (b:=b.params) ad λi av=>(gT i av).1;have ah1:=Lg (m:=a7 p) (by rw[bN.nl,aw.nl]) bN.nb aw.nb h.n;have ah2:=Lg (m:=a7 p) (by have:=bN.aF;have:=aw.aF;omega) bN.fh aw.fh h.s;unfold oa;by_cases B6:a.nodes=b.nodes
 ·by_cases sa:a.aJ=b.aJ
  ·by_cases UN:a.params=b.params
   ·have uX:a.bP≠b.bP:=λe=>bq (by cases a;cases b;simp only at*;subst B6;subst sa;subst UN;subst e;rfl);have:(b.bP.map λb:Bool=>if b=true then 0 else 1).sum<(a.bP.map λb:Bool=>if b=true then 0 else 1).sum:=by
     refine FC ad aS ?_;apply Classical.byContradiction;intro eF;apply uX;refine uV ad λi av=>?_;apply Classical.byContradiction;intro u6;refine eF ⟨i,av,?_⟩;cases a6:a.bP.getD i default with
     | true=>rw[a6,h.r i a6] at u6;exact absurd rfl u6
     | false=>
      cases aW:b.bP.getD i default with
      | true=>decide
      | false=>rw[a6,aW] at u6;exact absurd rfl u6
    omega
   ·have:(b.params.map (si (a7 p))).sum<(a.params.map (si (a7 p))).sum:=by
     refine FC ad (λi av=>(gT i av).1) ?_;apply Classical.byContradiction;intro eF;apply UN;refine uV ad λi av=>?_;apply Classical.byContradiction;intro u6;exact eF ⟨i,av,(gT i av).2 u6⟩
    omega
  ·have:=ah2.2 sa;omega
 ·have:=ah1.2 B6;omega
section
variable{p:Prog}(an:(bK p).isSome=true)(ah:Nat->Nat->Bool)
include an
theorem UO(h:bA p t)(ak:(gg p ah t).ch=false):(gg p ah t).t=t:=by
 have al:=UM an ah h;apply Classical.byContradiction;intro bq;have:=al.ch.2 (.inr bq);rw[ak] at this;cases this
theorem Lh(h:bA p t)(ak:(gg p ah t).ch=true):oa p (gg p ah t).t<oa p t:=by
 have al:=UM an ah h;exact ah0 h al.c7 al.le ((al.ch.1 ak).resolve_left bj)
theorem Li:∀(k:Nat) {t:bG},bA p t->oa p t<k->nZ p ah k t=nZ p ah (oa p t+1) t
 | 0,t,_,ao=>by omega
 | k+1,t,h,ao=>by
  rw[nZ,nZ];cases ak:(gg p ah t).ch with
  | false=>rfl
  | true=>
   have ab:=Lh an ah h ak;have ae:=Fz an ah h;rw[if_pos rfl,if_pos rfl,Li k ae ad];by_cases e:oa p t=oa p (gg p ah t).t+1
   ·rw[e]
   ·exact (Li (oa p t) ae ab).symm
theorem UP:∀(k:Nat) {t:bG},bA p t->bA p (nZ p ah k t)
 | 0,t,h=>h
 | k+1,t,h=>by
  rw[nZ];split
  ·exact UP k (Fz an ah h)
  ·exact h
end
def hG(p:Prog):bG:=⟨List.replicate p.methods.length false,p.methods.map λM=>List.replicate (gU p M.gen).toNat 0,List.replicate p.nodes.length 0,List.replicate p.aJ.toNat 0⟩
def kv(p:Prog)(ah:Nat->Nat->Bool):bG:=nZ p ah (oa p (hG p)+1) (hG p)
theorem gb.aI{H:List aj}{b t:Nat}{cs:List aa}{y:aa}(hm:aj.aI b t cs∈H)(hle:aL (.ptr cs) y):gb H [.p b 0] [y]:=λB I w eo vs hw az aH aK=>by
 cases aK with
 | cons _ u _ bY ag ht=>
  cases ht;have:=ct ag;subst this;obtain⟨bE,us,aw,ed,_⟩:=az.ok _ (aH _ hm);have dV:fb I w (mM w) w:=⟨λb o aw=>hw.there b o aw,λ_ _ _=>rfl⟩;have xf:=ed.bQ dV;refine⟨mM w,λ_ _ h=>h,.cons _ _ _ _ (hle _ _ _ (.ptr _ _ _ (vy aw _ _ 0 xf (λj u hu=>by simpa using hu) (λj aU=>?_)))) .nil⟩;have hlen:=xf.length;rw[Array.length_toList] at hlen;have eB:j<us.size:=by rw[hlen];exact aU
  exact⟨us[j],by rw[kQ aw,Nat.zero_add];exact Array.getElem?_eq_getElem eB⟩
theorem ah3(aB:p.Small){t:bG}(an:(bK p).isSome=true)(ht:jG p t=true)(H:List aj):b1 Tryz.prog 32 [aa.prog p,aa.ef t] H (λy H'=>∃b3 ms,y= .bJ [.p b3 0,.b true]/\H'= .aI b3 92 (th p t (aa.iE (fJ p)) (aa.bD (fV p)) (.aF 1 (ms.map iF)) (.val (.map none)) (.val (.map none)) (.b false))::(hk ms++H)/\q9 p ms (a7 p)) (λ_ _=>False):=by
 refine bh (n:=22) Tryz.func32 λB I aO=>?_;refine cT ?_;refine dE .k ((EF aB an t H).b) ?_;rintro _ _ ⟨b3,ms,rfl,rfl,b4⟩;refine eb ?_;refine au.cb rfl rfl rfl rfl rfl rfl (λal=>af.sR (.mk' rfl rfl rfl rfl dv) (gb.aI (.head _) (JP _ _ _ _)) (JR an t)) ?_;refine bI ?_;refine aq.cond rfl (λai=>?_) (λai=>?_)
 ·simp[ht] at ai
 ·refine c6 ?_;refine fR [.tmp 4,.tmp 5] (.aI b3 92 (th p t (aa.iE (fJ p)) (aa.bD (fV p)) (.aF 1 (ms.map iF)) (.val (.map none)) (.val (.map none)) (.b false))::(hk ms++H)) ?_;exact⟨b3,ms,rfl,rfl,b4⟩
theorem ah4(aB:p.Small){t:bG}(an:(bK p).isSome=false):ba Tryz.prog 9 [aa.prog p,aa.ef t] (.bJ [.b false,.i 2]):=by
 intro H;refine bh (n:=21) Tryz.func9 λB I aO=>?_;refine cT ?_;refine aG (af.call .k (EG aB t an)) ?_;refine eb ?_;refine aq.cond rfl (λai=>?_) (λai=>?_)
 ·refine bs ?_;refine fR [.tmp 4,.tmp 5] (H) ?_;exact⟨dJ,rfl⟩
 ·simp at ai
theorem ah5(aB:p.Small){t:bG}(an:(bK p).isSome=true)(ht:jG p t=false):ba Tryz.prog 9 [aa.prog p,aa.ef t] (.bJ [.b false,.i 2]):=by
 intro H;refine bh (n:=21) Tryz.func9 λB I aO=>?_;refine cT ?_;refine aG (af.call .k (EH aB an ht)) ?_;refine eb ?_;refine aq.cond rfl (λai=>?_) (λai=>?_)
 ·refine bs ?_;refine fR [.tmp 4,.tmp 5] (H) ?_;exact⟨dJ,rfl⟩
 ·simp at ai
theorem ah6(aB:p.Small){t:bG}(an:(bK p).isSome=true)(ht:jG p t=true):ba Tryz.prog 9 [aa.prog p,aa.ef t] (.bJ [.b (!(gg p (bW p) t).ch),.i 0]):=by
 intro H;refine bh (n:=21) Tryz.func9 λB I aO=>?_;have j7:=ts.1 ht;refine cT ?_;refine dE .k ((ah3 aB an ht _).b) ?_;rintro _ _ ⟨b3,ms,rfl,rfl,b4⟩;refine eb ?_;refine aq.cond rfl (λai=>?_) (λai=>?_)
 ·simp at ai
 ·refine bz ?_;refine dE .k ((Um an j7 b4).b) ?_;rintro _ _ ⟨q,bd,rfl,rfl,ak⟩;subst bd;refine bz ?_;refine dE .k ((Uj (g:=⟨t,false⟩) ak aB j7).b) ?_;rintro _ _ ⟨rfl,rfl⟩;refine aT ?_;refine aR.c5 (rs:=[.tmp 4,.tmp 5]) (H':=H) rfl (.tmp rfl (.tmp rfl (.nil))) (bO.refl _) (by exact List.Sublist.cons _ (List.sublist_append_right _ _)) ?_;exact⟨dJ,rfl⟩
def u7(p:Prog)(t:bG):Bool:=!(gg p (bW p) t).ch
theorem B9(aB:p.Small)(t:bG):ba Tryz.prog 9 [aa.prog p,aa.ef t] (if lk p t then .bJ [.b (u7 p t),.i 0] else .bJ [.b false,.i 2]):=by
 unfold lk;cases an:(bK p).isSome with
 | false=>exact ah4 aB an
 | true=>
  cases ht:jG p t with
  | false=>exact ah5 aB an ht
  | true=>exact ah6 aB an ht
theorem b1.sV{xs:List aa}{bw jd:aa->List aj->Prop}{E:aa->List aj->Prop}(h:b1 P f xs H bw E)(bd:∀y H1,bw y H1->∀B I w v,ck B I w->br B I w H1->Rel I w y v->∃J y' db,ck B J w/\Ext B I w J w/\br B J w db/\Rel J w y' v/\jd y' db):b1 P f xs H jd E:=by
 refine⟨h.1,λB I w vs hw az dT=>((h.2 B I w vs hw az dT).mono λe' w' aK=>?_)⟩;obtain⟨aQ,dK,dc,cc,cW,aK⟩:=aK;rcases aK with⟨v,x,ab,ae,aD⟩ | aK
 ·obtain⟨J,y',db,cI,a2,a3,a4,a5⟩:=bd _ _ aD _ _ _ _ dc cW ae;exact⟨J,db,cI,cc.trans a2,a3,.inl ⟨v,y',ab,a4,a5⟩⟩
 ·exact⟨aQ,dK,dc,cc,cW,.inr aK⟩
theorem br.front{B:Nat}{F Hx:List aj}(hw:ck B I w)(az:br B I w (F++Hx)):∃J,ck B J w/\Ext B I w J w/\br B J w Hx/\∀t v cs,aj.row t 1 v cs.length cs∈F->Rel J w (.aF 1 (cs.map λx=>[x])) v:=by
 obtain⟨J,bF⟩:∃J:a8,J=λb o=>I b o\/((∃e∈F,e.eX=some b)/\∃c,w.cell? ⟨b,o,none⟩=some c):=⟨_,rfl⟩;have dV:fb I w J w:=⟨λb o h=>by rw[bF];exact .inl h,λ_ _ _=>rfl⟩;refine⟨J,⟨hw.base,λb o h=>by rw[bF] at h;exact h.elim (hw.there b o) And.right⟩,⟨dV.j0,dV.cell,Go.RowKit.Below.refl _ _⟩,?_,λt v cs hm=>?_⟩
 ·refine⟨λf aP=>aj.bQ (az.ok f (List.mem_append_right _ aP)) dV (λ_ _=>rfl) (λb aw o aA=>?_),(List.pairwise_append.1 az.apart).2.1⟩;rw[bF] at aA;rcases aA with aA | ⟨⟨e,he,ah7⟩,_⟩
  ·exact aA
  ·exact absurd aw ((List.pairwise_append.1 az.apart).2.2 e he f aP b ah7)
 ·have cA:=az.ok _ (List.mem_append_left Hx hm);obtain⟨K,ab,ae,aD,aV⟩:=Df (els:=cs.map λx=>[x]) (by rw[List.length_map,DD];exact cA) (λx ag=>by obtain⟨y,_,rfl⟩:=List.mem_map.1 ag;rfl);refine aV.bQ ⟨λb o aw=>?_,λ_ _ _=>rfl⟩;rw[bF];rcases ae b o aw with q | q
  ·exact .inl q
  ·rcases aD b o aw with ea | ea
   ·exact .inl ea
   ·exact .inr ⟨⟨_,hm,q⟩,ea⟩
theorem UQ{J:a8}{α:Type}{enc:α->aa}{l:List α}(h:Rel J w (.aF 1 ((l.map enc).map λx=>[x])) v):Rel J w (.aF 1 (l.map λx=>[enc x])) v:=by rw[List.map_map] at h;exact h
section
variable{p:Prog}{ah:Nat->Nat->Bool}{q:fa}{g:GT}
theorem ah8(ak:gC p q)(h:bA p g.t){B:Nat}{I:a8}{w:World}{Hx:List aj}{u:Value}(hw:ck B I w)(az:br B I w (b5 p ah q g Hx))(aK:Rel I w (.agg [.val q.hD,.aF 1 (q.vs.map λv=>[aa.val v]),.val q.gk,.val q.fP]) u):
  ∃J,ck B J w/\Ext B I w J w/\br B J w Hx/\Rel J w (aa.ef g.t) u:=by
 obtain⟨J,qP,nF,sW,qQ⟩:=br.front (F:=eU p q g.ch::eL ah q g.t) hw az;have dV:=nF.keeps;have mem:∀e∈b5 p ah q g [],e∈eU p q g.ch::eL ah q g.t:=λe he=>by simpa [b5] using he
 refine⟨J,qP,nF,sW,?_⟩;have hR:Rel J w (aa.da g.t.bP) q.hD:=by
  by_cases ax:g.t.bP= []
  ·obtain⟨a,c,e⟩:=ak.uX (by rw[<-h.jm,ax];rfl);rw[e,ax];exact .eP _ _ _
  ·exact UQ (qQ 4 _ (g.t.bP.map aa.b) (by rw[List.length_map];exact mem _ (tt (i:=0) (List.length_pos_iff.2 ax))))
 have b4:∀{v:Value} {l:List Int},l≠ []->aj.row 3 1 v l.length (l.map aa.i)∈b5 p ah q g []->Rel J w (aa.ints l) v:=λax hm=>UQ (qQ 3 _ _ (by rw[List.length_map];exact mem _ hm));have lT:Rel J w (aa.ints g.t.nodes) q.gk:=by
  have ax:g.t.nodes≠ []:=λe=>by have:=h.nl;rw[e] at this;have:=E0 ak.an;simp at*;omega
  exact b4 ax (oJ (i:=0) (List.length_pos_iff.2 ax))
 have h9:Rel J w (aa.ints g.t.aJ) q.fP:=by
  by_cases ax:g.t.aJ= []
  ·obtain⟨a,c,e⟩:=ak.sa (by have:=h.aF;rw[ax] at this;simpa using this.symm);rw[e,ax];exact .eP _ _ _
  ·exact b4 ax (uW (i:=0) (List.length_pos_iff.2 ax))
 cases aK with
 | agg _ vs ja=>
  refine .agg _ _ ?_;generalize vs.toList=l at ja;cases ja with | cons _ a _ l ab ja=>cases ja with | cons _ b _ l ae ja=>cases ja with | cons _ c _ l aD ja=>cases ja with | cons _ d _ l aV ja=>
   cases ja;rw[ct ab,ct aD,ct aV];refine .cons _ _ _ _ hR (.cons _ _ _ _ ?_ (.cons _ _ _ _ lT (.cons _ _ _ _ h9 .nil)));refine (ae.bQ dV).Oj Mn λi x y ag hy=>?_;rw[List.getElem?_map] at ag hy;cases av:g.t.params[i]? with
   | none=>rw[av] at hy;cases hy
   | some l=>
    have a1:=(List.getElem?_eq_some_iff.1 av).1;have ax:g.t.params.getD i default=l:=by rw[List.getD_eq_getElem?_getD,av];rfl
    cases aC:q.vs[i]? with
    | none=>rw[aC] at ag;cases ag
    | some v=>
     have qG:q.vs.getD i default=v:=by rw[List.getD_eq_getElem?_getD,aC];rfl
     rw[av] at hy;rw[aC] at ag;cases ag;cases hy;refine⟨rfl,λb o dp=>?_⟩;cases dp with
     | cons _ _ _ c _ nN ah9 ag ht=>
      refine .cons _ _ _ c _ nN ah9 ?_ (by cases ht;exact .nil _ _);rw[ct ag];have bq:=BV ak.an h (k:=i) (by rw[<-h.pl];exact a1);have:=b4 bq (Kp (p:=p) (ah:=ah) (q:=q) (g:=g) (Hx:=[]) a1 bq);rw[ax,qG] at this;exact this
end
theorem aia(n:Nat):aa.aF 1 (List.replicate n [.val (.bool false)])=aa.da (List.replicate n false):=by rw[aa.da,List.map_replicate]
theorem Lj(n:Nat):aa.aF 1 (List.replicate n [.val (.int .i64 0)])=aa.ints (List.replicate n 0):=by
 show _=aa.aF 1 (List.map _ _);rw[List.map_replicate]
theorem Ca(an:(bK p).isSome=true):bA p (hG p):=by
 have jJ:cr (a7 p) 0=true:=k6.2 ⟨rfl,Nat.pow_pos e3,rfl⟩;have eZ:0<=p.aJ:=by
  obtain⟨o,aA⟩:=Option.isSome_iff_exists.1 an;have nX:=(kF aA).1;simp only[gS,Bool.and_eq_true,decide_eq_true_eq,beq_iff_eq] at nX;obtain⟨⟨⟨fC,cy⟩,AL,al⟩,hR⟩:=nX;omega
 refine⟨by simp[hG],by simp[hG],by simp[hG],by simp[hG];omega,λi av=>?_,λl ax k ao=>?_,λk ao=>?_,λk ao=>?_⟩
 ·have al:=w0 an av;obtain⟨o,aA⟩:=Option.isSome_iff_exists.1 an;have:=(uE (kF aA).2.2.1 (cp (l:=p.du) (k:=(p.methods.getD i default).gen.toNat) ad)).1;show (((p.methods.map λM=>List.replicate (gU p M.gen).toNat (0:Int)).getD i default).length:Int)=_;rw[B5 av,List.length_replicate];unfold gU;omega
 ·obtain⟨M,_,rfl⟩:=List.mem_map.1 ax;rw[List.eq_of_mem_replicate ao];exact jJ
 ·rw[List.eq_of_mem_replicate ao];exact jJ
 ·rw[List.eq_of_mem_replicate ao];exact jJ
theorem aib(h:i<p.methods.length):aa.bD ((hG p).params.take (i+1))= .aF 1 (((hG p).params.take i).map (λx=>[aa.ints x])++[[aa.ints (List.replicate (gU p (p.methods.getD i default).gen).toNat 0)]]):=by
 have ax:i<(hG p).params.length:=by simp[hG,h]
 rw[<-eE ax];have e:(hG p).params.getD i default=List.replicate (gU p (p.methods.getD i default).gen).toNat 0:=B5 h;rw[e];show aa.aF 1 (List.map _ (_++_))=_;rw[List.map_append];rfl
theorem aic(aB:p.Small)(an:(bK p).isSome=false):ba Tryz.prog 14 [aa.prog p] (.bJ [aa.ef ⟨[],[],[],[]⟩,.i 2]):=by
 intro H;refine bh (n:=60) Tryz.func14 λB I aO=>?_;have iT:=Er aB;rw[an] at iT;refine bg ?_;refine au.cG rfl rfl rfl rfl (λer=>?_);refine bg ?_;refine aq.scope ?_;refine bI ?_;refine aG (af.call .k (iT)) ?_;refine bg ?_;refine aq.cond rfl (λai=>?_) (λai=>?_)
 ·refine bS ?_;refine aR.x6 ?_;refine aR.c5 (rs:=[.cell 2 31,.tmp 3]) (H':=H) rfl (Cp) (.cons (aL.agg (.cons (aL.nil 1) (.cons (aL.nil 1) (.cons (aL.nil 1) (.cons (aL.nil 1) .nil))))) (.cons (.refl _) .nil)) b8 ?_;exact⟨dJ,rfl⟩
 ·simp at ai
theorem aid(an:(bK p).isSome=true):0<=p.aJ/\p.aJ<=40:=by
 have alJ:=BZ an;obtain⟨o,aA⟩:=Option.isSome_iff_exists.1 an;have nX:=(kF aA).1;simp only[gS,Bool.and_eq_true,decide_eq_true_eq,beq_iff_eq] at nX;obtain⟨⟨⟨fC,cy⟩,AL,al⟩,hR⟩:=nX;omega
theorem aie(aB:p.Small)(an:(bK p).isSome=true)(H:List aj):b1 Tryz.prog 14 [aa.prog p] H (λy H'=>∃(q:fa) (G:GT),y= .bJ [.agg [.val q.hD,.aF 1 (q.vs.map λv=>[aa.val v]),.val q.gk,.val q.fP],.i 0]/\H'=b5 p (bW p) q G H/\gC p q/\bA p G.t/\G.t=kv p (bW p)) (λ_ _=>False):=by
 refine bh (n:=60) Tryz.func14 λB I aO=>?_;have iT:=Er aB;rw[an] at iT;have en:=oF an;have eZ:=aid an;have Ld:p.nodes.length<=120:=by
  obtain⟨o,aA⟩:=Option.isSome_iff_exists.1 an;exact (wk aA).2
 have hL:(hG p).params.length=p.methods.length:=by simp[hG]
 refine bg ?_;refine au.cG rfl rfl rfl rfl (λer=>?_);refine bg ?_;refine aq.scope ?_;refine bI ?_;refine aG (af.call .k (iT)) ?_;refine bg ?_;refine aq.cond rfl (λai=>?_) (λai=>?_)
 ·simp at ai
 ·refine bg ?_;refine aq.bL mixed ?_;refine bk.Hl [⟨12,4,31,[.slice none 0 0,.slice none 0 0,.slice none 0 0,.slice none 0 0],13,[aa.da (hG p).bP,.val (.slice none 0 0),aa.ints (hG p).nodes,aa.ints (hG p).aJ]⟩] 0 14 60 rfl ay aM rfl rfl ay ?_;refine bp.gx rfl rfl rfl rfl (cK) ?_;refine bp.gx rfl rfl rfl rfl (dI) ?_;refine bp.gx rfl rfl rfl rfl (Cu) ?_;refine bp.gx rfl rfl rfl rfl (af.eq (af.DF p.methods.length rfl rfl rfl rfl rfl rfl rfl ad CR) (aia _)) ?_;refine bp.gx rfl rfl rfl rfl (cK) ?_;refine bp.gx rfl rfl rfl rfl (dI) ?_;refine bp.gx rfl rfl rfl rfl (Cu) ?_;refine bp.gx rfl rfl rfl rfl (af.eq (af.DF p.nodes.length rfl rfl rfl rfl rfl rfl rfl ad CR) (Lj _)) ?_;refine bp.gx rfl rfl rfl rfl (cK) ?_;refine bp.gx rfl rfl rfl rfl (dI) ?_;refine bp.gx rfl rfl rfl rfl (af.eq (af.DF p.aJ.toNat rfl rfl rfl rfl rfl ad ad ad CR) (Lj _)) ?_;refine bp.gx rfl rfl rfl rfl (af.zJ rfl rfl c4 rfl) ?_;refine bp.Dp [] [] ⟨12,4,31,[.slice none 0 0,.slice none 0 0,.slice none 0 0,.slice none 0 0],13,[aa.da (hG p).bP,.val (.slice none 0 0),aa.ints (hG p).nodes,aa.ints (hG p).aJ]⟩ rfl ⟨0,14,aM⟩ rfl rfl rfl rfl rfl rfl rfl ?_;refine bp.Dq [] [] ⟨12,4,31,[.slice none 0 0,.slice none 0 0,.slice none 0 0,.slice none 0 0],13,[aa.da (hG p).bP,.val (.slice none 0 0),aa.ints (hG p).nodes,aa.ints (hG p).aJ]⟩ rfl ⟨0,14,aM⟩ rfl rfl rfl (λb H1 db hu=>.store rfl rfl rfl rfl rfl rfl rfl rfl hu fM fM) ?_;refine bp.nil (λb9=>?_);simp only[List.map_cons,List.map_nil,List.cons_append,List.nil_append];refine bk.done rfl ?_;refine bg ?_;generalize b9 4=tb;refine bs ?_;refine aq.sN (b:=tb) (t:=31) 23 1 1 pO rfl rfl ?_;refine cq (λz st=>∃(i:Nat) (v1:Value),st=⟨[(28,.i i),(27,.i p.methods.length),(26,.aF 9 (p.methods.map fw)),(4,.p tb 0),(2,.p er 0),(1,.ptr (dF p))],.own 23 1 v1::.aI tb 31 [aa.da (hG p).bP,.as (aa.bD ((hG p).params.take i)) v1,aa.ints (hG p).nodes,aa.ints (hG p).aJ]::.aI er 31 [.val (.slice none 0 0),.val (.slice none 0 0),.val (.slice none 0 0),.val (.slice none 0 0)]::H⟩/\z=p.methods.length - i/\i<=p.methods.length) (⟨0,_,rfl,rfl,ad⟩) ?_;rintro z _ ⟨i,v1,rfl,rfl,av⟩;refine aT ?_;refine aZ (λab=>?_) λab=>?_
  ·have a1:i<p.methods.length:=by omega
   obtain⟨M,bT⟩:∃M,M=p.methods.getD i default:=⟨_,rfl⟩;have al:=w0 an a1;obtain⟨A,cy⟩:∃A,A=(gU p M.gen).toNat:=⟨_,rfl⟩;have alK:A<=10/\0<=gU p M.gen/\(A:Int)=p.du.getD M.gen.toNat default:=by
    obtain⟨o,aA⟩:=Option.isSome_iff_exists.1 an;have di:=(uE (kF aA).2.2.1 (cp (l:=p.du) (k:=M.gen.toNat) Mo)).2;have eW:=(uE (kF aA).2.2.1 (cp (l:=p.du) (k:=M.gen.toNat) Mo)).1;unfold gU at cy ⊢;omega
   refine bs ?_;refine au.cG rfl rfl rfl rfl (λKc=>?_);refine bg ?_;rw[<-bT];refine aq.ep (d:=6) rfl ey ?_;refine aq.bL mixed ?_;refine bk.b7 0 10 60 rfl ay rfl rfl ay ?_;refine aT ?_;refine bU.bB rfl rfl rfl (Vx) ?_;refine bt ?_;refine bU.bB rfl rfl rfl (af.eq (af.DF A rfl rfl rfl rfl rfl ad ad ad CR) (Lj _)) ?_;refine bU.bB (x:=.aF 1 [[aa.ints (List.replicate A 0)]]) rfl rfl rfl (af.row rfl rfl c4 rfl rfl rfl rfl rfl rfl) ?_;refine bC ?_;refine au.gu rfl rfl rfl rfl rfl rfl rfl rfl (aL.refl _) (rfl) (λv=>by repeat (first | exact bu.head _ _ _ | apply bu.tail)) dj dj (λI6=>?_);refine bS ?_;exact bV (⟨i+1,I6,by rw[aib a1, <-bT, <-cy],rfl,a1⟩)
  ·obtain rfl:i=p.methods.length:=by omega
   rw[<-hL,List.take_length];refine aT ?_;refine aq.Oq pO (.cons (.refl _) (.cons (aL.hb _ _) (.cons (.refl _) (.cons (.refl _) .nil)))) ?_;refine aq.ep (d:=4) rfl ey ?_;refine bg ?_;refine dE .k ((EF aB an (hG p) _).b) ?_;rintro _ _ ⟨b3,ms,rfl,rfl,b4⟩;refine c6 ?_;refine dE .k ((Um an (Ca an) b4).b) ?_;rintro _ _ ⟨q,bd,rfl,rfl,ak⟩;subst bd;refine bg ?_;refine aq.label ?_;refine bg ?_;refine aq.MM (λz st=>∃(G:GT),st=⟨[(7,.p q.b3 0),(2,.p er 0),(1,.ptr (dF p))],b5 p (bW p) q G (.aI er 31 [.val (.slice none 0 0),.val (.slice none 0 0),.val (.slice none 0 0),.val (.slice none 0 0)]::H)⟩/\z=oa p G.t/\bA p G.t/\nZ p (bW p) (oa p G.t+1) G.t=kv p (bW p)) ⟨_,_,⟨⟨_,false⟩,rfl,rfl,Ca an,rfl⟩,h2,(List.Sublist.cons_cons _ (List.Sublist.append (List.Sublist.refl _) (List.sublist_cons_self _ _)))⟩ ?_;rintro z _ ⟨G,rfl,rfl,c8,FE⟩;refine bI ?_;refine dE .k ((Uj (g:=G) ak aB c8).b) ?_;rintro _ _ ⟨rfl,rfl⟩;refine bg ?_;refine aZ (λae=>?_) λae=>?_
   ·have Cb:(gg p (bW p) G.t).ch=false:=by simpa using ae
    have eY:=UO an (bW p) c8 Cb;rw[nZ,Cb] at FE;refine aT ?_;refine aq.perm (H':=.aI er 31 [.val (.slice none 0 0),.val (.slice none 0 0),.val (.slice none 0 0),.val (.slice none 0 0)]::b5 p (bW p) q (gg p (bW p) G.t) H) (by first | exact List.perm_middle (l₁:=eU p q (gg p (bW p) G.t).ch::eL (bW p) q (gg p (bW p) G.t).t) | exact (List.perm_middle (l₁:=eU p q (gg p (bW p) G.t).ch::eL (bW p) q (gg p (bW p) G.t).t)).symm) ?_;refine bz ?_;apply au.j9 rfl rfl rfl rfl rfl rfl rfl (by simp[ha,ak.yW,ak.BU,ak.n3,ak.rh]) (by simp[eG,dq,ha,ak.yW,ak.BU,ak.n3,ak.rh]) rfl
    (case hu=>repeat (first | exact bu.head _ _ _ | apply bu.tail));(case hfit=>rfl);(case hds=>rfl)
    refine bI ?_;refine aR.x6 ?_;refine aR.c5 (rs:=[.cell 2 31,.tmp 3]) (H':=b5 p (bW p) q (gg p (bW p) G.t) H) rfl (Cp) (bO.refl _) (by exact List.sublist_cons_self _ _) ?_;exact⟨q,gg p (bW p) G.t,rfl,rfl,ak,by rw[eY];exact c8,by rw[eY];exact FE⟩
   ·have Cb:(gg p (bW p) G.t).ch=true:=by simpa using ae
    have aif:=Lh an (bW p) c8 Cb;have cA:=Fz an (bW p) c8;rw[nZ,Cb,if_pos rfl,Li an (bW p) _ cA aif] at FE;refine bC ?_;exact bV (⟨gg p (bW p) G.t,rfl,rfl,cA,FE⟩)
theorem Lk(aB:p.Small)(an:(bK p).isSome=true):ba Tryz.prog 14 [aa.prog p] (.bJ [aa.ef (kv p (bW p)),.i 0]):=λH=>by
 refine b1.sV (aie aB an H) ?_;rintro _ _ ⟨q,G,rfl,rfl,ak,c8,he⟩ B I w v hw az aK;cases aK with
 | bJ _ vs ja=>
  generalize ax:vs.toList=l at ja;cases ja with | cons _ a _ l ab ja=>cases ja with | cons _ b _ l ae ja=>
   cases ja;obtain⟨J,qP,nF,sW,qQ⟩:=ah8 ak c8 hw az ab;rw[he] at qQ;exact⟨J,_,_,qP,nF,sW,.bJ _ _ (by rw[ax];exact .cons _ _ _ _ qQ (.cons _ _ _ _ (ae.bQ nF.keeps) .nil)),rfl,rfl⟩
theorem aih(aB:p.Small):ba Tryz.prog 14 [aa.prog p] (if(bK p).isSome then .bJ [aa.ef (kv p (bW p)),.i 0] else .bJ [aa.ef ⟨[],[],[],[]⟩,.i 2]):=by
 cases an:(bK p).isSome with
 | true=>exact Lk aB an
 | false=>exact aic aB an
def mS(x y:Bool×Bool):Prop:=(x.1=true->y.1=true)/\(x.2=true->y.2=true)
theorem mS.refl(x:Bool×Bool):mS x x:=⟨id,id⟩
theorem mS.swap{x y:Bool×Bool}(h:mS x y):mS x.swap y.swap:=⟨h.2,h.1⟩
theorem mS.and(h:mS x lb)(ae:mS y y'):mS (x.1 && y.1,x.1 && y.2 || x.2 && y.1 || x.2 && y.2) (lb.1 && y'.1,lb.1 && y'.2 || lb.2 && y'.1 || lb.2 && y'.2):=by
 obtain⟨a,b⟩:=x;obtain⟨c,d⟩:=y;obtain⟨fY,dk⟩:=lb;obtain⟨yn,tY⟩:=y';revert h ae;simp only[mS];cases a <;> cases b <;> cases c <;> cases d <;> cases fY <;> cases dk <;> cases yn <;> cases tY <;> decide
theorem mS.or(h:mS x lb)(ae:mS y y'):mS (x.1 && y.1 || x.1 && y.2 || x.2 && y.1,x.2 && y.2) (lb.1 && y'.1 || lb.1 && y'.2 || lb.2 && y'.1,lb.2 && y'.2):=by
 obtain⟨a,b⟩:=x;obtain⟨c,d⟩:=y;obtain⟨fY,dk⟩:=lb;obtain⟨yn,tY⟩:=y';revert h ae;simp only[mS];cases a <;> cases b <;> cases c <;> cases d <;> cases fY <;> cases dk <;> cases yn <;> cases tY <;> decide
def Cc(x y:Nat×Bool):Prop:=(∀c,x.1.testBit c=true->y.1.testBit c=true)/\(x.2=true->y.2=true)
theorem FF{n:Nat}{q:Nat->Bool}(h:∀c,k.testBit c=true->cJ.testBit c=true)(bN:((List.range n).any λc=>k.testBit c && q c)=true):((List.range n).any λc=>cJ.testBit c && q c)=true:=by
 rw[List.any_eq_true] at bN ⊢;obtain⟨c,ak,ae⟩:=bN;rw[Bool.and_eq_true] at ae;exact⟨c,ak,by rw[Bool.and_eq_true];exact⟨h c ae.1,ae.2⟩⟩
section
variable{p:Prog}{t dR:bG}(aH:fK t.aJ dR.aJ)
include aH
theorem aii(s:Int){k cJ:Nat×Bool}(h:Cc k cJ):Cc (lR p t s k) (lR p dR s cJ):=by
 unfold lR;refine⟨λc ak=>?_,λak=>?_⟩
 ·by_cases ab:((List.range (a7 p)).any λc=>k.1.testBit c && fT p c s)=true
  ·simp only[ab,if_true] at ak;simp only[FF h.1 ab,if_true];exact aH _ _ ak
  ·simp only[ab] at ak;simp at ak
 ·simp only[Bool.or_eq_true] at ak ⊢;exact ak.imp h.2 (FF h.1)
theorem aij(c:Int)(path:List Int):Cc (ll p t c path) (ll p dR c path):=by
 have key:∀(path:List Int) {k cJ:Nat×Bool},Cc k cJ->Cc (path.foldl (λk s=>lR p t s k) k) (path.foldl (λk s=>lR p dR s k) cJ):=by
  intro path
  induction path with
  | nil=>intro k cJ h;exact h
  | cons s r bm=>intro k cJ h;exact bm (aii aH s h)
 exact key path ⟨λ_ h=>h,id⟩
end
mutual
theorem UR{p:Prog}{t dR:bG}(aH:fK t.aJ dR.aJ)(l:List Int):∀f:Fact,mS (e1 p t l f) (e1 p dR l f)
 | .mk op arg path cls n kids=>by
  rw[e1,e1];by_cases ab:op=1
  ·rw[if_pos ab,if_pos ab];exact .refl _
  rw[if_neg ab,if_neg ab];by_cases bl:op=5
  ·rw[if_pos bl,if_pos bl];exact (za aH l kids 0).swap
  rw[if_neg bl,if_neg bl];by_cases cP:op=6
  ·rw[if_pos cP,if_pos cP];exact (za aH l kids 0).and (za aH l kids 1)
  rw[if_neg cP,if_neg cP];by_cases di:op=7
  ·rw[if_pos di,if_pos di];exact (za aH l kids 0).or (za aH l kids 1)
  rw[if_neg di,if_neg di];have ao:=aij (p:=p) aH (l.getD arg.toNat default) path;simp only;by_cases ae:op=2
  ·rw[if_pos ae,if_pos ae];refine⟨FF ao.1,λh=>?_⟩;simp only[Bool.or_eq_true] at h ⊢;exact h.imp ao.2 (FF ao.1)
  ·rw[if_neg ae,if_neg ae];refine⟨ao.1 1,λh=>?_⟩;simp only[Bool.or_eq_true,decide_eq_true_eq] at h ⊢;refine h.imp ao.2 λbq=>?_;exact Nat.pos_iff_ne_zero.1 (Nat.lt_of_lt_of_le (Nat.pos_iff_ne_zero.2 bq) (FD ao.1))
theorem za{p:Prog}{t dR:bG}(aH:fK t.aJ dR.aJ)(l:List Int):∀(r:List Fact) (i:Nat),mS ((mH p t l r).getD i default) ((mH p dR l r).getD i default)
 | [],i=>by rw[mH,mH];exact .refl _
 | f::r,0=>by rw[mH,mH];exact UR aH l f
 | f::r,i+1=>by rw[mH,mH];exact za aH l r i
end
theorem US:∀{bc kx:List Int},bc.length=kx.length->fK bc kx->∀l∈fU bc,l∈fU kx
 | [],[],_,_,l,h=>h
 | k::r,cJ::alL,ax,h,l,hm=>by
  simp only[fU,List.mem_flatMap,List.mem_map] at hm ⊢;obtain⟨c,ak,x,ag,rfl⟩:=hm;exact⟨c,qf.2 ⟨(qf.1 ak).1,h 0 c (qf.1 ak).2⟩,x,US (by simpa using ax) (λi=>h (i+1)) x ag,rfl⟩
theorem UT{L:List (List Int)}{i c:Nat}:(mn L i).testBit c=true↔∃l∈L,(l.getD i default).toNat=c:=by
 have key:∀(L:List (List Int)) (a:Nat),(L.foldl (λa l=>a ||| 2^(l.getD i default).toNat) a).testBit c=true↔a.testBit c=true\/∃l∈L,(l.getD i default).toNat=c:=by
  intro L
  induction L with
  | nil=>intro a;simp
  | cons x r bm=>
   intro a;rw[List.foldl_cons,bm,Nat.testBit_or,Bool.or_eq_true,Nat.testBit_two_pow,decide_eq_true_eq];simp[or_assoc]
 rw[mn,key];simp
section
variable{p:Prog}{t dR:bG}(aH:fK t.aJ dR.aJ)
include aH
theorem aik(f:Fact){bc kx:List Int}(ax:bc.length=kx.length)(ao:fK bc kx):∀l∈iZ p t f bc,l∈iZ p dR f kx:=λl h=>by
 have h:=List.mem_filter.1 h;exact List.mem_filter.2 ⟨US ax ao l h.1,(UR (p:=p) aH l f).1 h.2⟩
theorem ail{gen:Int}{bc kx:List Int}(ax:bc.length=kx.length)(ao:fK bc kx):∀x∈hj p t gen bc,∃got,(x.1,got)∈hj p dR gen kx/\got.length=x.2.length/\fK x.2 got:=λx ag=>by
 obtain⟨m,hm,h⟩:=List.mem_filterMap.1 ag;split at h
 ·rename_i ak;cases h;have hy:=aik (p:=p) aH (p.methods.getD m default).fact ax ao;obtain⟨eJ,rz⟩:=List.exists_mem_of_ne_nil _ ak.2;refine⟨iL (iZ p dR (p.methods.getD m default).fact kx) kx.length,List.mem_filterMap.2 ⟨m,hm,if_pos ⟨ak.1,λe=>by have:=hy eJ rz;rw[e] at this;cases this⟩⟩,by simp[iL,ax],λi c aw=>?_⟩
  ·simp only[jK,iL] at aw ⊢;by_cases av:i<bc.length
   ·rw[List.getD_eq_getElem?_getD,List.getElem?_map,List.getElem?_range av] at aw;rw[List.getD_eq_getElem?_getD,List.getElem?_map,List.getElem?_range ad];simp only[Option.map_some,Option.getD_some,Int.toNat_natCast] at aw ⊢;obtain⟨l,ab,ae⟩:=UT.1 aw;exact UT.2 ⟨l,hy l ab,ae⟩
   ·rw[List.getD_eq_getElem?_getD,List.getElem?_eq_none dj] at aw;simp at aw
 ·cases h
end
structure In(p:Prog)(T:bG)(g:GT):Prop where
 ok:bA p g.t
 le:mL g.t T
theorem sj{α:Type}{p:Prog}{T:bG}{f:GT->α->GT}:∀(L:List α) {g:GT},In p T g->(∀g,∀x∈L,In p T g->In p T (f g x))->In p T (L.foldl f g)
 | [],g,h,_=>h
 | x::r,g,h,aP=>sj r (aP g x (.head _) h) λg y hy=>aP g y (.tail _ hy)
section
variable{p:Prog}{T:bG}{ch:Bool}(bX:bA p T){g:GT}
theorem zb{i x:Nat}(av:i<T.nodes.length)(e:(GT.cz ⟨T,ch⟩ i x).t=T):∀c,x.testBit c=true->jK (T.nodes.getD i default) c:=λc ak=>by
 have aW:hW T.nodes i x=T.nodes:=congrArg bG.nodes e;have:jK ((hW T.nodes i x).getD i default) c:=xe.2 (.inr ⟨rfl,av,ak⟩);rwa [aW] at this
theorem Ll{i x:Nat}(av:i<T.aJ.length)(e:(GT.fu ⟨T,ch⟩ i x).t=T):∀c,x.testBit c=true->jK (T.aJ.getD i default) c:=λc ak=>by
 have aW:hW T.aJ i x=T.aJ:=congrArg bG.aJ e;have:jK ((hW T.aJ i x).getD i default) c:=xe.2 (.inr ⟨rfl,av,ak⟩);rwa [aW] at this
theorem UU{m i x:Nat}(hm:m<T.params.length)(av:i<(T.params.getD m default).length)(e:(GT.kp ⟨T,ch⟩ m i x).t=T):∀c,x.testBit c=true->jK ((T.params.getD m default).getD i default) c:=λc ak=>by
 have aW:T.params.set m (hW (T.params.getD m default) i x)=T.params:=congrArg bG.params e;have cN:=(r9 hm).1 aW;have:jK ((hW (T.params.getD m default) i x).getD i default) c:=xe.2 (.inr ⟨rfl,av,ak⟩);rwa [cN] at this
theorem In.cz(h:In p T g)(i:Nat){x:Nat}(ag:fj p x)(aw:∀c,x.testBit c=true->jK (T.nodes.getD i default) c):In p T (g.cz i x):=
 ⟨h.ok.cz i ag,h.le.r,h.le.p,λj c q=>(xe.1 q).elim (h.le.n j c) λ⟨e,_,ag⟩=>e▸aw c ag,h.le.s⟩
theorem In.fu(h:In p T g)(i:Nat){x:Nat}(ag:fj p x)(aw:∀c,x.testBit c=true->jK (T.aJ.getD i default) c):In p T (g.fu i x):=
 ⟨h.ok.fu i ag,h.le.r,h.le.p,h.le.n,λj c q=>(xe.1 q).elim (h.le.s j c) λ⟨e,_,ag⟩=>e▸aw c ag⟩
theorem In.kp(h:In p T g)(m i:Nat){x:Nat}(ag:fj p x)(aw:∀c,x.testBit c=true->jK ((T.params.getD m default).getD i default) c):In p T (g.kp m i x):=by
 refine⟨h.ok.kp m i ag,h.le.r,λn=>?_,h.le.n,h.le.s⟩;show fK ((g.t.params.set m _).getD n default) _;rw[pG];split
 ·rename_i e;rw[<-e.1];exact λj c q=>(xe.1 q).elim (h.le.p m j c) λ⟨e,_,ag⟩=>e▸aw c ag
 ·exact h.le.p n
theorem In.reach(h:In p T g)(m:Nat)(aw:T.bP.getD m default=true):In p T (g.reach m):=by
 refine⟨h.ok.reach m,λn hn=>?_,h.le.p,h.le.n,h.le.s⟩;have hn:(g.t.bP.set m true).getD n default=true:=hn;rw[pG] at hn;split at hn
 ·rename_i e;rw[<-e.1];exact aw
 ·exact h.le.r n hn
include bX
theorem aim(hm:m<p.methods.length)(e:(GT.reach ⟨T,ch⟩ m).t=T):T.bP.getD m default=true:=
 ((r9 (by rw[bX.jm];exact hm)).1 (congrArg bG.bP e)).symm
theorem UW(h:In p T g)(c:Nat){s:Int}(aH:0<=s/\s<p.aJ)(e:(GT.begin p c ⟨T,ch⟩ s).t=T):In p T (GT.begin p c g s):=
 h.fu _ (BR c s) (Ll (by have:=bX.aF;omega) e)
theorem ain(h:In p T g){i j:Nat}(av:i<p.methods.length+2)(aU:j<(fB T i).length){x:Nat}(ag:fj p x)(e:(GT.qj ⟨T,ch⟩ i j x).t=T):In p T (g.qj i j x):=by
 have a6:=bX.pl;have aW:=h.ok.pl;unfold GT.qj at e ⊢;unfold fB at aU;by_cases ab:i<p.methods.length
 ·rw[if_pos (by simp only;omega)] at e;rw[if_pos ad];rw[if_pos ad] at aU;exact h.kp i j ag (UU ad aU e)
 ·rw[if_neg (by simp only;omega)] at e;rw[if_neg ad];rw[if_neg ad] at aU;by_cases ae:i=p.methods.length
  ·rw[if_pos (by simp only;omega)] at e;rw[if_pos ad];rw[if_pos ad] at aU;exact h.cz j ag (zb aU e)
  ·rw[if_neg (by simp only;omega)] at e;rw[if_neg ad];rw[if_neg ad] at aU;exact h.fu j ag (Ll aU e)
theorem aio(h:In p T g){i:Nat}(av:i<p.methods.length+2):fK (fB g.t i) (fB T i):=by
 have a6:=bX.pl;have aW:=h.ok.pl;by_cases ab:i<p.methods.length
 ·rw[show fB g.t i=g.t.params.getD i default from if_pos ad,show fB T i=T.params.getD i default from if_pos ad];exact h.le.p i
 ·by_cases ae:i=p.methods.length
  ·rw[show fB g.t i=g.t.nodes from (if_neg ad).trans (if_pos ad),show fB T i=T.nodes from (if_neg ad).trans (if_pos ad)];exact h.le.n
  ·rw[show fB g.t i=g.t.aJ from (if_neg ad).trans (if_neg ad),show fB T i=T.aJ from (if_neg ad).trans (if_neg ad)];exact h.le.s
theorem aip(ai:In p T g)(c:Nat){to:Nat}(ab:1<=to)(ae:to<a7 p)(e:GT.oI c to ⟨T,ch⟩=⟨T,ch⟩):In p T (GT.oI c to g):=by
 have hR:=r8 (p:=p) _ (g:=⟨T,ch⟩) bX (λjb i av cf=>UF cf (by have:=List.mem_range.1 av;have:=bX.pl;simp only at*;omega) ab ae) e;refine sj _ ai λg i av h=>?_;have k3:i<p.methods.length+2:=by have:=List.mem_range.1 av;have:=ai.ok.pl;omega
 have bE:=r8 (p:=p) _ (g:=⟨T,ch⟩) bX (λjb j aU cf=>UE cf k3 (by rw[Le cf bX k3];exact List.mem_range.1 aU) ab ae) (hR i (List.mem_range.2 (by have:=bX.pl;simp only;omega)));refine sj _ h λjb j aU cf=>?_;have eB:j<(fB T i).length:=by rw[Le bX h.ok k3];exact List.mem_range.1 aU
 have aW:=bE j (List.mem_range.2 eB);unfold oH at aW ⊢;split
 ·rename_i ak;rw[if_pos (aio bX cf k3 j c ak)] at aW;exact ain bX cf k3 eB (kI ab ae) (congrArg GT.t aW)
 ·exact cf
theorem aiq(h:In p T g){n:Nat}(hn:n<p.nodes.length){c:Nat}(ab:1<=c)(ae:c<a7 p)(e:xb p n c ⟨T,ch⟩=⟨T,ch⟩):In p T (xb p n c g):=by
 have a:=rf (g:=⟨T,ch⟩) bX hn (kI ab ae);obtain⟨a6,aW⟩:=a.r7 (pH _ a.c7 λg s aH h=>B7 h c (tu s aH).1) e;have cN:(hC p c).foldl (GT.begin p c) ⟨T,ch⟩=⟨T,ch⟩:=by rw[a6] at aW;exact aW
 have bE:=r8 (p:=p) _ (g:=⟨T,ch⟩) bX (λg s aH h=>B7 h c (tu s aH).1) cN;exact sj _ (h.cz n (kI ab ae) (zb (by rw[bX.nl];exact hn) (congrArg GT.t a6))) λg s aH h=>UW bX h c (tu s aH).1 (congrArg GT.t (bE s aH))
theorem air(h:In p T g){n:Nat}(hn:n<p.nodes.length){to:Nat}(ab:1<=to)(ae:to<a7 p)(c:Nat)(e:pE p n to ⟨T,ch⟩ c=⟨T,ch⟩):In p T (pE p n to g c):=by
 unfold pE at e ⊢;split
 ·exact h
 rename_i ak;rw[if_neg ak] at e;have a:=rf (g:=⟨T,ch⟩) bX hn (kI ab ae);have b:=UG a.c7 c ab ae;have F:∀g,∀s∈hC p to,bA p g.t->Grow p g (if fT p c s=true then g else GT.begin p to g s):=λg s aH h=>ku (λ_=>.refl h) λ_=>B7 h to (tu s aH).1;obtain⟨a6,aW⟩:=(a.trans b).r7 (pH _ b.c7 F) e;obtain⟨cN,gO⟩:=a.r7 b a6;rw[a6] at aW;rw[cN] at gO;have bE:=r8 (p:=p) _ (g:=⟨T,ch⟩) bX F aW;refine sj _ (aip bX (h.cz n (kI ab ae) (zb (by rw[bX.nl];exact hn) (congrArg GT.t cN))) c ab ae gO) λg s aH h=>?_;have mv:=bE s aH;split
 ·exact h
 ·rename_i Ku;rw[if_neg Ku] at mv;exact UW bX h to (tu s aH).1 (congrArg GT.t mv)
omit bX in
theorem UX(h:∀c,k.testBit c=true->cJ.testBit c=true):∀c∈hV k,c∈hV cJ:=λc ak=>qf.2 ⟨(qf.1 ak).1,h c (qf.1 ak).2⟩
theorem ais(h:In p T g){n:Nat}(hn:n<p.nodes.length){to:Nat}(ab:1<=to)(ae:to<a7 p){k cJ:Nat}(ao:∀c,k.testBit c=true->cJ.testBit c=true)(e:tr p n to cJ ⟨T,ch⟩=⟨T,ch⟩):In p T (tr p n to k g):=by
 have bE:=r8 (p:=p) _ (g:=⟨T,ch⟩) bX (λg c _ h=>UH h hn ab ae c) e;exact sj _ h λg c ak h=>air bX h hn ab ae c (bE c (UX ao c ak))
theorem ait(h:In p T g){m:Nat}(hm:m<p.methods.length){a b:List Int}(ax:a.length=b.length)(s3:fK a b)(aw:b.length=(T.params.getD m default).length)(bN:∀k∈a,cr (a7 p) k=true)(lf:∀k∈b,cr (a7 p) k=true)(e:re m b ⟨T,ch⟩=⟨T,ch⟩):In p T (re m a g):=by
 have bE:=r8 (p:=p) _ (g:=⟨T,ch⟩) bX (λjb k ao cf=>Kj cf hm (by have:=List.mem_range.1 ao;have:=bX.gT m hm;have:=cf.gT m hm;omega) (iN lf k)) e;refine sj _ h λg k ao h=>?_;have gD:=List.mem_range.1 ao;have aW:=bE k (List.mem_range.2 ad);have f:=UU (T:=T) (ch:=ch) (m:=m) (i:=k) (by rw[bX.pl];exact hm) ad (congrArg GT.t aW);exact h.kp m k (iN bN k) λc ak=>f c (s3 k c ak)
theorem aiu(an:(bK p).isSome=true)(h:In p T g){n:Nat}(hn:n<p.nodes.length){x:Int×List Int}{b:List Int}(sn:0<=x.1/\x.1<p.methods.length)(ax:(x.2.length:Int)=gU p (p.methods.getD x.1.toNat default).gen)(mw:b.length=x.2.length)(s3:fK x.2 b)
  (al:∀k∈x.2,cr (a7 p) k=true) (zy:∀k∈b,cr (a7 p) k=true) (e:pF p n ⟨T,ch⟩ (x.1,b)=⟨T,ch⟩):In p T (pF p n g x):=by
 have hm:x.1.toNat<p.methods.length:=by omega
 have a:=SI (g:=⟨T,ch⟩) bX hm;have hlen:∀{t:bG},bA p t->b.length=(t.params.getD x.1.toNat default).length:=λh=>by have:=h.gT _ hm;unfold gU at ax;omega
 have c:=UI (got:=b) a.c7 hm (hlen a.c7) zy;unfold pF at e ⊢;simp only at e ⊢;have key:re x.1.toNat b (GT.reach ⟨T,ch⟩ x.1.toNat)=⟨T,ch⟩/\(uU (p.methods.getD x.1.toNat default)=true->(GT.cz ⟨T,ch⟩ n (T.nodes.getD (p.methods.getD x.1.toNat default).node.toNat default).toNat)=⟨T,ch⟩):=by
  by_cases aB:uU (p.methods.getD x.1.toNat default)=true
  ·rw[if_pos aB] at e;obtain⟨a6,aW⟩:=(a.trans c).r7 (rf c.c7 hn (iN c.c7.nb _)) e;rw[a6] at aW;exact⟨a6,λ_=>aW⟩
  ·rw[if_neg aB] at e;exact⟨e,λh=>absurd h aB⟩
 obtain⟨a6,aW⟩:=a.r7 c key.1;rw[a6] at aW;have q:=ait bX (h.reach _ (aim bX hm (congrArg GT.t a6))) hm mw.symm s3 (hlen bX) al zy aW;split
 ·rename_i aB;have f:=zb (T:=T) (ch:=ch) (i:=n) (by rw[bX.nl];exact hn) (congrArg GT.t (key.2 aB));exact q.cz n (iN q.ok.nb _) λc ak=>f c (q.le.n _ c ak)
 ·exact q
theorem aiv(h:In p T g)(ah:Nat->Nat->Bool){n:Nat}(hn:n<p.nodes.length)(m:Nat)(e:xc p ah n m ⟨T,ch⟩=⟨T,ch⟩):In p T (xc p ah n m g):=by
 have bE:=r8 (p:=p) _ (g:=⟨T,ch⟩) bX (λg o _ h=>by unfold nY;exact ku (λ_=>rf h hn (iN h.nb _)) λ_=>.refl h) e;refine sj _ h λg o aA h=>?_;have aW:=bE o aA;unfold nY at aW ⊢;simp only at aW ⊢;split
 ·rename_i ak;rw[if_pos (by simp only[Bool.and_eq_true] at ak ⊢;exact⟨⟨h.le.r _ ak.1.1,ak.1.2⟩,ak.2⟩)] at aW;have f:=zb (T:=T) (ch:=ch) (i:=n) (by rw[bX.nl];exact hn) (congrArg GT.t aW);exact h.cz n (iN h.ok.nb _) λc ak=>f c (h.le.n _ c ak)
 ·exact h
omit bX in
theorem aiw{a b fY dk:Nat}(h:∀c,a.testBit c=true->fY.testBit c=true)(ae:∀c,b.testBit c=true->dk.testBit c=true):∀c,(a ||| b).testBit c=true->(fY ||| dk).testBit c=true:=λc ak=>by
 rw[Nat.testBit_or,Bool.or_eq_true] at ak ⊢;exact ak.imp (h c) (ae c)
omit bX in
theorem UY(h:∀c,k.testBit c=true->cJ.testBit c=true)(s:Int)(aK:tq p k s=true):tq p cJ s=true:=by
 unfold tq at aK ⊢;rw[List.any_eq_true] at aK ⊢;obtain⟨c,ak,ae⟩:=aK;exact⟨c,UX h c ak,ae⟩
theorem aix(an:(bK p).isSome=true)(h:In p T g)(ah:Nat->Nat->Bool){n:Nat}(hn:n<p.nodes.length){y:ew}{bc kx env fF:List Int}{cj bx:Int}(hy:hI p y bx=true)(he:∀k∈env,cr (a7 p) k=true)(cc:∀k∈fF,cr (a7 p) k=true)(eD:∀k∈bc,cr (a7 p) k=true)(Lm:∀k∈kx,cr (a7 p) k=true)
  (ax:bc.length=kx.length) (m8:y.op=5->(bc.length:Int)=gU p y.n) (lD:fK env fF) (UZ:fK bc kx) (e:kq p ah y n fF cj kx ⟨T,ch⟩=⟨T,ch⟩):In p T (kq p ah y n env cj bc g):=by
 have h6:=λi=>iN eD i;have gD:=λi=>iN Lm i;have ir:n<T.nodes.length:=by rw[bX.nl];exact hn
 have sk:∀i c,(e8 bc i).testBit c=true->(e8 kx i).testBit c=true:=λi c ak=>UZ i c ak;have N:∀{x lb:Nat},fj p x->(GT.cz ⟨T,ch⟩ n lb)=⟨T,ch⟩->(∀c,x.testBit c=true->lb.testBit c=true)->In p T (g.cz n x):=λag e aiy=>by
  have f:=zb (T:=T) (ch:=ch) (i:=n) ir (congrArg GT.t e);exact h.cz n ag λc ak=>f c (aiy c ak)
 unfold kq at e ⊢;by_cases hA:y.op=1\/(12<=y.op/\y.op<=16)
 ·rw[if_pos hA] at e ⊢;exact N (Kr p) e λ_ h=>h
 rw[if_neg hA] at e ⊢;by_cases jQ:y.op=2
 ·rw[if_pos jQ] at e ⊢;exact N (Ks p) e λ_ h=>h
 rw[if_neg jQ] at e ⊢;by_cases BB:y.op=3
 ·rw[if_pos BB] at e ⊢;exact N (iN he _) e λc ak=>lD _ c ak
 rw[if_neg BB] at e ⊢;by_cases sf:y.op=4
 ·rw[if_pos sf] at e ⊢;split
  ·rename_i aK;rw[if_pos (UY (sk 0) _ aK)] at e;exact N (iN h.ok.fh _) e λc ak=>h.le.s _ c ak
  ·exact h
 rw[if_neg sf] at e ⊢;by_cases FG:y.op=6
 ·rw[if_pos FG] at e ⊢;exact aiq bX h hn (oP hy (.inl FG)).2.1 (oP hy (.inl FG)).2.2 e
 rw[if_neg FG] at e ⊢;by_cases Ln:y.op=7
 ·rw[if_pos Ln] at e ⊢;have aH:=Fx hy (.inr Ln);have eZ:y.n.toNat<T.aJ.length:=by have:=bX.aF;omega
  have a:=rf (g:=⟨T,ch⟩) bX hn (gD 1);unfold yS at e ⊢;by_cases aK:tq p (e8 kx 0) y.n=true
  ·rw[if_pos aK] at e;obtain⟨a6,aW⟩:=a.r7 (EX a.c7 ad (gD 1)) e;have a6:GT.cz ⟨T,ch⟩ n (e8 kx 1)=⟨T,ch⟩:=a6;have cN:=aW;rw[show GT.cz ⟨T,ch⟩ n (kx.getD 1 default).toNat=⟨T,ch⟩ from a6] at cN;have q:=N (h6 1) a6 (sk 1);split
   ·have f:=Ll (T:=T) (ch:=ch) (i:=y.n.toNat) eZ (congrArg GT.t cN);exact q.fu _ (h6 1) λc ak=>f c (sk 1 c ak)
   ·exact q
  ·rw[if_neg aK] at e;rw[if_neg λw1=>aK (UY (sk 0) _ w1)];exact N (h6 1) e (sk 1)
 rw[if_neg Ln] at e ⊢;by_cases FH:y.op=8
 ·rw[if_pos FH] at e ⊢;exact ais bX h hn (oP hy (.inr FH)).2.1 (oP hy (.inr FH)).2.2 (sk 0) e
 rw[if_neg FH] at e ⊢;by_cases U0:y.op=9\/y.op=11
 ·rw[if_pos U0] at e ⊢;exact N (h6 1) e (sk 1)
 rw[if_neg U0] at e ⊢;by_cases Jr:y.op=10
 ·rw[if_pos Jr] at e ⊢;exact N (yT (h6 1) (h6 2)) e (aiw (sk 1) (sk 2))
 rw[if_neg Jr] at e ⊢;by_cases U1:y.op=17
 ·rw[if_pos U1] at e ⊢;exact N (h6 0) e (sk 0)
 rw[if_neg U1] at e ⊢;by_cases FI:y.op=5
 ·rw[if_pos FI] at e ⊢;have aiz:(kx.length:Int)=gU p y.n:=by rw[<-ax];exact m8 FI
  have bE:=r8 (p:=p) _ (g:=⟨T,ch⟩) bX (λjb x ag cf=>by
   obtain⟨⟨ab,ae,aD⟩,aV,bl⟩:=xd Lm x ag;exact UJ an cf hn ⟨ab,ae⟩ (by rw[aV,aiz,aD]) bl) e
  refine sj _ h λjb x ag cf=>?_;obtain⟨⟨ab,ae,aD⟩,aV,bl⟩:=xd eD x ag;obtain⟨got,yq,AZ,A0⟩:=ail (p:=p) h.le.s ax UZ x ag;obtain⟨_,_,cP⟩:=xd Lm _ yq;exact aiu bX an cf hn ⟨ab,ae⟩ (by rw[aV,m8 FI,aD]) AZ A0 bl cP (bE _ yq)
 rw[if_neg FI] at e ⊢;by_cases U2:y.op=18
 ·rw[if_pos U2] at e ⊢;split
  ·exact h
  ·rename_i hm;rw[if_neg hm] at e;exact aiv bX h ah hn _ e
 ·rw[if_neg U2];exact h
omit bX in
theorem aiA(h:In p T g){y:ew}(hy:∀k∈y.kids,0<=k/\k<p.nodes.length):fK (lV g.t y) (lV T y):=λi c aw=>by
 unfold lV at aw ⊢;by_cases av:i<y.kids.length
 ·rw[List.getD_eq_getElem?_getD,List.getElem?_map,List.getElem?_eq_getElem av] at aw ⊢;exact h.le.n _ c aw
 ·rw[List.getD_eq_getElem?_getD,List.getElem?_eq_none dj] at aw;simp[jK] at aw
omit bX in
theorem aiB{a b:List Int}{x y:Int}(ax:a.length=b.length)(h:fK a b)(rD:∀c,jK x c->jK y c):fK (a++[x]) (b++[y]):=λi c aw=>by
 by_cases av:i<a.length
 ·rw[List.getD_eq_getElem?_getD,List.getElem?_append_left av, <-List.getD_eq_getElem?_getD] at aw;rw[List.getD_eq_getElem?_getD,List.getElem?_append_left ad, <-List.getD_eq_getElem?_getD];exact h i c aw
 ·by_cases k3:i=a.length
  ·subst k3;rw[List.getD_eq_getElem?_getD,List.getElem?_concat_length] at aw;rw[List.getD_eq_getElem?_getD,ax,List.getElem?_concat_length];exact rD c aw
  ·rw[List.getD_eq_getElem?_getD,List.getElem?_eq_none dj] at aw;simp[jK] at aw
theorem U3{R:Int->List Int->GT->GT}{y:ew}{env fF:List Int}(hy:∀k∈y.kids,0<=k/\k<p.nodes.length)(he:∀k∈env,cr (a7 p) k=true)(cc:∀k∈fF,cr (a7 p) k=true)(lz:env.length=fF.length)(lD:fK env fF):∀(l:List Int) (i:Nat) {g:GT},(∀k∈l,k∈y.kids)->In p T g->
  (∀j,j<l.length->∀(e:List Int) (g:GT),(∀k∈e,cr (a7 p) k=true)->(e.length=env.length+(if y.op=9/\i+j=1 then 1 else 0))->bA p g.t->Grow p g (R (l.getD j default) e g))->
  (∀j,j<l.length->∀(e e':List Int) (g:GT),(∀k∈e,cr (a7 p) k=true)->(∀k∈e',cr (a7 p) k=true)->(e.length=env.length+(if y.op=9/\i+j=1 then 1 else 0))->e.length=e'.length->fK e e'->R (l.getD j default) e' ⟨T,ch⟩=⟨T,ch⟩->In p T g->In p T (R (l.getD j default) e g))->
  lp R y fF i l ⟨T,ch⟩=⟨T,ch⟩->In p T (lp R y env i l g)
 | [],i,g,_,h,_,_,_=>h
 | k::r,i,g,ax,h,c8,b4,e=>by
  rw[lp] at e ⊢;have jw:y.op=9/\i=1->0<=y.kids.getD 0 default/\y.kids.getD 0 default<p.nodes.length:=λ_=>hy _ (cp (List.length_pos_of_mem (ax k (.head _))));have cA:∀{t:bG} {cv:List Int},bA p t->(∀k∈cv,cr (a7 p) k=true)->∀x∈(if y.op=9/\i=1 then cv++[t.nodes.getD (y.kids.getD 0 default).toNat default] else cv),cr (a7 p) x=true:=λ{t cv} ht lD x ag=>by
   split at ag
   ·rename_i ak;rcases List.mem_append.1 ag with aV | aV
    ·exact lD x aV
    ·rw[List.mem_singleton.1 aV];exact BS ht (jw ak)
   ·exact lD x ag
  have hle:∀{t:bG} {cv:List Int},cv.length=env.length->(if y.op=9/\i=1 then cv++[t.nodes.getD (y.kids.getD 0 default).toNat default] else cv).length=env.length+(if y.op=9/\i+0=1 then 1 else 0):=λ{t cv} h=>by
   rw[Nat.add_zero];split
   ·rw[List.length_append,h];rfl
   ·exact h
  have g1:=c8 0 bj _ ⟨T,ch⟩ (cA (t:=T) bX cc) (hle lz.symm) bX;obtain⟨a6,aW⟩:=g1.r7 (FB hy cc r (i+1) (λx ag=>ax x (.tail _ ag)) g1.c7 λj aU e g ab ae aD=>c8 (j+1) (by simpa using aU) e g ab (by rw[ae,lz,show i+1+j=i+(j+1) by omega]) aD) e;have a6:R k (if y.op=9/\i=1 then fF++[T.nodes.getD (y.kids.getD 0 default).toNat default] else fF) ⟨T,ch⟩=⟨T,ch⟩:=a6;have cN:lp R y fF (i+1) r ⟨T,ch⟩=⟨T,ch⟩:=by rw[show R ((k::r).getD 0 default) (if y.op=9/\i=1 then fF++[T.nodes.getD (y.kids.getD 0 default).toNat default] else fF) ⟨T,ch⟩=⟨T,ch⟩ from a6] at aW;exact aW
  have q:=b4 0 bj (if y.op=9/\i=1 then env++[g.t.nodes.getD (y.kids.getD 0 default).toNat default] else env) _ g (cA h.ok he) (cA (t:=T) bX cc) (hle rfl) ((hle rfl).trans (hle lz.symm).symm) (by
   split
   ·exact aiB lz lD (h.le.n _)
   ·exact lD) a6 h
  exact U3 hy he cc lz lD r (i+1) (λx ag=>ax x (.tail _ ag)) q (λj aU e g ab ae aD=>c8 (j+1) (by simpa using aU) e g ab (by rw[ae,show i+1+j=i+(j+1) by omega]) aD)
   (λj aU e e' g ab ae aD aV bl cP di=>b4 (j+1) (by simpa using aU) e e' g ab ae (by rw[aD,show i+1+j=i+(j+1) by omega]) aV bl cP di) cN
theorem Lo(an:(bK p).isSome=true){ah:Nat->Nat->Bool}{m:Int}{next:Bool}:∀(f:Nat) {n:Int} {env fF:List Int} {g:GT},jI p next f n env.length->(∀k∈env,cr (a7 p) k=true)->(∀k∈fF,cr (a7 p) k=true)->env.length=fF.length->fK env fF->hX p ah m f n fF ⟨T,ch⟩=⟨T,ch⟩->In p T g->In p T (hX p ah m f n env g)
 | 0,n,env,fF,g,xw,_,_,_,_,_,_=>xw.elim
 | f+1,n,env,fF,g,xw,he,cc,lz,lD,e,h=>by
  rw[hX] at e ⊢;have mK:=BN xw;have iH:=w7 xw;have pD:=(BO xw).1;have DE:∀j,j<(hl p n).kids.length->∀k:Nat,k=env.length+(if(hl p n).op=9/\0+j=1 then 1 else 0)->jI p next f ((hl p n).kids.getD j default) k:=λj aU k ao=>by
   have:=xw.2.2 j aU;rw[ao];rw[Nat.zero_add];split at this
   ·rename_i ak;rw[if_pos ak];simpa using this
   ·rename_i ak;rw[if_neg ak];simpa using this
  have al:∀j,j<(hl p n).kids.length->∀(e:List Int) (g:GT),(∀k∈e,cr (a7 p) k=true)->(e.length=env.length+(if(hl p n).op=9/\0+j=1 then 1 else 0))->bA p g.t->Grow p g (hX p ah m f ((hl p n).kids.getD j default) e g):=
   λj aU e g ab ae aD=>B8 an f (next:=next) (DE j aU _ ae) ab aD
  have a:=FB (R:=hX p ah m f) (env:=fF) mK cc _ 0 (λx ag=>ag) (g:=⟨T,ch⟩) bX λj aU e g ab ae aD=>al j aU e g ab (by rw[ae,lz]) aD;have hlen:∀{t:bG},(lV t (hl p n)).length=(hl p n).kids.length:=λ{t}=>by rw[lV,List.length_map]
  have m8:∀{t:bG},(hl p n).op=5->((lV t (hl p n)).length:Int)=gU p (hl p n).n:=λ{t} bl=>by rw[hlen];exact (ER xw).1 (by rw[bl];rfl)
  obtain⟨a6,aW⟩:=a.r7 (UK an a.c7 ah ad pD cc (yU a.c7 mK) m8) e;rw[a6] at aW;have q:=U3 bX (R:=hX p ah m f) mK he cc lz lD (hl p n).kids 0 (λx ag=>ag) h al
   (λj aU e e' g ab ae aD aV bl cP di=>Lo an f (next:=next) (DE j aU _ aD) ab ae aV bl cP di) a6
  exact aix bX an q ah ad pD he cc (yU q.ok mK) (yU bX mK) (by rw[hlen,hlen]) m8 lD (aiA q mK) aW
theorem aiC(an:(bK p).isSome=true)(ah:Nat->Nat->Bool)(h:In p T g){i:Nat}(av:i<p.methods.length)(e:nm p ah ⟨T,ch⟩ i=⟨T,ch⟩):In p T (nm p ah g i):=by
 obtain⟨ab,_,aD,_⟩:=y8 an ah (g:=g) h.ok av;obtain⟨_,_,cP,_⟩:=y8 an ah (g:=⟨T,ch⟩) bX av;unfold nm at e ⊢;split
 ·rename_i aK;rw[if_pos (h.le.r i aK)] at e;exact Lo bX an 13 ab aD cP (by have:=h.ok.gT i av;have:=bX.gT i av;show (g.t.params.getD i default).length=(T.params.getD i default).length;omega) (h.le.p i) e h
 ·exact h
theorem aiD(an:(bK p).isSome=true)(ah:Nat->Nat->Bool){t:bG}(h:In p T ⟨t,false⟩)(ak:(gg p ah T).ch=false):In p T (gg p ah t):=by
 have gF:gg p ah T=⟨T,false⟩:=by
  have:=UO an ah bX ak;cases aK:gg p ah T;rw[aK] at this ak;simp only at this ak;rw[this,ak]
 have a:=Lf an ah (g:=⟨T,false⟩) bX;obtain⟨a6,aW⟩:=a.r7 (B8 an 13 (tm an).2.1 (λk ao=>by cases ao) a.c7) gF;have cN:hX p ah (-1) 13 p.main [] ⟨T,false⟩=⟨T,false⟩:=by rw[a6] at aW;exact aW
 have bE:=r8 (p:=p) _ (g:=⟨T,false⟩) bX (λg m hm h=>UL an ah h (List.mem_range.1 hm)) a6;exact Lo bX an 13 (tm an).2.1 (λk ao=>by cases ao) (λk ao=>by cases ao) rfl (λ_ _ h=>h) cN (sj _ h λg m hm h=>aiC bX an ah h (List.mem_range.1 hm) (bE m hm))
theorem U4(an:(bK p).isSome=true)(ah:Nat->Nat->Bool)(ak:(gg p ah T).ch=false):∀(k:Nat) {t:bG},In p T ⟨t,false⟩->In p T ⟨nZ p ah k t,false⟩
 | 0,t,h=>h
 | k+1,t,h=>by
  rw[nZ];split
  ·have q:=aiD bX an ah h ak;exact U4 an ah ak k ⟨q.ok,q.le⟩
  ·exact h
end
theorem U5{p:Prog}(an:(bK p).isSome=true)(ah:Nat->Nat->Bool):∀(k:Nat) {t:bG},bA p t->oa p t<k->(gg p ah (nZ p ah k t)).ch=false
 | 0,t,_,ao=>by omega
 | k+1,t,h,ao=>by
  rw[nZ];cases ak:(gg p ah t).ch with
  | false=>exact ak
  | true=>
   rw[if_pos rfl];exact U5 an ah k (Fz an ah h) (by have:=Lh an ah h ak;omega)
theorem aiE(n i:Nat):(List.replicate n (0:Int)).getD i default=0:=by
 rw[List.getD_eq_getElem?_getD,List.getElem?_replicate];split <;> rfl
theorem zero_le{n:Nat}(l:List Int):fK (List.replicate n 0) l:=λi c h=>by
 rw[aiE] at h;simp[jK] at h
theorem aiF(an:(bK p).isSome=true)(T:bG):In p T ⟨hG p,false⟩:=by
 refine⟨Ca an,λi h=>?_,λm=>?_,zero_le _,zero_le _⟩
 ·exfalso;simp only[hG] at h;rw[List.getD_eq_getElem?_getD,List.getElem?_replicate] at h;split at h <;> cases h
 ·simp only[hG];by_cases hm:m<p.methods.length
  ·rw[List.getD_eq_getElem?_getD,List.getElem?_map,List.getElem?_eq_getElem hm];exact zero_le _
  ·rw[List.getD_eq_getElem?_getD,List.getElem?_eq_none dj];exact λi c h=>by
    have e:(default:List Int).getD i default=0:=rfl;rw[Option.getD_none,e] at h;simp[jK] at h
theorem u9(an:(bK p).isSome=true)(ah:Nat->Nat->Bool):bA p (kv p ah):=UP an ah _ (Ca an)
theorem aiG(an:(bK p).isSome=true)(ah:Nat->Nat->Bool):(gg p ah (kv p ah)).ch=false:=U5 an ah _ (Ca an) (Nat.lt_succ_self _)
theorem Lp(an:(bK p).isSome=true)(ah:Nat->Nat->Bool){T:bG}(bX:bA p T)(ak:(gg p ah T).ch=false):mL (kv p ah) T:=(U4 bX an ah ak (oa p (hG p)+1) (aiF an T)).le
section
variable{p:Prog}{A:List (List Bool)}{q:fa}{g:GT}{Hx:List aj}
section
variable{c:Ctx}{r:Option Nat}{P:Program}{ops:Array Oper}{rest:List Oper}{o:Oper}{env:List (Nat×aa)}{Q:Exit->Act->World->Prop}{agg:Bool}{t i:Nat}{pp z:Operand}{l3 ye:Bool}{x:Nat}{y:Int}
end
end
structure Cd(p:Prog)(q:fa):Prop where
 an:(bK p).isSome=true
 qq:q.vs.length=p.methods.length
 uX:p.methods.length=0->∃a c,q.hD= .slice a 0 c
 sa:p.aJ=0->∃a c,q.fP= .slice a 0 c
 yW:q.hD.oneCell'=true
 BU:∀v∈q.vs,v.oneCell'=true
 n3:q.gk.oneCell'=true
 rh:q.fP.oneCell'=true
theorem Cd.many{q:fa}(h:Cd p q):a7 p<=13:=qg h.an
end Go.Proofs.YtodccgailpkgeaaGreat

