/- Part 48 of the proof: contracts of functions of the program and what they need. No condition beyond those that each theorem names. -/
import Derived.Test.YtiaadpngpempbaaGreatMeanObjectsP47
import Derived.Tactics
import Derived.Tactics2
import Derived.Laws.Pointers
import Derived.TacticsInMore
import Derived.RegionIn
import Derived.RecoverIn
set_option maxHeartbeats 1000000
set_option linter.unusedVariables false
set_option linter.unusedSimpArgs false
set_option maxRecDepth 10000
namespace Go.Proofs.YtiaadpngpempbaaGreat
open Go.Eng
open Go.Eng.Fc
open Go.Eng.Bd
variable{p:Prog}{x:Bool}{B tb:Nat}{I0:Imm}{w0 w:World}{env:List (Nat×AV)}{H:List Ent}{a:Act}{Φ E:AV->List Ent->Prop}{fs cs:List AV}{q:Int×Int->Bool}
theorem visitsW_all{v:Vis->List Int->List Vis×Option (List Int)}{Q:Vis->Prop}:∀(l:List Vis) (o:List Int),(∀z∈l,∀o',∀y∈(v z o').1,Q y)->∀y∈(visitsW v l o).1,Q y
 | [],o,_,y,hy=>by simp[visitsW] at hy
 | z::r,o,h,y,hy=>by
  simp only[visitsW] at hy;rcases hv:v z o with⟨l1,_ | o1⟩
  ·rw[hv] at hy;exact h z (.head _) o y (by rw[hv];exact hy)
  ·rw[hv] at hy;rcases List.mem_append.1 hy with hy | hy
   ·exact h z (.head _) o y (by rw[hv];exact hy)
   ·exact visitsW_all r o1 (λw hw=>h w (.tail _ hw)) y hy
theorem kidsV_ge{x:Vis}{op:Int}(h:0<=x.sz):∀(i:Nat) (l:List Int),∀y∈kidsV x op i l,0<=y.sz
 | _,[],y,hy=>by cases hy
 | i,k::r,y,hy=>by
  rw[kidsV] at hy;rcases List.mem_cons.1 hy with rfl | hy
  ·simp only[kidV];split <;> omega
  ·exact kidsV_ge h (i+1) r y hy
theorem visit_ge{p:Prog}{next:Bool}:∀(f:Nat) (x:Vis) (out:List Int),0<=x.sz->∀y∈(visit p next f x out).1,0<=y.sz
 | 0,x,out,h,y,hy=>by rw[show (visit p next 0 x out).1= [x] from rfl,List.mem_singleton] at hy;rw[hy];exact h
 | f+1,x,out,h,y,hy=>by
  cases hk:okV p next x out with
  | false=>rw[visit_no hk,List.mem_singleton] at hy;rw[hy];exact h
  | true=>
   rw[visit_yes hk] at hy;rcases List.mem_cons.1 hy with rfl | hy
   ·exact h
   ·exact visitsW_all _ _ (λz hz o' y hy=>visit_ge f z o' (kidsV_ge h _ _ z hz) y hy) y hy
def OutGe(o:List Int):Prop:=∀y∈o,-1<=y
theorem outsV_ge:∀(L:List Vis) (o:List Int),(∀x∈L,0<=x.sz)->OutGe o->OutGe (outsV L o)
 | [],o,_,h=>h
 | x::r,o,hL,h=>outsV_ge r _ (λy hy=>hL y (.tail _ hy)) (λy hy=>by
  rcases List.mem_or_eq_of_mem_set hy with h1 | h1
  ·exact h y h1
  ·have:=hL x (.head _);omega)
theorem visit_outGe{next:Bool}{x:Vis}{o o':List Int}(hd:x.dp=1)(hs:0<=x.sz)(h:(visit p next 13 x o).2=some o')(hg:OutGe o):OutGe o':=by
 rw[(visit_vp (p:=p) (next:=next) 13 x o Ya).end_ o' h];exact outsV_ge _ _ (visit_ge 13 x o hs) hg
theorem out0_ge(p:Prog):OutGe (out0 p):=λy hy=>by rw[(List.mem_replicate.1 hy).2];omega
theorem ints_flatR(l:List Int):(l.map λn=>[AV.i n]).flatten=l.map AV.i:=by
 induction l with
 | nil=>rfl
 | cons x r ih=>rw[List.map_cons,List.flatten_cons,ih];rfl
theorem meth_bif{m:Mth}(hw:worldP (worldOf p)=true):(bif bif bif bif bif decide (m.kind<1) then true else decide (m.kind>4) then true else decide (m.gen<0) then true else decide (m.gen>=p.gens.length) then true else !formedP (worldOf p) m.fact then true else decide (speaksP m.fact>p.gens.getD m.gen.toNat default))= !(mth1 p m && mth2 p m):=by
 unfold mth1 mth2;rw[hw];simp only[Bool.cond_true_left,Bool.true_and];cases formedP (worldOf p) m.fact
 ·simp
 ·rw[Bool.eq_iff_iff];simp only[Bool.or_eq_true,decide_eq_true_eq,Bool.not_eq_true', <-Bool.not_eq_true,Bool.and_eq_true,Bool.not_true,Bool.false_eq_true,or_false,true_and];omega
theorem gen_bif(n:Int):(bif decide (n<1) then true else decide (n>3))= !genP n:=by
 unfold genP;rw[Bool.cond_true_left,Bool.eq_iff_iff];simp only[Bool.or_eq_true,decide_eq_true_eq,Bool.not_eq_true', <-Bool.not_eq_true,Bool.and_eq_true];omega
theorem head_bif(p:Prog)(b:Bool):(bif bif bif bif !b then true else decide ((p.gens.length:Int)>8) then true else decide ((p.methods.length:Int)>16) then true else decide ((p.nodes.length:Int)<1) then true else decide ((p.nodes.length:Int)>120))= !(b && headP p):=by
 unfold headP;cases b
 ·simp
 ·simp only[Bool.cond_true_left,Bool.true_and,Bool.not_true];rw[Bool.eq_iff_iff];simp only[Bool.or_eq_true,decide_eq_true_eq,Bool.not_eq_true', <-Bool.not_eq_true,Bool.and_eq_true,Bool.false_eq_true,false_or];omega
theorem rLook(hp:p.Small):PCall Tryz.prog 36 [AV.prog p] (.tup [AV.ints ((sizesP p).getD []),.b (sizesP p).isSome]):=by
 intro H;refine aC (n:=156) Tryz.func36 λB I w0=>?_;have hpc:=hp.classes;have hpp:=hp.parents;have hb1:0=0:=rfl;refine Z11 ?_;refine oP (POp.call .k (rClasses hp)) ?_;refine Z27 ?_;refine CW.cond rfl (λh0=>?_) (λh0=>?_)
 ·rw[head_bif,Bool.not_eq_true',Bool.and_eq_false_iff] at h0;have hno:sizesP p=none:=by
   rcases h0 with h0 | h0
   ·exact szs_no1 h0
   ·exact szs_no2 h0
  refine Z8 ?_;refine Done.retR (rs:=[.tmp 2,.tmp 3]) (H':=H) rfl (.tmp rfl (.tmp rfl (.nil))) (.cons (AVle.nil 1) (.cons (.refl _) .nil)) Yd ?_;exact⟨YaG,rfl⟩
 ·rw[head_bif,Bool.not_eq_false',Bool.and_eq_true] at h0;obtain⟨hcl,hhd⟩:=h0;have hH:=Heads.of hcl;have h10:=hH.cl;have hw:=hH.world;have hpl:=world_pl p;have hhd2:=hhd;simp only[headP,Bool.and_eq_true,decide_eq_true_eq] at hhd2;have hsl:=slotsA_mem _ _ hH.sl;refine Z9 ?_;refine lj (λm st=>∃i:Nat,st=⟨[(4,.i i),(1,.ptr (progC p))],H⟩/\m=p.gens.length - i/\i<=p.gens.length/\(p.gens.take i).all genP=true) (⟨0,rfl,rfl,Ya,rfl⟩) ?_;rintro m _ ⟨i,rfl,rfl,hi,ha⟩;refine Z10 ?_;refine cd (λh1=>?_) λh1=>?_
  ·have hil:i<p.gens.length:=by omega
   refine Z22 ?_;refine CW.cond rfl (λh2=>?_) (λh2=>?_)
   ·rw[gen_bif,Bool.not_eq_true'] at h2;have hno:sizesP p=none:=szs_no3 (all_no hil h2);refine Z12 ?_;refine Done.retR (rs:=[.tmp 2,.tmp 3]) (H':=H) rfl (.tmp rfl (.tmp rfl (.nil))) (.cons (AVle.nil 1) (.cons (.refl _) .nil)) Yd ?_;exact⟨YaG,rfl⟩
   ·rw[gen_bif,Bool.not_eq_false'] at h2;refine Z8 ?_;exact ag (⟨i+1,rfl,rfl,hil,all_step hil ha h2⟩)
  ·obtain rfl:i=p.gens.length:=by omega
   rw[List.take_length] at ha;refine Z17 ?_;refine CW.rowNil 3 1 ?_;refine lj (λm st=>∃(i:Nat) (v:Value),st=⟨[(6,.i i),(5,.val v),(1,.ptr (progC p))],rowE v (List.replicate i (-1))::H⟩/\m=p.nodes.length - i/\i<=p.nodes.length) (⟨0,_,rfl,rfl,Ya⟩) ?_;rintro m _ ⟨i,v,rfl,rfl,hi⟩;refine Z10 ?_;refine cd (λh3=>?_) λh3=>?_
   ·have hil:i<p.nodes.length:=by omega
    refine Z6 ?_;refine OL.popC (x:=.sl 1 [[.i (-1)]]) rfl rfl rfl (POp.row rfl rfl Yg rfl rfl rfl rfl rfl rfl) ?_;refine OL.appendRowAny (intEls [-1]) rfl rfl rfl rfl rfl rfl rfl rfl (AVle.refl _) rfl (λv=>.head _ _ _) (by simp only[intEls_len,List.length_replicate,List.length_singleton];omega) (by simp only[intEls_len,List.length_replicate,List.length_singleton];omega) (λv68=>?_);refine Z4 ?_;refine CW.eqH (H':=rowE v68 (List.replicate i (-1)++[-1])::H) (congrArg (· ::_) (rowE_append _ _ _)) ?_;refine Z5 ?_;exact ag (⟨i+1,v68,by rw[List.replicate_succ'],rfl,hil⟩)
   ·obtain rfl:i=p.nodes.length:=by omega
    refine Z6 ?_;refine CW.rowBlk (t:=3) (by rw[intEls_len,List.length_replicate];omega) (λb cap more=>.head _ _ _) (λnb cap more e1 e2 e3 e4 e5=>?_);rw[intEls_len,List.length_replicate] at e1 e2;subst e1;refine CW.eqH (H':=.blk nb 3 ((out0 p).map AV.i++more)::H) (by rw[intEls,ints_flatR];rfl) ?_;refine Z2 ?_;refine oP (POp.call .k (rWorld p Ya (λc h=>⟨hpp c h,by have:=(hsl c h).1;omega⟩))) ?_;refine OL.alC rfl rfl rfl rfl (λwb=>?_);refine Z5 ?_;refine CW.freezeP (d:=7) rfl Yi ?_;refine Z5 ?_;refine lj (λm st=>∃(i:Nat) (o:List Int),st=⟨[(8,.i i),(7,.ptr (Wcells (worldOf p))),(5,.val (.slice (some ⟨nb,0,none⟩) p.nodes.length cap)),(1,.ptr (progC p))],.blk nb 3 (o.map AV.i++more)::H⟩/\m=p.methods.length - i/\i<=p.methods.length/\methodsN p (p.methods.drop i) o=methodsN p p.methods (out0 p)/\o.length=p.nodes.length/\OutGe o) (⟨0,out0 p,rfl,rfl,Ya,rfl,by simp[out0],out0_ge p⟩) ?_;rintro m _ ⟨i,o,rfl,rfl,hi,hmn,hol,hge⟩;refine Z10 ?_;refine cd (λh4=>?_) λh4=>?_
    ·have hil:i<p.methods.length:=by omega
     obtain⟨M,hM⟩:∃M,M=(p.methods.getD i default):=⟨_,rfl⟩;refine Z11 ?_;refine OL.alC rfl rfl rfl rfl (λmb=>?_);refine Z5 ?_;rw[<-hM];refine CW.freezeP (d:=9) rfl Yi ?_;refine CW.dp mixed ?_;refine Z56 ?_;refine DP.anyC 14 19 156 rfl Ye rfl rfl Ye ?_;refine Z18 ?_;refine DP.anyC 22 25 156 rfl Ye rfl rfl Ye ?_;refine Z5 ?_;refine OL.guardC rfl rfl rfl rfl rfl rfl (λhg=>POp.call (.mk' rfl rfl rfl rfl Yc) (rFormed Ya M.fact)) ?_;refine Z14 ?_;refine DP.anyC 29 38 156 rfl Ye rfl rfl Ye ?_;refine Z2 ?_;refine AD.guardC rfl rfl rfl rfl rfl (λhg=>POp.call (.mk' rfl rfl rfl rfl Yc) (rSpeaks M.fact (formed_smallA (w:=worldOf p) (by revert hg;cases formedP (worldOf p) M.fact <;> simp)))) ?_;refine Z4 ?_;refine AD.guardC rfl rfl rfl rfl rfl (λhg=>(by first | exact POp.ixM rfl rfl (gd hg) rfl (gd hg) Y2 | exact POp.ixI rfl rfl (gd hg) rfl (gd hg) Y2)) ?_;refine Z7 ?_;refine CW.cond rfl (λh5=>?_) (λh5=>?_)
     ·rw[meth_bif hw,Bool.not_eq_true'] at h5;have hno:sizesP p=none:=szs_no4 (by rw[<-hmn];exact mths_no hil hM h5);refine Z13 ?_;refine Done.retR (rs:=[.tmp 2,.tmp 3]) (H':=H) rfl (.tmp rfl (.tmp rfl (.nil))) (.cons (AVle.nil 1) (.cons (.refl _) .nil)) Yd ?_;exact⟨YaG,rfl⟩
     ·rw[meth_bif hw,Bool.not_eq_false'] at h5;have hm1:=h5;simp only[mth1,Bool.and_eq_true,decide_eq_true_eq] at hm1;have hgp:=List.all_eq_true.1 ha _ (getD_memB (l:=p.gens) (k:=M.gen.toNat) Ya);simp only[genP,Bool.and_eq_true,decide_eq_true_eq] at hgp;refine Z3 ?_;rcases hv:(visit p (nextM M) 13 (bodyV p M) o).2 with _ | o1
      ·have hno:sizesP p=none:=szs_no4 (by rw[<-hmn];exact mths_stop hil hM hv);refine CW.dp mixed ?_;refine DP.anyC 0 13 156 rfl Ye rfl rfl Ye ?_;refine Z11 ?_;refine AD.popC rfl rfl rfl (POp.call .k (rNext M.kind)) ?_;refine Z3 ?_;refine bC (.mk' rfl rfl rfl rfl rfl) ((ACall.weak (rWalk (next:=nextM M) Ya 13 (bodyV p M) o nb cap more H Yac Yay YR hol) (λy H1 h=>by rw[walkQ,hv] at h;exact h) (λ_ _ h=>h)).b) ?_;rintro _ _ ⟨rfl,o2,rfl⟩;refine Z3 ?_;refine CW.cond rfl (λh6=>?_) (λh6=>?_)
       ·replace h6:=nm h6;refine Z12 ?_;refine Done.retR (rs:=[.tmp 2,.tmp 3]) (H':=H) rfl (.tmp rfl (.tmp rfl (.nil))) (.cons (AVle.nil 1) (.cons (.refl _) .nil)) Yd ?_;exact⟨YaG,rfl⟩
       ·cases h6
      ·have hol1:=visit_lenR Yac hv;have hge1:=visit_outGe Yac (by simp only[bodyV];omega) hv hge;have hmg:=mths_go hil hM h5 hv;refine CW.dp mixed ?_;refine DP.anyC 0 13 156 rfl Ye rfl rfl Ye ?_;refine Z11 ?_;refine AD.popC rfl rfl rfl (POp.call .k (rNext M.kind)) ?_;refine Z3 ?_;refine bC (.mk' rfl rfl rfl rfl rfl) ((ACall.weak (rWalk (next:=nextM M) Ya 13 (bodyV p M) o nb cap more H Yac Yay YR hol) (λy H1 h=>by rw[walkQ,hv] at h;exact h) (λ_ _ h=>h)).b) ?_;rintro _ _ ⟨rfl,rfl⟩;refine Z3 ?_;refine CW.cond rfl (λh7=>?_) (λh7=>?_)
       ·cases h7
       ·replace h7:=nm h7;refine Z8 ?_;exact ag (⟨i+1,o1,rfl,rfl,hil,by rw[<-hmn,hmg],Ya,hge1⟩)
    ·obtain rfl:i=p.methods.length:=by omega
     rw[List.drop_length,methodsN] at hmn;have hmn:=hmn.symm;refine Z7 ?_;rcases hv:(visit p false 13 ⟨p.main,0,1⟩ o).2 with _ | o1
     ·have hno:sizesP p=none:=szs_no5 hmn hv;refine Z5 ?_;refine bC (.mk' rfl rfl rfl rfl rfl) ((ACall.weak (rWalk (next:=false) Ya 13 (⟨p.main,0,1⟩:Vis) o nb cap more H Yac Yay YR hol) (λy H1 h=>by rw[walkQ,hv] at h;exact h) (λ_ _ h=>h)).b) ?_;rintro _ _ ⟨rfl,o2,rfl⟩;refine Z3 ?_;refine CW.cond rfl (λh8=>?_) (λh8=>?_)
      ·replace h8:=nm h8;refine Z8 ?_;refine Done.retR (rs:=[.tmp 2,.tmp 3]) (H':=H) rfl (.tmp rfl (.tmp rfl (.nil))) (.cons (AVle.nil 1) (.cons (.refl _) .nil)) Yd ?_;exact⟨YaG,rfl⟩
      ·cases h8
     ·have hol1:=visit_lenR Yac hv;have hge1:=visit_outGe Yac (by show (0:Int)<=0;omega) hv hge;refine Z5 ?_;refine bC (.mk' rfl rfl rfl rfl rfl) ((ACall.weak (rWalk (next:=false) Ya 13 (⟨p.main,0,1⟩:Vis) o nb cap more H Yac Yay YR hol) (λy H1 h=>by rw[walkQ,hv] at h;exact h) (λ_ _ h=>h)).b) ?_;rintro _ _ ⟨rfl,rfl⟩;refine Z3 ?_;refine CW.cond rfl (λh9=>?_) (λh9=>?_)
      ·cases h9
      ·replace h9:=nm h9;refine Z9 ?_;refine lj (λm st=>∃i:Nat,st=⟨[(10,.i i),(5,.val (.slice (some ⟨nb,0,none⟩) p.nodes.length cap))],.blk nb 3 (o1.map AV.i++more)::H⟩/\m=p.nodes.length - i/\i<=p.nodes.length/\∀y∈o1.take i,0<=y) (⟨0,rfl,rfl,Ya,Yn⟩) ?_;rintro m _ ⟨i,rfl,rfl,hi,hpos⟩;refine Z5 ?_;refine oP (POp.lenV rfl rfl rfl) ?_;refine Z3 ?_;refine cd (λh10=>?_) λh10=>?_
       ·have hil:i<p.nodes.length:=by omega
        refine Z8 ?_;refine oP (POp.ixC rfl rfl rfl rfl rfl Ya) ?_;refine oP ((by first | exact POp.ld1 rfl rfl rfl rfl | (apply POp.ld1H rfl rfl rfl;(case hm=>repeat (first | exact .head _ | refine .tail _ ?_));(case hy=>exact cellM_get Ya)))) ?_;refine Z3 ?_;refine cd (λh11=>?_) λh11=>?_
        ·have hm1:o1.getD i default= -1:=by have:=hge1 _ (getD_memB (l:=o1) (k:=i) Ya);rw[Int.toNat_natCast] at h11;omega
         have hno:sizesP p=none:=szs_no6 hmn hv (by rw[<-hm1];exact List.contains_iff_mem.2 (getD_memB Ya));refine Z12 ?_;refine Done.retR (rs:=[.tmp 2,.tmp 3]) (H':=H) rfl (.tmp rfl (.tmp rfl (.nil))) (.cons (AVle.nil 1) (.cons (.refl _) .nil)) Yd ?_;exact⟨YaG,rfl⟩
        ·refine Z8 ?_;exact ag (⟨i+1,rfl,rfl,hil,λy hy=>by rw[<-take_getD Ya,List.mem_append,List.mem_singleton] at hy;rw[Int.toNat_natCast] at h11;rcases hy with hy | rfl;exact hpos y hy;omega⟩)
       ·obtain rfl:i=p.nodes.length:=by omega
        rw[<-hol, <-hol1,List.take_length] at hpos;have hyes:sizesP p=some o1:=szs_yes hcl hhd ha hmn hv (by rw[List.contains_eq_mem,decide_eq_false_iff_not];intro h;have:=hpos _ h;omega);refine Z6 ?_;refine CW.eqH (H':=.blk nb 3 ((o1.map λn=>[AV.i n]).flatten++more)::H) (by rw[ints_flatR]) ?_;refine CW.freezeS (k:=1) (d:=5) rfl (.head _ _) YH (λe he=>by obtain⟨y,_,rfl⟩:=List.mem_map.1 he;rfl) e2 e3 ?_;refine Z7 ?_;refine rR [.tmp 2,.tmp 3] (H) ?_;exact⟨by rw[hyes];rfl,rfl⟩
theorem rProg(hp:p.Small):PCall Tryz.prog 13 [AV.prog p] (.b (sizesP p).isSome):=by
 intro H;refine aC (n:=11) Tryz.func13 λB I w0=>?_;refine Z9 ?_;refine oP (POp.call .k (rLook hp)) ?_;refine Z14 ?_;refine r1 2 (H) ?_;exact⟨Yac,rfl⟩
theorem thing_eqR(hz:(sizesP p).isSome=true)(n:Int)(t:Th):thingP p n t=thingQ (worldOf p) n t:=by
 obtain⟨o,ho⟩:=Option.isSome_iff_exists.1 hz;have hH:=Heads.of (sizes_parts ho).1;unfold thingP thingQ ownC ownP;rw[hz,Bool.and_true,world_pl];by_cases h:3<=t.cls/\t.cls<3+p.classes.length
 ·rw[has_slots hH h.1 h.2]
 ·have e:(decide (3<=t.cls) && decide (t.cls<3+(p.classes.length:Int)))=false:=by
   rw[<-Bool.not_eq_true,Bool.and_eq_true,decide_eq_true_eq,decide_eq_true_eq];exact h
  rw[e];rfl
theorem check_eqR(objs:List Th):(bif (sizesP p).isSome then objsR (worldOf p) objs else false)=checkP p objs:=by
 unfold checkP objsR;cases hz:(sizesP p).isSome with
 | false=>rfl
 | true=>
  rw[cond_true,Bool.true_and];congr 2;funext t;exact (thing_eqR hz _ t).symm
theorem heads_of(hz:(sizesP p).isSome=true):Heads p:=by
 obtain⟨o,ho⟩:=Option.isSome_iff_exists.1 hz;exact Heads.of (sizes_parts ho).1
theorem world_of(hp:p.Small)(hz:(sizesP p).isSome=true):PCall Tryz.prog 46 [AV.prog p] (AV.world (worldOf p)):=by
 have hH:=heads_of hz;have h10:=hH.cl;have hsl:=slotsA_mem _ _ hH.sl;exact rWorld p Ya (λc h=>⟨hp.parents c h,by have:=(hsl c h).1;omega⟩)
theorem rHasOf(hp:p.Small)(hz:(sizesP p).isSome=true){c:Int}(h3:3<=c)(hc:c<3+p.classes.length):PCall Tryz.prog 37 [AV.prog p,.i c] (AV.ints (hasP p c)):=by
 intro H;refine aC (n:=9) Tryz.func37 λB I w0=>?_;have hH:=heads_of hz;rw[has_slots hH h3 hc];refine Z9 ?_;refine oP (POp.call .k (world_of hp hz)) ?_;refine Z1 ?_;refine oP (POp.call .k (rSlots hH.world h3 (by rw[world_pl];exact hc))) ?_;refine Z4 ?_;refine r1 4 (H) ?_;exact⟨Yp,rfl⟩
theorem rGood(hp:p.Small)(objs:List Th):PCall Tryz.prog 19 [AV.prog p,AV.ths objs] (.b (checkP p objs)):=by
 intro H;refine aC (n:=13) Tryz.func19 λB I w0=>?_;refine Z9 ?_;refine oP (POp.call .k (rProg hp)) ?_;refine Z2 ?_;refine OL.guardC rfl rfl rfl rfl rfl rfl (λhg=>POp.call (.mk' rfl rfl rfl rfl Yc) (world_of hp hg)) ?_;refine Z1 ?_;refine OL.guardC rfl rfl rfl rfl rfl rfl (λhg=>POp.call (.mk' rfl rfl rfl rfl Yc) (rObjs (heads_of hg).world objs)) ?_;refine Z5 ?_;refine r1 4 (H) ?_;exact⟨retB (check_eqR objs),rfl⟩
theorem speaksC:∀{f:Fact},smallA f=true->PCall Tryz.prog 119 [AV.fact f] (.i (speaksP f)):=λ{f}=>by
 refine Fact.ind1 (P:=λf=>smallA f=true->PCall Tryz.prog 119 [AV.fact f] (.i (speaksP f))) (λf ih hf=>speaks_step f hf λk hk=>ih k hk ((smallA_iff hf).2.2 k hk)) f
theorem factFormedC(W:Fc.FW)(f:Fact):PCall Tryz.prog 118 [AV.world W,AV.fact f] (.i (if worldP W && formedP W f then 0 else 2)):=by
 cases h:worldP W with
 | true=>simpa using factFormedT h f
 | false=>simpa using factFormedF h f
theorem sizes1(hp:p.Small)(ob:Nat)(H:List Ent):ACall Tryz.prog 109 [.ptr (progC p),.p ob 0] (.blk ob 23 [(.val (.slice none 0 0))]::H) (λ_ H'=>∃nb o,sizesP p=some o/\H'=outH ob nb p.nodes.length o++H) (λy H'=>y=unfA/\sizesP p=none/\∃v,H'= .blk ob 23 [.val v]::H):=by
 refine aC (n:=130) Tryz.func109 λB I w0=>?_;refine Z3 ?_;refine OL.bcall rfl rfl .k (classesC hp _).b ?_ ?_
 ·rintro y H1 ⟨hcl,rfl⟩;obtain⟨hc10,hcs⟩:=classes_small hcl;refine Z26 ?_;rcases bool_or (headP p) with hh | hh
  ·refine OL.rcallN rfl rfl (.mk' rfl rfl rfl rfl rfl) (needF (by simp only[Bool.cond_false_right];exact hh) _) unf_c ?_;intro a w s;exact outP (P:=Tryz.prog) (fn:=Tryz.f109) unf_c (.refl _) ⟨rfl,szs_no2 hh,_,rfl⟩ a w s
  ·refine OL.rcallS rfl rfl rfl (.mk' rfl rfl rfl rfl rfl) (needT (by simp only[Bool.cond_false_right];exact hh) _) ?_;have hh2:=hh;simp only[headP,Bool.and_eq_true,decide_eq_true_eq] at hh2;refine Z12 ?_;refine lj (λm st=>∃i:Nat,st=⟨[(36,.i i),(35,.i p.gens.length),(34,AV.ints p.gens),(0,.ptr (progC p)),(1,.p ob 0)],.blk ob 23 [(.val (.slice none 0 0))]::H⟩/\m=p.gens.length - i/\i<=p.gens.length/\(p.gens.take i).all genP=true) (⟨0,rfl,rfl,Ya,rfl⟩) ?_;rintro m _ ⟨i,rfl,rfl,hi,hga⟩;refine Z6 ?_;refine cd (λh0=>?_) λh0=>?_
   ·have hil:i<p.gens.length:=by omega
    refine Z18 ?_;rcases bool_or (genP (p.gens.getD i default)) with h1 | h1
    ·refine OL.rcallN rfl rfl (.mk' rfl rfl rfl rfl rfl) (needF Yaf _) unf_c ?_;intro a w s;exact outP (P:=Tryz.prog) (fn:=Tryz.f109) unf_c (.refl _) ⟨rfl,szs_no3 (all_noG hil h1),_,rfl⟩ a w s
    ·refine OL.rcallS rfl rfl rfl (.mk' rfl rfl rfl rfl rfl) (needT Yaf _) ?_;refine Z7 ?_;exact ag (⟨i+1,rfl,rfl,hil,by rw[<-take_getD hil,List.all_append,hga,List.all_cons,h1];rfl⟩)
   ·obtain rfl:i=p.gens.length:=by omega
    rw[List.take_length] at hga;refine Z7 ?_;refine OL.popC (x:=.sl 1 [[.i (-1)]]) rfl rfl rfl (POp.row rfl rfl Yg rfl rfl rfl rfl rfl rfl) ?_;refine Z3 ?_;refine bC .k (repeatI p.nodes.length Ya _).b ?_
    ·rintro _ _ ⟨nb,rfl,rfl⟩;refine Z4 ?_;refine CW.perm (H':=.blk ob 23 [(.val (.slice (some ⟨nb,0,none⟩) p.nodes.length p.nodes.length))]::.blk nb 3 (List.replicate p.nodes.length (.i (-1)))::H) (.swap _ _ _) ?_;refine CW.eqH (H':=outH ob nb p.nodes.length (out0 p)++H) (by rw[<-out0_map];rfl) ?_;refine Z8 ?_;refine oP (POp.call .k (worldB p Ya hcs)) ?_;refine OL.alC rfl rfl rfl rfl (λwb=>?_);refine Z5 ?_;refine CW.freezeP (d:=5) rfl Yi ?_;refine Z8 ?_;refine lj (λm st=>∃(i:Nat) (o:List Int),st=⟨[(59,.i i),(58,.i p.methods.length),(57,.sl 9 (p.methods.map mthA)),(5,.ptr (Wcells (worldOf p))),(4,(.fn (.func 113) [] [.ptr (progC p),.p ob 0])),(0,.ptr (progC p)),(1,.p ob 0)],outH ob nb p.nodes.length o++H⟩/\m=p.methods.length - i/\i<=p.methods.length/\methodsN p p.methods (out0 p)=methodsN p (p.methods.drop i) o/\o.length=p.nodes.length) (⟨0,out0 p,rfl,rfl,Ya,rfl,by simp[out0]⟩) ?_;rintro m _ ⟨i,o,rfl,rfl,hi,hmN,hol⟩;refine Z6 ?_;refine cd (λh1=>?_) λh1=>?_
     ·have hil:i<p.methods.length:=by omega
      obtain⟨M,hM⟩:∃M,M=(p.methods.getD i default):=⟨_,rfl⟩;refine Z8 ?_;refine OL.alC rfl rfl rfl rfl (λb1=>?_);refine Z4 ?_;rw[<-hM];refine CW.freezeP (d:=7) rfl Yi ?_;refine Z22 ?_;rcases bool_or (mth1 p M) with h1 | h1
      ·refine OL.rcallN rfl rfl (.mk' rfl rfl rfl rfl rfl) (needF Yaf _) unf_c ?_;intro a w s;exact outP (P:=Tryz.prog) (fn:=Tryz.f109) unf_c (.cons_cons _ (.cons _ (.refl _))) ⟨rfl,szs_no4 (by rw[hmN];exact mths_no hil hM (by rw[h1];rfl)),_,rfl⟩ a w s
      ·refine OL.rcallS rfl rfl rfl (.mk' rfl rfl rfl rfl rfl) (needT Yaf _) ?_;have hm1:=h1;simp only[mth1,Bool.and_eq_true,decide_eq_true_eq] at hm1;have hgm:M.gen.toNat<p.gens.length:=by omega
       have hgn:=gens_in hga (getD_memB hgm);refine Z3 ?_;refine CW.dp mixed ?_;refine DP.anyC 0 3 130 rfl Ye rfl rfl Ye ?_;refine Z5 ?_;refine oP (POp.call .k (factFormedC (worldOf p) M.fact)) ?_;refine Z10 ?_;refine DP.anyC 6 15 130 rfl Ye rfl rfl Ye ?_;refine Z2 ?_;refine AD.guardC rfl rfl rfl rfl rfl (λhg=>POp.call (.mk' rfl rfl rfl rfl Yc) (speaksC (formed_smallA (w:=worldOf p) (by have:=zero_of_if hg;rw[Bool.and_eq_true] at this;exact this.2)))) ?_;refine Z4 ?_;refine AD.guardC rfl rfl rfl rfl rfl (λhg=>(by first | exact POp.ixM rfl rfl (gd hg) rfl (gd hg) ⟨Ya,Ya⟩ | exact POp.ixI rfl rfl (gd hg) rfl (gd hg) ⟨Ya,Ya⟩)) ?_;refine Z5 ?_;rcases bool_or (mth2 p M) with h2 | h2
       ·refine OL.rcallN rfl rfl (.mk' rfl rfl rfl rfl rfl) (needF (by rw[Bool.cond_false_right,if_zero];exact h2) _) unf_c ?_;intro a w s;exact outP (P:=Tryz.prog) (fn:=Tryz.f109) unf_c (.cons_cons _ (.cons _ (.refl _))) ⟨rfl,szs_no4 (by rw[hmN];exact mths_no hil hM (by rw[h2,Bool.and_false])),_,rfl⟩ a w s
       ·refine OL.rcallS rfl rfl rfl (.mk' rfl rfl rfl rfl rfl) (needT (by rw[Bool.cond_false_right,if_zero];exact h2) _) ?_;refine Z2 ?_;refine CW.dp mixed ?_;refine DP.anyC 0 17 130 rfl Ye rfl rfl Ye ?_;refine Z7 ?_;refine AD.popC rfl rfl rfl (Yu) ?_;refine Z11 ?_;have hnx:(bif (M.kind==1) then true else (M.kind==4))=nextM M:=by unfold nextM;rw[Bool.cond_true_left]
        refine OL.bcall rfl rfl .k (bodyS rfl M.node (p.gens.getD M.gen.toNat default) _ Ya o hol Ya ob nb H).b ?_ ?_
        ·rintro y H1 ⟨hv,rfl⟩;rw[hnx] at hv ⊢;have hgo:=visit_end (p:=p) (next:=nextM M) (x:=bodyV p M) rfl hv;refine Z7 ?_;exact ag (⟨i+1,outsV (visit p (nextM M) 13 (bodyV p M) o).1 o,rfl,rfl,hil,by rw[hmN,mths_go hil hM (by rw[h1,h2];rfl) hgo],by rw[outsV_len,hol]⟩)
        ·rintro y H1 ⟨rfl,hv,o1,rfl⟩ a w s I v hv2;rw[unf_c.is _ _ _ hv2];rw[hnx] at hv;exact outP (P:=Tryz.prog) (fn:=Tryz.f109) unf_c (.cons_cons _ (.cons _ (.refl _))) ⟨rfl,szs_no4 (by rw[hmN];exact mths_stop hil hM (Option.isNone_iff_eq_none.1 hv)),_,rfl⟩ a w s
     ·obtain rfl:i=p.methods.length:=by omega
      rw[List.drop_length] at hmN;replace hmN:methodsN p p.methods (out0 p)=some o:=hmN;refine Z10 ?_;refine OL.bcall rfl rfl .k (bodyS rfl p.main 0 false Ya o hol Ya ob nb H).b ?_ ?_
      ·rintro y H1 ⟨hv,rfl⟩;have hgo:=visit_end (p:=p) (next:=false) (x:=⟨p.main,0,1⟩) rfl hv;obtain⟨o2,ho2⟩:∃o2,o2=outsV (visit p false 13 ⟨p.main,0,1⟩ o).1 o:=⟨_,rfl⟩;rw[<-ho2] at hgo ⊢;have hol2:o2.length=p.nodes.length:=by rw[ho2,outsV_len,hol]
       refine Z4 ?_;refine oP (POp.callB .k (Borrow.outs (pre:=[]) (.tail _ (.head _)) hol2 Ya) (sContains o2 (-1))) ?_;refine Z1 ?_;rcases bool_or (o2.contains (-1)) with h3 | h3
       ·refine OL.rcallS rfl rfl rfl (.mk' rfl rfl rfl rfl rfl) (needT (by rw[h3];rfl) _) ?_;refine Z1 ?_;refine nR [] (outH ob nb p.nodes.length o2++H) ?_;exact⟨nb,o2,szs_yes hcl hh hga hmN hgo h3,rfl⟩
       ·refine OL.rcallN rfl rfl (.mk' rfl rfl rfl rfl rfl) (needF (by rw[h3];rfl) _) unf_c ?_;intro a w s;exact outP (P:=Tryz.prog) (fn:=Tryz.f109) unf_c (.cons_cons _ (.cons _ (.refl _))) ⟨rfl,szs_no6 hmN hgo h3,_,rfl⟩ a w s
      ·rintro y H1 ⟨rfl,hv,o1,rfl⟩ a w s I v hv2;rw[unf_c.is _ _ _ hv2];exact outP (P:=Tryz.prog) (fn:=Tryz.f109) unf_c (.cons_cons _ (.cons _ (.refl _))) ⟨rfl,szs_no5 hmN (Option.isNone_iff_eq_none.1 hv),_,rfl⟩ a w s
 ·rintro y H1 ⟨rfl,hcl,rfl⟩ a w s I v hv;rw[unf_c.is _ _ _ hv];exact outP (P:=Tryz.prog) (fn:=Tryz.f109) unf_c (.refl _) ⟨rfl,szs_no1 hcl,_,rfl⟩ a w s
theorem assert_unf(w:World):(Instr.typeAssert unfV 20 239 true).run Tryz.prog w= .ok (.tuple #[.agg #[],.bool true]) w:=by
 simp[Instr.typeAssert,run_underlying (show Tryz.prog.underlying 239=some (.struct #[]) by kernel_rfl)]
theorem catch_panicking(b:Nat)(x:Bool)(w:World)(hc:w.cell? ⟨b,0,none⟩=some (.bool x))(hz:w.frozen? ⟨b,0,none⟩=false)(hb:b<w.heap.size):
  CallsDIn (Eng.FW none) 0 Tryz.prog 172 #[.pointer (some ⟨b,0,none⟩)] (.panicking [{v:=unfV,recovered:=false}]) w λe u' w'=>
   e= .returned (.tuple #[])/\u'= .panicking [{v:=unfV,recovered:=true}]/\w'=(w.alloc (.cells #[] 239)).setCell ⟨b,0,none⟩ (.bool false):=by
 have hc2:(w.alloc (.cells #[] 239)).cell? ⟨b,0,none⟩=some (.bool x):=by rw[World.cell?_alloc_lt w _ ⟨b,0,none⟩ hb];exact hc
 have hz2:(w.alloc (.cells #[] 239)).frozen? ⟨b,0,none⟩=false:=by rw[World.frozen?_of_block (Go.RowKit.Below.heap_alloc w _ b hb)];exact hz
 refine callsDIn_of_wpSIn Tryz.func172 rfl trivial λc₀ cs hu=>?_;apply wpSIn_seq;apply wpSIn_region;have hta:=λw=>assert_unf w;simp[wpOpsSIn,go_sem,recoverD,hu,Tryz.ntmps172,Exit.thenS,Eng.FW,hta];apply wpSIn_seq;apply wpSIn_region;simp[wpOpsSIn,go_sem,Exit.thenS];refine wpSIn_cond (t:=true) (by simp[Act.eval,Array.replicate]) ?_;simp only[if_true];apply wpSIn_seq;apply wpSIn_seq;apply wpSIn_region;simp[wpOpsSIn,go_sem,Exit.thenS,hta];apply wpSIn_seq;apply wpSIn_region;simp[wpOpsSIn,go_sem,Exit.thenS];refine wpSIn_cond (t:=false) (by simp[Act.eval,Array.replicate]) ?_;simp only[Bool.false_eq_true,if_false];refine wpSIn_of_wpIn rfl (wpIn_skip ?_);simp only[Exit.thenS];apply wpSIn_region;simp[wpOpsSIn,go_sem,hc2,hz2,bodyPostS,results,Tryz.results172]
theorem catch_idle(b:Nat)(w:World):
  CallsDIn (Eng.FW none) 0 Tryz.prog 172 #[.pointer (some ⟨b,0,none⟩)] .returning w λe u' w'=>e= .returned (.tuple #[])/\u'= .returning/\w'=w:=by
 refine callsDIn_of_wpSIn Tryz.func172 rfl trivial λc₀ cs hu=>?_;apply wpSIn_seq;apply wpSIn_region;simp[wpOpsSIn,go_sem,recoverD,hu,Tryz.ntmps172,Exit.thenS,Eng.FW];apply wpSIn_seq;apply wpSIn_region;simp[wpOpsSIn,go_sem,Exit.thenS];refine wpSIn_cond (t:=false) (by simp[Act.eval,Array.replicate]) ?_;simp only[Bool.false_eq_true,if_false];refine wpSIn_of_wpIn rfl (wpIn_skip ?_);cases c₀;simp_all [bodyPostS,results,Tryz.results172]
def dfr(tb:Nat):Deferred:={target:=.fn (.func 172) #[.pointer (some ⟨tb,0,none⟩)],args:=#[]}
theorem leave_formed(hΦ:Φ (.b x) H)(hs:∃I,WOk B I w/\Ext B I0 w0 I w/\HeapOk B I w (.blk tb 4 [.b x]::H)/\EnvOk I w (envGet env) a)(ht:envGet env 2=some (.p tb 0)):
  LeavesIn (Eng.FW none) 0 Tryz.prog Tryz.f108 a.tmps (RetP B I0 w0 Φ E) [] .returning w:=by
 obtain⟨I,hw,he,hh,hv⟩:=hs;obtain⟨v,h1,h2⟩:=ResOk.res (P:=Tryz.prog) (c:=⟨B,I0,w0,0,[]⟩) (st:=⟨env,.blk tb 4 [.b x]::H⟩) hh hv (fn:=Tryz.f108) (rs:=[.cell 2 4]) rfl (.cell1 inferInstance ht (.head _) rfl .nil);exact⟨v,h1,I,H,hw,he,hh.tail,.inl ⟨v,_,rfl,h2,hΦ⟩⟩
theorem invoke_dfr(tb:Nat)(w:World):(invoke (.fn (.func 172) #[.pointer (some ⟨tb,0,none⟩)]) #[]).run Tryz.prog w= .ok (.enter 172 #[.pointer (some ⟨tb,0,none⟩)]) w:=by
 have:fnOk Tryz.prog 172=true:=by kernel_rfl
 have h:=run_callFunc this #[.pointer (some ⟨tb,0,none⟩)] w;simp[invoke]
theorem ret_formed{n:Nat}(hΦ:Φ (.b x) H)(s:Sat ⟨B,I0,w0,n,[dfr tb]⟩ ⟨env,.blk tb 4 [.b x]::H⟩ a w)(ht:envGet env 2=some (.p tb 0)):
  bodyPostDIn (Eng.FW none) 0 Tryz.prog Tryz.f108 (RetP B I0 w0 Φ E) .ret a w:=by
 show LeavesIn _ _ _ _ _ _ a.defers .returning w;rw[s.ds];refine leavesIn_cons (f:=172) (args:=#[.pointer (some ⟨tb,0,none⟩)]) Yn (by simp[Eng.FW]) (invoke_dfr tb w) (λ_ _=>trivial) ?_;refine (catch_idle tb w).mono ?_;rintro e u' w' ⟨rfl,rfl,rfl⟩;exact leave_formed hΦ s.mem ht
theorem pan_formed{n:Nat}(hΦ:Φ (.b false) H)(s:Sat ⟨B,I0,w0,n,[dfr tb]⟩ ⟨env,.blk tb 4 [.b x]::H⟩ a w)(ht:envGet env 2=some (.p tb 0)):
  bodyPostDIn (Eng.FW none) 0 Tryz.prog Tryz.f108 (RetP B I0 w0 Φ E) (.panic [{v:=unfV,recovered:=false}]) a w:=by
 show LeavesIn _ _ _ _ _ _ a.defers (.panicking [{v:=unfV,recovered:=false}]) w;rw[s.ds];obtain⟨I,hw,he,hh,hv⟩:=s.mem;obtain⟨hB,vs,hb,hr,hni⟩:=hh.ok _ (.head _);have hvs:vs= #[.bool x]:=by
  have h1:=rel_vals (vs:=[.bool x]) hr;exact Array.toList_inj.1 h1
 subst hvs;have hlt:tb<w.heap.size:=(Array.getElem?_eq_some_iff.1 hb).1;refine leavesIn_cons (f:=172) (args:=#[.pointer (some ⟨tb,0,none⟩)]) Yn (by simp[Eng.FW]) (invoke_dfr tb w) (λ_ _=>trivial) ?_;refine (catch_panicking tb x w (by rw[cell_of_blk hb];rfl) (by simp[World.frozen?,hb]) hlt).mono ?_;rintro e u' w' ⟨rfl,rfl,rfl⟩;have hw1:=hw.alloc (.cells #[] 239);have hh1:=hh.alloc hw (.cells #[] 239);have hb1:(w.alloc (.cells #[] 239)).heap[tb]? =some (.cells #[.bool x] 4 (0,0)):=by rw[Go.RowKit.Below.heap_alloc w _ tb hlt];exact hb
 have hk1:=keeps_alloc hw (.cells #[] 239);have he1:=he.trans (ext_alloc hw (.cells #[] 239));have hv1:=hv.keep hk1;generalize w.alloc (.cells #[] 239)=w1 at*;have hset:(w1.setCell ⟨tb,0,none⟩ (.bool false)).heap[tb]? =some (.cells #[.bool false] 4 (0,0)):=one_setCell hb1;have hcell:∀b i,I b i->(w1.setCell ⟨tb,0,none⟩ (.bool false)).cell? ⟨b,i,none⟩=w1.cell? ⟨b,i,none⟩:=λb i hI=>
  World.cell?_of_block (a:=⟨b,i,none⟩) (Go.RowKit.Below.heap_setCell _ _ _ _ (λe=>hni i (by rw[<-(show b=tb from e)];exact hI)))
 have hk2:Keeps I w1 I (w1.setCell ⟨tb,0,none⟩ (.bool false)):=⟨λ_ _ h=>h,hcell⟩;have hbel:=(Go.RowKit.Below.refl B w1).setCell (p:=⟨tb,0,none⟩) hB (.bool false);exact leave_formed (x:=false) (env:=env) hΦ ⟨I,⟨Nat.le_trans hw1.base hbel.size,λb i hI=>by rw[hcell b i hI];exact hw1.there b i hI⟩,he1.trans ⟨λ_ _ h=>h,hcell,hbel⟩,
  hh1.upd (.head _ _ _) hk2 (λb _ hne=>Go.RowKit.Below.heap_setCell _ _ _ _ (λe=>hne (by rw[show b=tb from e];rfl))) (λ_ _ h=>.inl h) ⟨hB,#[.bool false],hset,.cons _ _ _ _ (.val _) .nil,hni⟩ (λ_ h=>.inl h),hv1.keep hk2⟩ ht
theorem formedC{g:Fn}{gs gc:List AV}{A Bp:List Ent->Prop}(hdo:∀B Hy,VCall B Tryz.prog (.fn g gs gc) [] (H++Hy) (λ_ H'=>∃H1,H'=H1++Hy/\A H1) (λy H'=>y=unfA/\∃Hf,H'=Hf++Hy/\Bp Hf)):
  ACall Tryz.prog 108 [.fn g gs gc] H (λx H'=>(x= .b true/\A H')\/(x= .b false/\Bp H')) (λ_ _=>False):=by
 refine ACall.mkD (n:=6) Tryz.func108 rfl Yb rfl rfl (λB I w0=>?_);refine Z2 ?_;refine OL.alC rfl rfl rfl rfl (λtb=>?_);refine Z5 ?_;refine OL.deferC (vs:=[.pointer (some ⟨tb,0,none⟩)]) rfl rfl rfl rfl rfl rfl ?_;refine Z3 ?_;refine CW.perm (List.perm_append_singleton _ _).symm ?_;refine Z2 ?_;refine OL.vcall rfl rfl rfl rfl rfl rfl rfl (AVleL.refl _) (hdo B [.blk tb 4 [.b false]]) ?_ ?_
 ·rintro y _ ⟨H1,rfl,hA⟩;refine Z3 ?_;refine CW.perm (List.perm_append_singleton _ _) ?_;refine Z5 ?_;intro a w s;exact ret_formed (.inl ⟨rfl,hA⟩) s rfl
 ·rintro y H2 ⟨rfl,Hf,rfl,hB⟩ a w s I v hv;rw[unf_c.is _ _ _ hv];exact pan_formed (.inr ⟨rfl,hB⟩) (s.perm (List.perm_append_singleton _ _)) rfl
theorem sizesC(hp:p.Small)(H:List Ent):ACall Tryz.prog 72 [AV.prog p] H (λy H'=>H'=H/\((∃o,sizesP p=some o/\y= .tup [AV.ints o,.b true])\/(sizesP p=none/\∃v,y= .tup [.val v,.b false]))) (λ_ _=>False):=by
 refine aC (n:=10) Tryz.func72 λB I w0=>?_;refine Z9 ?_;refine OL.alC rfl rfl rfl rfl (λob=>?_);refine Z5 ?_;refine bC .k (formedC (H:=.blk ob 23 [.val (.slice none 0 0)]::H) (A:=λH1=>∃nb o,sizesP p=some o/\H1=outH ob nb p.nodes.length o++H) (Bp:=λHf=>sizesP p=none/\∃v,Hf= .blk ob 23 [.val v]::H)
  (λB Hy=>VCall.fn ((sizes1 hp ob (H++Hy)).imp (λy H'=>?_) (λy H'=>?_)))).b ?_
 ·rintro⟨nb,o,h1,rfl⟩;exact⟨outH ob nb p.nodes.length o++H,by rw[List.append_assoc],nb,o,h1,rfl⟩
 ·rintro⟨rfl,h1,v,rfl⟩;exact⟨rfl,.blk ob 23 [.val v]::H,rfl,h1,v,rfl⟩
 rintro y H1 (⟨rfl,nb,o,hs,rfl⟩ | ⟨rfl,hs,v,rfl⟩)
 ·have hol:=sizes_len hs;refine Z6 ?_
  first | (refine OL.eqH (H':=.blk ob 23 [(.val (.slice (some ⟨nb,0,none⟩) p.nodes.length p.nodes.length))]::.blk nb 3 ((o.map λn=>[AV.i n]).flatten++[])::H) (by rw[<-ints_flat];rfl) ?_;refine OL.freezeS (k:=1) (d:=8) rfl (.tail _ _ _ _ (.head _ _)) (by rw[List.length_map];exact hol.1) (λe he=>by obtain⟨y,_,rfl⟩:=List.mem_map.1 he;rfl) (Nat.le_refl _) Yw ?_) | skip
  refine Z6 ?_;refine rR [.tmp 2,.tmp 3] (H) ?_;exact⟨rfl,.inl ⟨o,hs,rfl⟩⟩
 ·refine Z6 ?_
  first | (refine OL.eqH (H':=.blk ob 23 [(.val (.slice (some ⟨nb,0,none⟩) p.nodes.length p.nodes.length))]::.blk nb 3 ((o.map λn=>[AV.i n]).flatten++[])::H) (by rw[<-ints_flat];rfl) ?_;refine OL.freezeS (k:=1) (d:=8) rfl (.tail _ _ _ _ (.head _ _)) (by rw[List.length_map];exact hol.1) (λe he=>by obtain⟨y,_,rfl⟩:=List.mem_map.1 he;rfl) (Nat.le_refl _) Yw ?_) | skip
  refine Z6 ?_;refine rR [.tmp 2,.tmp 3] (H) ?_;exact⟨rfl,.inr ⟨hs,v,rfl⟩⟩
theorem checkB(hp:p.Small):PCall Tryz.prog 40 [AV.prog p] (.i (if(sizesP p).isSome then 0 else 2)):=by
 intro H;refine aC (n:=12) Tryz.func40 λB I w0=>?_;refine Z10 ?_;refine bC .k (sizesC hp H).b ?_;rintro y H1 ⟨e,⟨o,hs,rfl⟩ | ⟨hs,v,rfl⟩⟩
 ·replace e:=e.symm;subst e;refine Z13 ?_;refine CW.cond rfl (λh0=>?_) (λh0=>?_)
  ·simp at h0
  ·replace h0:=nm h0;refine Z8 ?_;refine r1 2 (H) ?_;exact⟨by rw[hs];rfl,rfl⟩
 ·replace e:=e.symm;subst e;refine Z13 ?_;refine CW.cond rfl (λh1=>?_) (λh1=>?_)
  ·replace h1:=nm h1;refine Z7 ?_;refine r1 2 (H) ?_;exact⟨by rw[hs];rfl,rfl⟩
  ·simp at h1
theorem ownB(hp:p.Small)(c:Int):PCall Tryz.prog 30 [AV.prog p,.i c] (.b (ownC p c)):=by
 intro H;refine aC (n:=20) Tryz.func30 λB I w0=>?_;have hpc:=hp.classes;refine Z20 ?_;refine OL.guardC rfl rfl rfl rfl rfl rfl (λhg=>POp.call (.mk' rfl rfl rfl rfl Yc) ((checkB hp))) ?_;refine Z6 ?_;refine r1 4 (H) ?_;exact⟨retB (by unfold ownC;rw[Bool.cond_false_right,Bool.cond_false_right,if_zero]),rfl⟩
theorem hasB(hp:p.Small)(c:Int):PCall Tryz.prog 10 [AV.prog p,.i c] (.tup [AV.ints (if ownC p c then hasP p c else []),.i (if ownC p c then 0 else 2)]):=by
 intro H;refine aC (n:=13) Tryz.func10 λB I w0=>?_;refine Z12 ?_;refine oP (POp.call .k ((ownB hp _))) ?_;refine Z3 ?_;refine cd (λh0=>?_) λh0=>?_
 ·refine Z8 ?_;refine Done.retR (rs:=[.tmp 4,.tmp 5]) (H':=H) rfl (.tmp rfl (.tmp rfl (.nil))) (.cons (AVle.nil 1) (.cons (.refl _) .nil)) Yd ?_;exact⟨by rw[show ownC p c=false by simpa using h0];rfl,rfl⟩
 ·refine Z3 ?_;have ho:ownC p c=true:=by simpa using h0
  obtain⟨hc3,hcl⟩:=own_parts ho;obtain⟨hc10,hcs⟩:=classes_small hcl
  ·refine Z3 ?_;refine oP (POp.call .k (hasC p Ya (λc h=>(hcs c h).2) (classes_keys hcl) (k:=c) YQ Ya)) ?_;refine Z5 ?_;refine rR [.tmp 4,.tmp 5] (H) ?_;exact⟨by rw[ho];rfl,rfl⟩
theorem valueC(x:Int×Int)(n:Int):PCall Tryz.prog 75 [AV.mv x,.i n] (.b (valueP n x)):=by
 intro H;refine aC (n:=33) Tryz.func75 λB I w0=>?_;refine Z20 ?_;refine cd (λh0=>?_) λh0=>?_
 ·refine Z16 ?_;refine r1 4 (H) ?_;exact⟨retB Yaz,rfl⟩
 ·refine Z6 ?_;refine cd (λh1=>?_) λh1=>?_
  ·refine Z11 ?_;refine r1 4 (H) ?_;exact⟨retB Yaz,rfl⟩
  ·refine Z6 ?_;refine cd (λh2=>?_) λh2=>?_
   ·refine Z17 ?_;refine r1 4 (H) ?_;exact⟨retB Yaz,rfl⟩
   ·refine Z9 ?_;refine r1 4 (H) ?_;exact⟨retB Yaz,rfl⟩
theorem values1(n:Int)(x:Int×Int):PCall Tryz.prog 74 [AV.mv x,.ptr [.i n]] (.b (!valueP n x)):=by
 intro H;refine aC (n:=8) Tryz.func74 λB I w0=>?_;refine Z10 ?_;refine oP (POp.call .k (valueC x n)) ?_;refine Z5 ?_;refine r1 3 (H) ?_;exact⟨Yp,rfl⟩
theorem idxMV{f:Fn}(hg:PredOk Tryz.prog (.fn f fs cs) AV.mv q)(l:List (Int×Int)):PCall Tryz.prog 121 [AV.mvs l,.fn f fs cs] (.i (idxG l q)):=by
 intro H;refine aC (n:=19) Tryz.func121 λB I w0=>?_;refine CW.boundM (t:=0) rfl (λhb0=>?_);refine Z14 ?_;refine lj (λm st=>∃k:Nat,st=⟨[(8,.i k),(7,.i l.length),(0,AV.mvs l),(1,.fn f fs cs)],H⟩/\m=l.length - k/\k<=l.length/\∀x∈l.take k,q x=false) (⟨0,rfl,rfl,Yn,Yn⟩) ?_;rintro m _ ⟨k,rfl,rfl,hk,hp⟩;refine Z6 ?_;refine cd (λh0=>?_) λh0=>?_
 ·have hkl:k<l.length:=by omega
  refine Z17 ?_;refine OL.vcallC rfl rfl rfl rfl rfl rfl rfl rfl (AVleL.refl _) (hg B _ _) ?_;rintro _ H1 ⟨rfl,e⟩;replace e:=e.symm;subst e;refine Z2 ?_;refine cd (λh1=>?_) λh1=>?_
  ·refine Z12 ?_;refine r1 4 (H) ?_;exact⟨retI (idxG_at hkl hp h1),rfl⟩
  ·refine Z7 ?_;exact ag (⟨k+1,rfl,rfl,hkl,λx hx=>by rw[<-take_getD hkl,List.mem_append,List.mem_singleton] at hx;rcases hx with hx | rfl;exact hp x hx;exact h1⟩)
 ·refine Z11 ?_;refine r1 4 (H) ?_;exact⟨retI (idxG_none Yan),rfl⟩
theorem hasMV{f:Fn}(hg:PredOk Tryz.prog (.fn f fs cs) AV.mv q)(l:List (Int×Int)):PCall Tryz.prog 73 [AV.mvs l,.fn f fs cs] (.b (l.any q)):=by
 intro H;refine aC (n:=9) Tryz.func73 λB I w0=>?_;refine Z9 ?_;refine oP (POp.call .k (idxMV hg l)) ?_;refine Z5 ?_;refine r1 4 (H) ?_;exact⟨retB (idxG_any _ _),rfl⟩
theorem valuesC(l:List (Int×Int))(n:Int):PCall Tryz.prog 41 [AV.mvs l,.i n] (.b (l.all (valueP n))):=by
 intro H;refine aC (n:=9) Tryz.func41 λB I w0=>?_;refine Z10 ?_;refine oP (POp.call .k (hasMV (.of (values1 n)) l)) ?_;refine Z5 ?_;refine r1 4 (H) ?_;exact⟨retB (all_valueP n l),rfl⟩
theorem meanCheck(hp:p.Small)(objs:List Th):PCall Tryz.prog 16 [AV.prog p,AV.ths objs] (.i (if checkP p objs then 0 else 2)):=by
 intro H;refine aC (n:=49) Tryz.func16 λB I w0=>?_;refine CW.boundM (t:=1) rfl (λhb1=>?_);refine Z10 ?_;refine oP (POp.call .k (checkB hp)) ?_;refine Z8 ?_;refine cd (λh0=>?_) λh0=>?_
 ·have hno:checkP p objs=false:=by
   unfold checkP;cases hs:(sizesP p).isSome with
   | false=>rfl
   | true=>rw[hs] at h0;simp at h0;rw[show decide (objs.length<=40)=false by simp;omega];rfl
  refine Z7 ?_;refine r1 4 (H) ?_;exact⟨YaG,rfl⟩
 ·have hs:(sizesP p).isSome=true/\objs.length<=40:=by
   cases hs:(sizesP p).isSome with
   | false=>rw[hs] at h0;simp at h0
   | true=>rw[hs] at h0;simp at h0;exact⟨rfl,Ya⟩
  refine Z11 ?_;refine lj (λm st=>∃i:Nat,st=⟨[(19,.i i),(18,.i objs.length),(17,AV.ths objs),(2,.ptr (progC p)),(1,AV.ths objs)],H⟩/\m=objs.length - i/\i<=objs.length/\(objs.take i).all (thingP p objs.length)=true) (⟨0,rfl,rfl,Ya,rfl⟩) ?_;rintro m _ ⟨i,rfl,rfl,hi,hA⟩;refine Z6 ?_;refine cd (λh1=>?_) λh1=>?_
  ·have hil:i<objs.length:=by omega
   obtain⟨T,hT⟩:∃T,T=objs.getD i default:=⟨_,rfl⟩;refine Z8 ?_;refine OL.alC rfl rfl rfl rfl (λb0=>?_);refine Z4 ?_;rw[<-hT];refine Z4 ?_;refine oP (POp.call .k (hasB hp T.cls)) ?_;refine Z8 ?_;refine CW.freezeP (d:=6) rfl Yi ?_;refine Z16 ?_;refine OL.guardC rfl rfl rfl rfl rfl rfl (λhg=>POp.call (.mk' rfl rfl rfl rfl Yc) (valuesC T.slots objs.length)) ?_;refine Z4 ?_;have hth:thingP p objs.length T= !(bif bif (if ownC p T.cls then (0:Int) else 2) !=0 then true else ((if ownC p T.cls then hasP p T.cls else []).length:Int) !=(T.slots.length:Int) then true else !T.slots.all (valueP objs.length)):=thing_eq p _ T;refine CW.cond rfl (λh2=>?_) (λh2=>?_)
   ·rw[h2] at hth;refine Z11 ?_;refine r1 4 (H) ?_;exact⟨by rw[chk_no hil (by rw[<-hT,hth];rfl)];rfl,rfl⟩
   ·rw[h2] at hth;refine Z7 ?_;exact ag (⟨i+1,rfl,rfl,hil,chk_step hil hA (by rw[<-hT,hth];rfl)⟩)
  ·obtain rfl:i=objs.length:=by omega
   rw[List.take_length] at hA;refine Z11 ?_;refine r1 4 (H) ?_;exact⟨by unfold checkP;rw[hs.1,decide_eq_true hs.2,hA];rfl,rfl⟩
end Go.Proofs.YtiaadpngpempbaaGreat

namespace Go.Eng.Bd
open Go.Eng.Fc
variable{s c:Int}{p:Prog}
def initsL(p:Prog)(c:Int):List (Int×Int):=(linP (graphP p) c).reverse.flatMap λk=>if k>=3 then (p.classes.getD (k - 3).toNat default).inits else []
def lastOf(L:List (Int×Int))(s:Int):Option Int:=(L.reverse.find? λx=>x.1==s).map (·.2)
theorem lastOf_snoc(L:List (Int×Int))(x:Int×Int)(s:Int):lastOf (L++[x]) s=if x.1=s then some x.2 else lastOf L s:=by
 unfold lastOf;rw[List.reverse_append,List.reverse_singleton,List.singleton_append,List.find?_cons];by_cases h:x.1=s
 ·simp[h]
 ·rw[if_neg h,show (x.1==s)=false by simpa using h]
def beginP(p:Prog)(c:Int):List (Int×Int):=(hasP p c).filterMap λs=>(lastOf (initsL p c) s).map λn=>(s,n)
def slotP(p:Prog)(c s:Int):Int×Int:=match lastOf (initsL p c) s with | some n=>(1,n) | none=>(2,0)
def newP(p:Prog)(c:Int):Th:=⟨c,(hasP p c).map (slotP p c)⟩
def turnP(p:Prog)(x:Th)(c:Int):Th:=⟨c,(hasP p c).map λs=>match (hasP p x.cls).findIdx? (λy=>y==s) with | some i=>x.slots.getD i default | none=>slotP p c s⟩
structure MapLast(l:List (Int×AV))(L:List (Int×Int)):Prop where
 ok:IMapOk l
 get:∀s,getI l s=(lastOf L s).map AV.i
theorem MapLast.nil:MapLast [] []:=⟨IMapOk.nil,λs=>rfl⟩
theorem MapLast.put{l:List (Int×AV)}{L:List (Int×Int)}(h:MapLast l L){x:Int×Int}(hk:smallKey x.1):MapLast (putI l x.1 (.i x.2)) (L++[x]):=by
 refine⟨h.ok.put hk _,λs=>?_⟩;rw[getI_put,lastOf_snoc,h.get];by_cases e:x.1=s
 ·rw[if_pos e.symm,if_pos e];rfl
 ·rw[if_neg (λh=>e h.symm),if_neg e]
theorem lastOf_append(A B:List (Int×Int))(s:Int):lastOf (A++B) s=(lastOf B s).or (lastOf A s):=by
 unfold lastOf;rw[List.reverse_append,List.find?_append];cases B.reverse.find? λx=>x.1==s <;> rfl
theorem lastOf_none{L:List (Int×Int)}(h:∀x∈L,x.1≠s):lastOf L s=none:=by
 unfold lastOf;rw[List.find?_eq_none.2 (λx hx=>by simpa using h x (List.mem_reverse.1 hx))];rfl
theorem lastOf_filter(L:List (Int×Int))(s:Int):lastOf (L.filter λx=>x.1==s) s=lastOf L s:=by
 induction L with
 | nil=>rfl
 | cons x r ih=>
  rw[show x::r= [x]++r from rfl,List.filter_append,lastOf_append,lastOf_append,ih];by_cases h:x.1=s
  ·simp[h]
  ·rw[show [x].filter (λx=>x.1==s)= [] by simp[h],lastOf_none (L:=[x]) YP,lastOf_none (L:=[]) Yn]
def initsC(p:Prog)(k:Int):List (Int×Int):=if k>=3 then (p.classes.getD (k - 3).toNat default).inits else []
def firstIn(p:Prog)(s:Int):List Int->List (Int×Int)
 | []=>[]
 | k::r=>let m:=(initsC p k).filter λx=>x.1==s;if m.isEmpty then firstIn p s r else m
def beginR(p:Prog)(c:Int):List (Int×Int):=(hasP p c).flatMap λs=>firstIn p s (linP (graphP p) c)
theorem firstIn_mem{p:Prog}{s:Int}:∀(l:List Int),∀x∈firstIn p s l,x.1=s
 | [],x,h=>by cases h
 | k::r,x,h=>by
  simp only[firstIn] at h;split at h
  ·exact firstIn_mem r x h
  ·simpa using (List.mem_filter.1 h).2
theorem last_first(p:Prog)(s:Int):∀l:List Int,lastOf (firstIn p s l) s=lastOf (l.reverse.flatMap (initsC p)) s
 | []=>rfl
 | k::r=>by
  rw[List.reverse_cons,List.flatMap_append,lastOf_append,show [k].flatMap (initsC p)=initsC p k by simp, <-last_first p s r, <-lastOf_filter (initsC p k)];simp only[firstIn];split
  ·rename_i h;rw[List.isEmpty_iff.1 h];rfl
  ·rename_i h;cases hm:lastOf ((initsC p k).filter λx=>x.1==s) s with
   | some y=>rfl
   | none=>
    exfalso;apply h;rw[List.isEmpty_iff];cases hL:(initsC p k).filter λx=>x.1==s with
    | nil=>rfl
    | cons y t=>
     exfalso;have hall:∀x∈y::t,x.1=s:=λx hx=>by
      rw[<-hL] at hx;simpa using (List.mem_filter.1 hx).2
     rw[hL] at hm;unfold lastOf at hm;rw[Option.map_eq_none_iff,List.find?_eq_none] at hm;exact hm y Yn (by simpa using hall y (.head _))
theorem last_flat(p:Prog)(s:Int)(o:List Int):∀l:List Int,lastOf (l.flatMap λt=>firstIn p t o) s=if s∈l then lastOf (firstIn p s o) s else none
 | []=>rfl
 | t::r=>by
  rw[List.flatMap_cons,lastOf_append,last_flat p s o r];by_cases h:s=t
  ·subst h;by_cases h2:s∈r
   ·rw[if_pos h2,if_pos (.head _)];cases lastOf (firstIn p s o) s <;> rfl
   ·rw[if_neg h2,if_pos (.head _)];rfl
  ·rw[lastOf_none (L:=firstIn p t o) λx hx e=>h (by rw[<-e,firstIn_mem o x hx])];by_cases h2:s∈r
   ·rw[if_pos h2,if_pos (.tail _ h2)];cases lastOf (firstIn p s o) s <;> rfl
   ·rw[if_neg h2,if_neg (by rw[List.mem_cons];rintro (e | e);exact h e;exact h2 e)];rfl
theorem last_begin(h:s∈hasP p c):lastOf (beginR p c) s=lastOf (initsL p c) s:=by
 unfold beginR;rw[last_flat,if_pos h,last_first];rfl
def slotV(o:Option Int):Int×Int:=match o with | some n=>(1,n) | none=>(2,0)
theorem slotR(h:s∈hasP p c):slotV (lastOf (beginR p c) s)=slotP p c s:=by rw[last_begin h];rfl
theorem idx_begin{p:Prog}{c s:Int}:∀(l:List Int),s∈l->((l.filterMap λs=>(lastOf (initsL p c) s).map λn=>(s,n)).find? λb=>b.1==s)=(lastOf (initsL p c) s).map λn=>(s,n)
 | [],h=>by cases h
 | t::r,h=>by
  rw[List.filterMap_cons];by_cases e:s=t
  ·subst e;cases hl:lastOf (initsL p c) s with
   | some n=>simp
   | none=>
    simp only[Option.map_none];rw[List.find?_eq_none];intro x hx;obtain⟨y,_,hy⟩:=List.mem_filterMap.1 hx;cases hly:lastOf (initsL p c) y with
    | none=>rw[hly] at hy;cases hy
    | some n=>
     rw[hly] at hy;cases hy;simp only[beq_iff_eq];rintro rfl;rw[hl] at hly;cases hly
  ·have hr:s∈r:=by rcases List.mem_cons.1 h with h | h;exact absurd h e;exact h
   have ih:=idx_begin (p:=p) (c:=c) r hr;cases hl:lastOf (initsL p c) t with
   | none=>simpa using ih
   | some n=>
    simp only[Option.map_some];rw[List.find?_cons_of_neg (by simpa using λh=>e h.symm)];exact ih
theorem hasN_lenB{p:Prog}(h:∀c∈p.classes,c.slots.length<=1000):∀(n:Nat) (S out:List Int),(hasN p n S out).length<=out.length+1000*n
 | 0,S,out=>by rw[hasN];omega
 | n+1,S,out=>by
  rw[hasN];split
  ·have h1:=hasN_lenB h n (S++(p.classes.getD n default).parents) (out++(p.classes.getD n default).slots);rw[List.length_append] at h1;have:(p.classes.getD n default).slots.length<=1000:=by
    by_cases hn:n<p.classes.length
    ·exact h _ (getD_memB hn)
    ·rw[List.getD_eq_getElem?_getD,List.getElem?_eq_none Ya];exact Nat.zero_le _
   omega
  ·have:=hasN_lenB h n S out;omega
theorem initsC_at{k:Int}(h3:3<=k):initsC p k=(p.classes.getD (k - 3).toNat default).inits:=by rw[initsC,if_pos h3]
theorem inits1_mem(mine:List Int):∀(l:List (Int×Int)) (seen:List Int),inits1 mine l seen=true->∀x∈l,x.1∈mine
 | y::r,seen,h,x,hx=>by
  simp only[inits1,Bool.and_eq_true] at h;rcases List.mem_cons.1 hx with rfl | hx
  ·exact List.contains_iff_mem.1 h.1.1.1
  ·exact inits1_mem mine r _ h.2 x hx
structure ClsOk(p:Prog)(c:Int):Prop where
 c3:3<=c
 cl:c<3+p.classes.length
 c10:p.classes.length<=10
 sl:∀c∈p.classes,c.parents.length<=4000000/\c.slots.length<=1000
 pk:∀c∈p.classes,∀x∈c.parents,smallKey x
 fine:fineP (graphP p)=true
 ne:linP (graphP p) c≠ []
 len:(linP (graphP p) c).length<=1000
 in_:∀y∈linP (graphP p) c,0<=y/\y<3+p.classes.length
 ini:∀k∈p.classes,∀x∈k.inits,smallKey x.1
 has:∀s∈hasP p c,smallKey s
 hl:(hasP p c).length<=20000
theorem clsOk_of(h:ownC p c=true):ClsOk p c:=by
 obtain⟨⟨h3,hc⟩,hcl⟩:=own_parts h;obtain⟨h10,hs⟩:=classes_small hcl;have hcl2:=hcl;simp only[classesP,Bool.and_eq_true,decide_eq_true_eq] at hcl2;obtain⟨⟨⟨h10',hA⟩,hcn,hg⟩,hR⟩:=hcl2;have hgl:(graphP p).length=p.classes.length:=by simp[graphP]
 have hm:=slotsA_mem _ _ hA;have hk:∀(k s:Int),s∈hasP p k->smallKey s:=λk s h=>by
  obtain⟨c,h1,h2⟩:=hasP_mem h;have:=(hm c h1).2 _ h2;unfold smallKey;omega
 have hO:=ordT_ok hg (3+(graphP p).length) (Nat.le_refl _);have hOl:=ordT_len (g:=graphP p) (Nat.le_refl _);rw[ordT_all] at hO hOl;have hok:=List.all_eq_true.1 hR;have hcls:∀i,i<p.classes.length->clsOk p i=true:=λi hi=>hok i (List.mem_range.2 hi);have hlin:linP (graphP p) c=(ordersP (graphP p)).getD c.toNat []:=rfl;have hco:=hO c.toNat Ya;refine⟨h3,hc,h10,hs,classes_keys hcl,hg,?_,?_,?_,?_,hk c,?_⟩
 ·have:=hcls (c - 3).toNat Ya;rw[clsOk,Bool.and_eq_true,show (((c - 3).toNat:Nat):Int)+3=c by omega] at this;intro e;rw[e] at this;simp at this
 ·have:=hco.len;rw[hlin];omega
 ·intro y hy;rw[hlin] at hy;have:=hco.in_ y hy;omega
 ·intro k hk1 x hx;obtain⟨i,hi,rfl⟩:=List.mem_iff_getElem.1 hk1;have:=hcls i hi;rw[clsOk,Bool.and_eq_true] at this;have e:p.classes.getD i default=p.classes[i]:=by rw[List.getD_eq_getElem?_getD,List.getElem?_eq_getElem hi];rfl
  rw[e] at this;exact hk _ _ (inits1_mem _ _ _ this.2 x hx)
 ·have:=hasN_lenB (p:=p) (λc h=>(hs c h).2) (c - 2).toNat [c] [];unfold hasP sortI;rw[List.length_mergeSort];simp only[List.length_nil] at this;omega
def initsAt(p:Prog)(l:List Int)(is:List Nat):List (Int×Int):=is.flatMap λi=>initsC p (l.getD i default)
theorem range_rev(l:List Int):(List.range l.length).map (λi=>l.getD i default)=l:=by
 apply List.ext_getElem
 ·simp
 ·intro i h1 h2;rw[List.getElem_map,List.getElem_range,List.getD_eq_getElem?_getD,List.getElem?_eq_getElem YV];rfl
theorem initsAt_all(p:Prog)(c:Int):initsAt p (linP (graphP p) c) (List.range (linP (graphP p) c).length).reverse=initsL p c:=by
 unfold initsAt initsL;show _=(linP (graphP p) c).reverse.flatMap (initsC p);rw[show (linP (graphP p) c).reverse=(List.range (linP (graphP p) c).length).reverse.map (λi=>(linP (graphP p) c).getD i default) by rw[List.map_reverse,range_rev],List.flatMap_map]
theorem initsAt_snoc(p:Prog)(l:List Int)(is:List Nat)(i:Nat):initsAt p l (is++[i])=initsAt p l is++initsC p (l.getD i default):=by
 rw[initsAt,List.flatMap_append];simp[initsAt]
theorem last_take{A:List (Int×Int)}{l:List (Int×Int)}{j:Nat}(h:j<l.length):A++l.take (j+1)=(A++l.take j)++[l.getD j default]:=by
 rw[List.append_assoc,take_getD h]
theorem begin_yes{k:Nat}(hk:k<(hasP p c).length)(h:(lastOf (initsL p c) ((hasP p c).getD k default)).isSome=true):((hasP p c).take (k+1)).filterMap (λs=>(lastOf (initsL p c) s).map λn=>(s,n))=((hasP p c).take k).filterMap (λs=>(lastOf (initsL p c) s).map λn=>(s,n))++[((hasP p c).getD k default,(lastOf (initsL p c) ((hasP p c).getD k default)).getD 0)]:=by
 rw[<-take_getD hk,List.filterMap_append];generalize (hasP p c).getD k default=s at*;obtain⟨n,hn⟩:=Option.isSome_iff_exists.1 h;simp[hn]
theorem begin_no{k:Nat}(hk:k<(hasP p c).length)(h:(lastOf (initsL p c) ((hasP p c).getD k default)).isSome=false):((hasP p c).take (k+1)).filterMap (λs=>(lastOf (initsL p c) s).map λn=>(s,n))=((hasP p c).take k).filterMap (λs=>(lastOf (initsL p c) s).map λn=>(s,n)):=by
 rw[<-take_getD hk,List.filterMap_append];generalize (hasP p c).getD k default=s at*;cases hn:lastOf (initsL p c) s with
 | none=>simp[hn]
 | some n=>rw[hn] at h;cases h
structure MapOf(f:Int->AV)(l:List (Int×AV))(n:Nat):Prop where
 ok:IMapOk l
 get:∀k,getI l k=if 3<=k/\k<3+n then some (f k) else none
theorem MapOf.nil(f:Int->AV):MapOf f [] 0:=⟨IMapOk.nil,λk=>by rw[if_neg Ya];rfl⟩
theorem MapOf.put{f:Int->AV}{l:List (Int×AV)}{n:Nat}(h:MapOf f l n)(hn:n<=1000):MapOf f (putI l ((n:Int)+3) (f ((n:Int)+3))) (n+1):=by
 refine⟨h.ok.put YQ _,λk=>?_⟩;rw[getI_put,h.get];by_cases e:k=(n:Int)+3
 ·rw[if_pos e,if_pos Ya,e]
 ·rw[if_neg e];by_cases h2:3<=k/\k<3+n
  ·rw[if_pos h2,if_pos Ya]
  ·rw[if_neg h2,if_neg Ya]
theorem MapOf.look{f:Int->AV}{l:List (Int×AV)}{n:Nat}(h:MapOf f l n){k:Int}(hk:3<=k/\k<3+n)(z:AV):AVle ((getI l k).getD z) (f k):=by
 rw[h.get,if_pos hk];exact AVle.refl _
theorem slots_snoc{j:Nat}(h:j<(hasP p c).length):AV.mvs (((hasP p c).take (j+1)).map (slotP p c))= .sl 2 ((((hasP p c).take j).map (slotP p c)).map initA++[initA (slotP p c ((hasP p c).getD j default))]):=by
 rw[<-take_getD h,List.map_append];show AV.sl 2 (List.map _ (_++_))=_;rw[List.map_append];rfl
theorem begin_find(hs:s∈hasP p c):(beginP p c).find? (λb=>b.1==s)=(lastOf (initsL p c) s).map λn=>(s,n):=idx_begin _ hs
theorem idx_yes(hs:s∈hasP p c)(h:0<=idxG (beginP p c) (λb=>b.1==s)):(idxG (beginP p c) (λb=>b.1==s)).toNat<(beginP p c).length/\slotP p c s=(1,((beginP p c).getD (idxG (beginP p c) (λb=>b.1==s)).toNat default).2):=by
 have hf:=begin_find hs;unfold idxG at h ⊢;cases hi:(beginP p c).findIdx? (λb=>b.1==s) with
 | none=>rw[hi] at h;simp at h
 | some i=>
  obtain⟨h1,h2,h3⟩:=List.findIdx?_eq_some_iff_getElem.1 hi;have e:(beginP p c).find? (λb=>b.1==s)=some ((beginP p c)[i]):=by
   rw[List.find?_eq_some_iff_getElem];exact⟨h2,i,h1,rfl,λj hj=>by simpa using h3 j hj⟩
  refine⟨YV,?_⟩;simp only[Int.toNat_natCast];rw[List.getD_eq_getElem?_getD,List.getElem?_eq_getElem h1,Option.getD_some];rw[e] at hf;unfold slotP;cases hl:lastOf (initsL p c) s with
  | none=>rw[hl] at hf;cases hf
  | some n=>rw[hl] at hf;injection hf with hf;rw[hf]
theorem idx_no(hs:s∈hasP p c)(h: ¬0<=idxG (beginP p c) (λb=>b.1==s)):slotP p c s=(2,0):=by
 have hf:=begin_find hs;have hi:(beginP p c).findIdx? (λb=>b.1==s)=none:=by
  unfold idxG at h;cases hi:(beginP p c).findIdx? (λb=>b.1==s) with
  | none=>rfl
  | some i=>rw[hi] at h;simp at h
 rw[List.findIdx?_eq_none_iff] at hi;rw[List.find?_eq_none.2 (λx hx=>by have:=hi x hx;simpa using this)] at hf;unfold slotP;cases hl:lastOf (initsL p c) s with
 | none=>rfl
 | some n=>rw[hl] at hf;cases hf
theorem begin_len(p:Prog)(c:Int):(beginP p c).length<=(hasP p c).length:=List.length_filterMap_le _ _
end Go.Eng.Bd

namespace Go.Proofs.YtiaadpngpempbaaGreat
open Go.Eng
open Go.Eng.Fc
open Go.Eng.Bd
variable{fs cs:List AV}
theorem CWF.weaken{f:FuncId}{c:Ctx}{r:Option Nat}{P:Program}{st:St}{Q:Exit->Act->World->Prop}{p:Code}{st':St}(he:envLe st'.env st.env)(hH:st'.H.Sublist st.H)(h:CWF f c r P p st' Q):CWF f c r P p st Q:=
 λa w s=>h a w (s.weaken (envLe_get he) hH)
def backP(n k:Nat):List Nat:=((List.range n).drop k).reverse
theorem backP_nil(n:Nat):backP n n= []:=by rw[backP,List.drop_of_length_le Yn];rfl
theorem backP_step{n j:Nat}(h:j<n):backP n (j+1)++[j]=backP n j:=by
 have e:(List.range n).drop j=j::(List.range n).drop (j+1):=by
  rw[List.drop_eq_getElem_cons YP];simp
 rw[backP,backP,e,List.reverse_cons]
theorem backP_pre(n j:Nat):backP n j<+:(List.range n).reverse:=by
 refine⟨((List.range n).take j).reverse,?_⟩;rw[backP, <-List.reverse_append,List.take_append_drop]
instance:HasMapI Tryz.prog 124 (3,3):=⟨Yb,Yb⟩
instance:HasZ Tryz.prog 3 (.int .i64 0):=⟨Yb⟩
theorem mvsB_snoc(l:List (Int×Int))(x:Int×Int):AV.mvs (l++[x])= .sl 2 (l.map initA++[initA x]):=by
 show AV.sl 2 (List.map _ (_++_))=_;rw[List.map_append];rfl
theorem last_le2{m:List (Int×AV)}{L:List (Int×Int)}(h:MapLast m L)(s:Int):AVle (.tup [(getI m s).getD (.val (.int .i64 0)),.b (getI m s).isSome]) (.tup [.i ((lastOf L s).getD 0),.b (lastOf L s).isSome]):=by
 rw[h.get];cases lastOf L s <;> exact AVle.refl _
theorem back1{B:Nat}{g:Fn}{l:List Int}(hl:l.length<=1000000){J:List Nat->List Ent->Prop}{Jp:AV->List Ent->Prop}(hcb:CbP B Tryz.prog (.fn g fs cs) (λi:Nat=>.i i) (λi=>.i (l.getD i default)) (List.range l.length).reverse false J Jp){H0 Hx:List Ent}(hJ:J [] H0):
  BCall B Tryz.prog 96 [.fn g fs cs,.ptr [AV.ints l]] (H0++Hx) (λ_ H'=>∃H1,H'=H1++Hx/\J (List.range l.length).reverse H1) (λ_ _=>False):=by
 refine BCall.of (n:=19) Tryz.func96 rfl Yb rfl rfl (λI w0=>?_);refine Z9 ?_;refine lj (λm st=>∃(c:Int) (H1:List Ent),st=⟨[(3,.i c),(0,.fn g fs cs),(1,.ptr [AV.ints l])],H1++Hx⟩/\m=(c+1).toNat/\(-1<=c/\c<l.length)/\J (backP l.length (c+1).toNat) H1) (⟨(l.length:Int) - 1,H0,rfl,rfl,⟨Ya,Ya⟩,by rw[show ((l.length:Int) - 1+1).toNat=l.length by omega,backP_nil];exact hJ⟩) ?_;rintro m _ ⟨c,H1,rfl,rfl,hc,hJ1⟩;refine Z7 ?_;refine cd (λh0=>?_) λh0=>?_
 ·obtain⟨j,rfl⟩:∃j:Nat,c=j:=⟨c.toNat,Ya⟩;have hjl:j<l.length:=by omega
  rw[show ((j:Int)+1).toNat=j+1 by omega] at hJ1;refine Z12 ?_;refine OL.vcallC rfl rfl rfl rfl rfl rfl rfl rfl (AVleL.refl _) ((hcb (backP l.length (j+1)) j H1 Hx (by rw[backP_step hjl];exact backP_pre _ _) hJ1).mono (λ_ _ h=>h) (λ_ _ h=>by obtain⟨_,_,_,h,_⟩:=h;cases h)) ?_;rintro y _ ⟨H2,rfl,rfl,_,hJ2⟩;rw[backP_step hjl] at hJ2;refine Z3 ?_;refine CW.cond rfl (λh1=>?_) (λh1=>?_)
  ·simp at h1
  ·replace h1:=nm h1;refine Z8 ?_;exact ag (⟨(j:Int) - 1,H2,rfl,rfl,⟨Ya,Ya⟩,by rw[show ((j:Int) - 1+1).toNat=j by omega];exact hJ2⟩)
 ·obtain rfl:c= -1:=by omega
  refine Z4 ?_;refine Done.norR (rs:=[]) rfl (.nil) (AVleL.refl _) Yd ?_;exact⟨H1,rfl,hJ1⟩
theorem backward(l:List Int):PCall Tryz.prog 60 [AV.ints l] (.fn (.func 96) [] [.ptr [AV.ints l]]):=by
 intro H;refine aC (n:=4) Tryz.func60 λB I w0=>?_;refine Z13 ?_;refine r1 2 (H) ?_;exact⟨Yp,rfl⟩
theorem back_seq(B:Nat)(l:List Int)(hl:l.length<=1000000):SeqP B Tryz.prog (.fn (.func 96) [] [.ptr [AV.ints l]]) (λi:Nat=>.i i) (λi=>.i (l.getD i default)) (List.range l.length).reverse false [] (λ_=>True):=by
 intro J Jp g fs cs hcon hcb H Hx hJ;refine VCall.fnB ((back1 hl hcb hJ).imp ?_ (λ_ _ h=>h.elim));rintro y H' ⟨H1,rfl,hJ1⟩;exact⟨rfl,H1,[],rfl,trivial,hJ1⟩
theorem clipB(els:List (List AV)):PCall Tryz.prog 61 [.sl 2 els] (.sl 2 els):=by
 intro H;refine aC (n:=9) Tryz.func61 λB I w0=>?_;refine Z12 ?_;refine oP (POp.slClip rfl rfl rfl rfl rfl rfl rfl) ?_;refine Z4 ?_;refine r1 2 (H) ?_;exact⟨Yp,rfl⟩
theorem beginC{p:Prog}(hp:p.Small){c:Int}(ho:ownC p c=true):PCall Tryz.prog 32 [AV.prog p,.i c] (.tup [AV.mvs (beginP p c),.i 0]):=by
 intro H;refine ACall.mkF (n:=81) Tryz.func32 rfl Yb rfl rfl (λB I w0=>?_);obtain⟨h3,hcl,h10,hsl,hpk,hfine,hne,hlen,hin,hini,hhas,hhl⟩:=clsOk_of ho;have hgl:(graphP p).length=p.classes.length:=by simp[graphP]
 refine CWF.seq ?_;refine CW.atF ?_;refine Z5 ?_;refine CWF.done ?_;refine CWF.seq ?_;refine CWF.seq ?_;refine CW.atF ?_;refine Z3 ?_;refine oP (POp.call .k (ownB hp c)) ?_;refine Z2 ?_;refine CWF.done ?_;refine CW.atF ?_;refine CW.cond rfl (λh0=>?_) (λh0=>?_)
 ·simp[ho] at h0
 ·replace h0:=nm h0;refine Z1 ?_;refine CWF.done ?_;refine CWF.seq ?_;refine CW.atF ?_;refine Z2 ?_;refine oP (POp.call .k (graph p Ya (λc h=>(hsl c h).1))) ?_;refine Z1 ?_;refine oP (POp.call .k (linT hfine (c:=c) Ya)) ?_;refine Z6 ?_;refine CWF.done ?_;refine CWF.seq ?_;refine CWF.seq ?_;refine CW.atF ?_;refine Z4 ?_;refine CWF.done ?_;refine CW.atF ?_;refine CW.cond rfl (λh1=>?_) (λh1=>?_)
  ·simp[hne] at h1
  ·replace h1:=nm h1;refine Z1 ?_;refine CWF.done ?_;refine CWF.seq ?_;refine CW.atF ?_;refine Z1 ?_;refine OL.mkMap rfl rfl rfl rfl (λmb=>?_);refine OL.alC rfl rfl rfl rfl (λtb=>?_);refine Z2 ?_;refine CWF.done ?_;refine CWF.seq ?_;refine CWF.seq ?_;refine CW.atF ?_;refine CW.freezeP (d:=8) rfl Yi ?_;refine Z2 ?_;refine oP (POp.call .k (backward (linP (graphP p) c))) ?_;refine Z1 ?_;refine CWF.done ?_;refine CWF.block ?_;refine CWF.weaken (st':=⟨[(34,.fn (.func 96) [] [.ptr [AV.ints (linP (graphP p) c)]]),(8,.ptr [.val (.map (some mb))]),(2,.ptr (progC p)),(1,.i c)],[imapE mb []]++([]++H)⟩) Yak Yd ?_;refine CWF.rangeFuncP Tryz.func32 (λi:Nat=>.i i) (λi=>.i ((linP (graphP p) c).getD i default)) ((List.range (linP (graphP p) c).length).reverse) (false) (λpre H=>∃l,H= [imapE mb l]/\MapLast l (initsAt p (linP (graphP p) c) pre)) (λ_ _=>False) ([imapE mb []]) ([]) (H) (λ_=>True) (λx=>[(10,.i ((linP (graphP p) c).getD x default)),(8,.ptr [.val (.map (some mb))]),(2,.ptr (progC p))]) rfl rfl rfl rfl rfl (back_seq B (linP (graphP p) c) Ya) (⟨[],rfl,MapLast.nil⟩) (λ_ _ h=>h.elim) ?_ ?_ ?_ ?_
   ·intro l0 I1 w1 x Hy;refine Z3 ?_;exact λa w s=>⟨_,rfl,s.weaken (envLe_get Yak) (List.Sublist.refl _)⟩
   ·intro l0 D0 lp pre x H1 Hy I1 w1 hpre hJ;obtain⟨l,rfl,hM⟩:=hJ;have hxl:x<(linP (graphP p) c).length:=by have:=hpre.subset (show x∈pre++[x] by simp);simpa using this
    obtain⟨k,hk⟩:∃k,k=((linP (graphP p) c).getD x default):=⟨_,rfl⟩;have hkr:=hin k (hk▸getD_memB hxl);have hsn:=initsAt_snoc p (linP (graphP p) c) pre x;rw[<-hk] at hsn ⊢;refine Z7 ?_;refine cd (λh2=>?_) λh2=>?_
    ·have hil:(k - 3).toNat<p.classes.length:=by omega
     rw[initsC_at h2] at hsn;obtain⟨I,hI⟩:∃I,I=(p.classes.getD (k - 3).toNat default).inits:=⟨_,rfl⟩;have hik:∀x∈I,smallKey x.1:=λx hx=>hini _ (getD_memB hil) x (hI▸hx);rw[<-hI] at hsn;refine Z6 ?_;refine oP (Yu) ?_;refine Z7 ?_;rw[<-hI];refine CW.boundM (t:=45) rfl (λhb45=>?_);refine lj (λm st=>∃(j:Nat) (l2:List (Int×AV)),st=⟨[(47,.i j),(46,.i I.length),(45,AV.mvs I),(8,.ptr [.val (.map (some mb))])],(.loop l0 lp (envGet [(34,.fn (.func 96) [] [.ptr [AV.ints (linP (graphP p) c)]]),(8,.ptr [.val (.map (some mb))]),(2,.ptr (progC p)),(1,.i c)])::.obj D0 (.deferred (some []))::([imapE mb l2]++Hy))⟩/\m=I.length - j/\j<=I.length/\MapLast l2 (initsAt p (linP (graphP p) c) pre++I.take j)) (⟨0,l,rfl,rfl,Ya,by simpa using hM⟩) ?_;rintro m _ ⟨j,l2,rfl,rfl,hj,hM2⟩;refine Z6 ?_;refine cd (λh3=>?_) λh3=>?_
     ·have hjl:j<I.length:=by omega
      obtain⟨Y,hY⟩:∃Y,Y=I.getD j default:=⟨_,rfl⟩;have hYk:smallKey Y.1:=hik _ (hY▸getD_memB hjl);refine Z8 ?_;refine OL.alC rfl rfl rfl rfl (λib=>?_);refine Z3 ?_;rw[<-hY];refine CW.freezeP (d:=12) rfl Yi ?_;refine Z6 ?_;refine OL.mapPut (u':=.i Y.2) rfl rfl (.inl rfl) rfl rfl rfl rfl rfl rfl (AVle.refl _) (.tail _ _ _ _ _ (.tail _ _ _ _ _ (.head _ _ _))) hM2.ok hYk ?_;refine Z7 ?_;exact ag (⟨j+1,_,rfl,rfl,hjl,by rw[last_take hjl, <-hY];exact hM2.put hYk⟩)
     ·obtain rfl:j=I.length:=by omega
      rw[List.take_length, <-hsn] at hM2;refine Z5 ?_;exact Done.roundNP (H:=[imapE mb l2]) Yd (λ_=>rfl) (⟨l2,rfl,hM2⟩)
    ·refine Z2 ?_;exact Done.roundNP (H:=[imapE mb l]) Yd (λ_=>rfl) (⟨l,rfl,by rw[hsn,initsC,if_neg Ya,List.append_nil];exact hM⟩)
   ·intro D0 H1 Hs1 hfl hHn hJ;obtain⟨l,rfl,hM⟩:=hJ;rw[initsAt_all] at hM;refine Done.subH (H':=.obj D0 (.deferred (some []))::imapE mb l::H) (.cons_cons _ (.cons_cons _ (List.sublist_append_right _ _))) ?_;refine Z1 ?_;refine CWF.done ?_;refine CWF.seq ?_;refine CW.atF ?_;refine Z3 ?_;refine CWF.done ?_;refine CWF.seq ?_;refine CWF.seq ?_;refine CW.atF ?_;refine Z3 ?_;refine oP (POp.call .k (hasC p Ya (λc h=>(hsl c h).2) hpk (k:=c) YQ Ya)) ?_;refine Z3 ?_;refine CWF.done ?_;refine CWF.block ?_;refine CW.atF ?_;refine CW.ownNil 13 79 2 rfl ?_;refine lj (λm st=>∃(k:Nat) (v:Value),st=⟨[(61,.i k),(60,.i (hasP p c).length),(59,AV.ints (hasP p c)),(13,.as (AV.mvs (((hasP p c).take k).filterMap (λs=>(lastOf (initsL p c) s).map λn=>(s,n)))) v),(8,.ptr [.val (.map (some mb))])],.own 79 2 v::.obj D0 (.deferred (some []))::imapE mb l::H⟩/\m=(hasP p c).length - k/\k<=(hasP p c).length) (⟨0,_,rfl,rfl,Ya⟩) ?_;rintro m _ ⟨k,v,rfl,rfl,hk⟩;refine Z6 ?_;refine cd (λh4=>?_) λh4=>?_
    ·have hkl:k<(hasP p c).length:=by omega
     have hyes:=begin_yes hkl;have hno:=begin_no hkl;have hsm:=hhas _ (getD_memB hkl);obtain⟨s,hs⟩:∃s,s=(hasP p c).getD k default:=⟨_,rfl⟩;rw[<-hs] at hyes hno hsm;refine Z12 ?_;rw[<-hs];refine Z3 ?_;refine oP (POp.le (POp.lookupI2 rfl rfl rfl rfl rfl (.tail _ (.tail _ (.head _))) hM.ok hsm) (last_le2 hM s)) ?_;refine Z12 ?_;refine CW.cond rfl (λh5=>?_) (λh5=>?_)
     ·refine Z5 ?_;refine OL.popC (x:=.sl 2 [[.i s,.i ((lastOf (initsL p c) s).getD 0)]]) rfl rfl rfl (POp.row rfl rfl Yg rfl rfl rfl rfl rfl rfl) ?_;refine OL.appendC rfl rfl rfl rfl rfl rfl rfl rfl (AVle.refl _) (rfl) (λv=>by repeat (first | exact Upd.head _ _ _ | apply Upd.tail)) YF YF (λv77=>?_);refine Z8 ?_;exact ag (⟨k+1,v77,by rw[hyes h5,mvsB_snoc],rfl,hkl⟩)
     ·refine Z7 ?_;exact ag (⟨k+1,v,by rw[hno h5],rfl,hkl⟩)
    ·obtain rfl:k=(hasP p c).length:=by omega
     rw[List.take_length];refine Z4 ?_;refine CWF.done ?_;refine CWF.seq ?_;refine CW.atF ?_;refine Z2 ?_;refine oP (POp.callLe .k (.cons (AVle.asL _ _) .nil) (clipB _)) ?_;refine Z3 ?_;refine CWF.done ?_;refine CW.atF ?_;refine Z1 ?_;refine Done.retM1 (rs:=[.tmp 4,.tmp 5]) (H':=H) rfl Yi (.tmp rfl (.tmp rfl (.nil))) (AVleL.refl _) Yd ?_;exact⟨Yac,rfl⟩
   ·intro D0 y H1 Hs1 hfl hJp I1 v1 a1 w1 hs1 hv1;exact hJp.elim
instance:HasMapI Tryz.prog 71 (3,31):=⟨Yb,Yb⟩
instance:HasZ Tryz.prog 31 (.agg #[.int .i64 0,.slice none 0 0]):=⟨Yb⟩
abbrev clsK(p:Prog)(sb fb:Nat):List AV:=progC p++[.val (.map (some sb)),.val (.map (some fb))]
abbrev fHas(p:Prog):Int->AV:=λk=>AV.ints (hasP p k)
abbrev fNew(p:Prog):Int->AV:=λk=>.agg (thA (newP p k))
theorem one_mvsM(l:List (Int×Int)):(l.map initA).all allOne=true:=by
 rw[List.all_eq_true];intro x hx;obtain⟨a,_,rfl⟩:=List.mem_map.1 hx;rfl
theorem known1(s:Int)(x:Int×Int):PCall Tryz.prog 34 [AV.mv x,.ptr [.i s]] (.b (x.1==s)):=by
 intro H;refine aC (n:=8) Tryz.func34 λB I w0=>?_;refine Z16 ?_;refine r1 3 (H) ?_;exact⟨Yac,rfl⟩
theorem idxBI{f:Fn}{q:Int×Int->Bool}(hg:PredOk Tryz.prog (.fn f fs cs) AV.mv q)(l:List (Int×Int)):PCall Tryz.prog 33 [AV.mvs l,.fn f fs cs] (.i (idxG l q)):=by
 intro H;refine aC (n:=19) Tryz.func33 λB I w0=>?_;refine CW.boundM (t:=0) rfl (λhb0=>?_);refine Z14 ?_;refine lj (λm st=>∃k:Nat,st=⟨[(8,.i k),(7,.i l.length),(0,AV.mvs l),(1,.fn f fs cs)],H⟩/\m=l.length - k/\k<=l.length/\∀x∈l.take k,q x=false) (⟨0,rfl,rfl,Yn,Yn⟩) ?_;rintro m _ ⟨k,rfl,rfl,hk,hp⟩;refine Z6 ?_;refine cd (λh0=>?_) λh0=>?_
 ·have hkl:k<l.length:=by omega
  refine Z17 ?_;refine OL.vcallC rfl rfl rfl rfl rfl rfl rfl rfl (AVleL.refl _) (hg B _ _) ?_;rintro _ H1 ⟨rfl,e⟩;replace e:=e.symm;subst e;refine Z2 ?_;refine cd (λh1=>?_) λh1=>?_
  ·refine Z12 ?_;refine r1 4 (H) ?_;exact⟨retI (idxG_at hkl hp h1),rfl⟩
  ·refine Z7 ?_;exact ag (⟨k+1,rfl,rfl,hkl,λx hx=>by rw[<-take_getD hkl,List.mem_append,List.mem_singleton] at hx;rcases hx with hx | rfl;exact hp x hx;exact h1⟩)
 ·refine Z11 ?_;refine r1 4 (H) ?_;exact⟨retI (idxG_none Yan),rfl⟩
theorem knownC{p:Prog}(hp:p.Small)(hz:(sizesP p).isSome=true)(H:List Ent):ACall Tryz.prog 11 [AV.prog p] H (λy H'=>∃sb fb ls lf,y= .ptr (clsK p sb fb)/\H'=imapE fb lf::imapE sb ls::H/\MapOf (fHas p) ls p.classes.length/\MapOf (fNew p) lf p.classes.length) (λ_ _=>False):=by
 refine aC (n:=83) Tryz.func11 λB I w0=>?_;have h10:=(heads_of hz).cl;refine Z9 ?_;refine OL.mkMap rfl rfl rfl rfl (λsb=>?_);refine OL.mkMap rfl rfl rfl rfl (λfb=>?_);refine Z15 ?_;refine lj (λm st=>∃(i:Nat) (ls lf:List (Int×AV)),st=⟨[(21,.i i),(20,.i p.classes.length),(3,.ptr (clsK p sb fb)),(1,.ptr (progC p))],imapE fb lf::imapE sb ls::H⟩/\m=p.classes.length - i/\i<=p.classes.length/\MapOf (fHas p) ls i/\MapOf (fNew p) lf i) (⟨0,[],[],rfl,rfl,Ya,MapOf.nil _,MapOf.nil _⟩) ?_;rintro m _ ⟨i,ls,lf,rfl,rfl,hi,hS,hF⟩;refine Z6 ?_;refine cd (λh0=>?_) λh0=>?_
 ·have hil:i<p.classes.length:=by omega
  obtain⟨c,hc⟩:∃c:Int,c=(i:Int)+3:=⟨_,rfl⟩;have ho:ownC p c=true:=by unfold ownC;rw[hz,Bool.and_true,Bool.and_eq_true,decide_eq_true_eq,decide_eq_true_eq];omega
  have hck:smallKey c:=by unfold smallKey;omega
  have hcl:=clsOk_of ho;have hhl:=hcl.hl;have hS2:=hS.put Ya;have hF2:=hF.put Ya;rw[<-hc] at hS2 hF2;obtain⟨ls2,hls2⟩:∃l,l=putI ls c (AV.ints (hasP p c)):=⟨_,rfl⟩;rw[<-hls2] at hS2;have hHas:=hasB hp c;rw[if_pos ho,if_pos ho] at hHas;refine Z18 ?_;rw[<-hc];refine CW.dp mixed ?_;refine DP.anySC (λsj=>match sj with | 0=>imapE fb lf::imapE sb ls::H | _=>imapE fb lf::imapE sb ls2::H) [11] 0 12 83 rfl Ye rfl rfl rfl Ye rfl ?_;refine TD.popC 0 0 Ye Ye Ye rfl rfl rfl (λj hj1 hj2=>by rcases (show j=0 by omega) with rfl <;> exact (POp.move rfl rfl rfl)) ?_;refine TD.popC 0 0 Ye Ye Ye rfl rfl rfl (λj hj1 hj2=>by rcases (show j=0 by omega) with rfl <;> exact (Yt)) ?_;refine TD.popC 0 0 Ye Ye Ye rfl rfl rfl (λj hj1 hj2=>by rcases (show j=0 by omega) with rfl <;> exact (YC)) ?_;refine TD.popC 0 0 Ye Ye Ye rfl rfl rfl (λj hj1 hj2=>by rcases (show j=0 by omega) with rfl <;> exact (Ym)) ?_;refine TD.popC 0 0 Ye Ye Ye rfl rfl rfl (λj hj1 hj2=>by rcases (show j=0 by omega) with rfl <;> exact (POp.move rfl rfl rfl)) ?_;refine TD.popC 0 0 Ye Ye Ye rfl rfl rfl (λj hj1 hj2=>by rcases (show j=0 by omega) with rfl <;> exact (Yr)) ?_;refine TD.popC 0 0 Ye Ye Ye rfl rfl rfl (λj hj1 hj2=>by rcases (show j=0 by omega) with rfl <;> exact (POp.move rfl rfl rfl)) ?_;refine TD.popC 0 0 Ye Ye Ye rfl rfl rfl (λj hj1 hj2=>by rcases (show j=0 by omega) with rfl <;> exact (POp.call .k (hHas))) ?_;refine TD.popC 0 0 Ye Ye Ye rfl rfl rfl (λj hj1 hj2=>by rcases (show j=0 by omega) with rfl <;> exact (POp.move rfl rfl rfl)) ?_;refine TD.popC 0 0 Ye Ye Ye rfl rfl rfl (λj hj1 hj2=>by rcases (show j=0 by omega) with rfl <;> exact (POp.extract rfl rfl rfl rfl)) ?_;refine TD.popC 0 1 Ye Ye Ye rfl rfl rfl (λj hj1 hj2=>by rcases (show j=0\/j=1 by omega) with rfl | rfl <;> exact (POp.extract rfl rfl rfl rfl)) ?_;refine TD.stoC 0 Ye Ye Ye rfl rfl (by rw[hls2];exact mapPut_runs (u':=AV.ints (hasP p c)) (.inl rfl) rfl rfl rfl rfl rfl rfl (AVle.refl _) (.tail _ _ _ _ _ (.head _ _ _)) hS.ok hck) ?_;refine TD.nil ?_;refine DP.done rfl ?_;refine Z5 ?_;refine OL.alC rfl rfl rfl rfl (λxb=>?_);refine Z7 ?_;refine oP (POp.call .k (beginC hp ho)) ?_;refine Z15 ?_;refine oP (POp.le (POp.lookupI rfl rfl rfl rfl rfl (.tail _ (.tail _ (.head _))) hS2.ok hck) (hS2.look Ya _)) ?_;refine Z5 ?_;refine CW.ownNilB (b:=xb) (t:=31) 58 2 1 Yai rfl rfl ?_;refine lj (λm st=>∃(j:Nat) (v:Value),st=⟨[(52,.i j),(51,.i (hasP p c).length),(50,AV.ints (hasP p c)),(7,AV.mvs (beginP p c)),(6,.p xb 0),(5,.i c),(21,.i i),(20,.i p.classes.length),(3,.ptr (clsK p sb fb)),(1,.ptr (progC p))],.own 58 2 v::.blk xb 31 [.i c,.as (AV.mvs (((hasP p c).take j).map (slotP p c))) v]::imapE fb lf::imapE sb ls2::H⟩/\m=(hasP p c).length - j/\j<=(hasP p c).length) (⟨0,_,rfl,rfl,Ya⟩) ?_;rintro m _ ⟨j,v,rfl,rfl,hj⟩;refine Z6 ?_;refine cd (λh1=>?_) λh1=>?_
  ·have hjl:j<(hasP p c).length:=by omega
   have hsn:=slots_snoc hjl;obtain⟨s,hs⟩:∃s,s=(hasP p c).getD j default:=⟨_,rfl⟩;have hsm:s∈(hasP p c):=hs▸getD_memB hjl;rw[<-hs] at hsn;have hbl:=begin_len p c;refine Z8 ?_;refine OL.alC rfl rfl rfl rfl (λab=>?_);refine Z4 ?_;rw[<-hs];refine CW.freezeP (d:=10) rfl Yi ?_;refine Z2 ?_;refine OL.alC rfl rfl rfl rfl (λvb=>?_);refine Z8 ?_;refine oP (POp.call .k (idxBI (.of (known1 s)) (beginP p c))) ?_;refine Z9 ?_;refine CW.cond rfl (λh2=>?_) (λh2=>?_)
   ·obtain⟨hx1,hx2⟩:=idx_yes hsm YU;have h2:0<=idxG (beginP p c) (λb=>b.1==s):=by simpa using h2
    refine Z3 ?_;refine oP (Yu) ?_;refine Z6 ?_;refine CW.eqH (H':=.blk vb 58 (initA (slotP p c s))::.own 58 2 v::.blk xb 31 [.i c,.as (AV.mvs (((hasP p c).take j).map (slotP p c))) v]::imapE fb lf::imapE sb ls2::H) (by rw[hx2];rfl) ?_;refine Z4 ?_;refine OL.popC (x:=.sl 2 [initA (slotP p c s)]) rfl rfl rfl (POp.row rfl rfl Yg rfl rfl rfl rfl rfl rfl) ?_;refine OL.appendC rfl rfl rfl rfl rfl rfl rfl rfl (AVle.refl _) (rfl) (λv=>by repeat (first | exact Upd.head _ _ _ | apply Upd.tail)) Yy Yy (λv72=>?_);refine Z9 ?_;exact ag (⟨j+1,v72,by rw[hsn],rfl,hjl⟩)
   ·have hx2:=idx_no hsm YU;refine Z2 ?_;refine CW.eqH (H':=.blk vb 58 (initA (slotP p c s))::.own 58 2 v::.blk xb 31 [.i c,.as (AV.mvs (((hasP p c).take j).map (slotP p c))) v]::imapE fb lf::imapE sb ls2::H) (by rw[hx2];rfl) ?_;refine Z4 ?_;refine OL.popC (x:=.sl 2 [initA (slotP p c s)]) rfl rfl rfl (POp.row rfl rfl Yg rfl rfl rfl rfl rfl rfl) ?_;refine OL.appendC rfl rfl rfl rfl rfl rfl rfl rfl (AVle.refl _) (rfl) (λv=>by repeat (first | exact Upd.head _ _ _ | apply Upd.tail)) Yy Yy (λv72=>?_);refine Z9 ?_;exact ag (⟨j+1,v72,by rw[hsn],rfl,hjl⟩)
  ·obtain rfl:j=(hasP p c).length:=by omega
   rw[List.take_length];refine Z5 ?_;refine CW.dp mixed ?_;refine DP.anyC 0 6 83 rfl Ye rfl rfl Ye ?_;refine Z8 ?_;refine OL.mapPut (u':=fNew p c) rfl rfl (.inl rfl) rfl rfl rfl rfl rfl rfl (AVle.agg (.cons (.refl _) (.cons (AVle.asL _ _) .nil))) (.tail _ _ _ _ _ (.tail _ _ _ _ _ (.head _ _ _))) hF.ok hck ?_;refine Z7 ?_;exact ag (⟨i+1,_,_,rfl,rfl,hil,hS2,hF2⟩)
 ·obtain rfl:i=p.classes.length:=by omega
  refine Z12 ?_;refine r1 2 (imapE fb lf::imapE sb ls::H) ?_;exact⟨sb,fb,ls,lf,rfl,rfl,hS,hF⟩
theorem th_two(t:Th):(thA t).length=2:=rfl
theorem in_two(x:Int×Int):(initA x).length=2:=rfl
theorem flat_snocM{α:Type}[Inhabited α](F:α->List AV){l:List α}{i:Nat}(h:i<l.length):((l.take i).map F).flatten++[F (l.getD i default)].flatten=((l.take (i+1)).map F).flatten:=by
 rw[<-take_getD h,List.map_append,List.flatten_append];rfl
theorem mvs_takeM{l:List (Int×Int)}{i:Nat}(h:i<l.length):AV.mvs (l.take (i+1))= .sl 2 ((l.take i).map initA++[initA (l.getD i default)]):=by
 rw[<-take_getD h,mvsB_snoc]
theorem clipMV(els:List (List AV)):PCall Tryz.prog 97 [.sl 2 els] (.sl 2 els):=by
 intro H;refine aC (n:=9) Tryz.func97 λB I w0=>?_;refine Z12 ?_;refine oP (POp.slClip rfl rfl rfl rfl rfl rfl rfl) ?_;refine Z4 ?_;refine r1 2 (H) ?_;exact⟨Yp,rfl⟩
theorem clipMVb(b n cap:Nat)(h:n<=cap)(h0:0<n):PCall Tryz.prog 97 [.val (.slice (some ⟨b,0,none⟩) n cap)] (.val (.slice (some ⟨b,0,none⟩) n n)):=by
 intro H;refine aC (n:=9) Tryz.func97 λB I w0=>?_;refine Z9 ?_;refine oP (POp.lenV rfl rfl rfl) ?_;refine Z1 ?_;refine oP (POp.lenV rfl rfl rfl) ?_;refine oP (POp.sl3N rfl rfl rfl rfl rfl rfl rfl h h0) ?_;refine Z4 ?_;refine r1 2 (H) ?_;exact⟨Yp,rfl⟩
theorem clipMTb(b n cap:Nat)(h:n<=cap)(h0:0<n):PCall Tryz.prog 76 [.val (.slice (some ⟨b,0,none⟩) n cap)] (.val (.slice (some ⟨b,0,none⟩) n n)):=by
 intro H;refine aC (n:=9) Tryz.func76 λB I w0=>?_;refine Z9 ?_;refine oP (POp.lenV rfl rfl rfl) ?_;refine Z1 ?_;refine oP (POp.lenV rfl rfl rfl) ?_;refine oP (POp.sl3N rfl rfl rfl rfl rfl rfl rfl h h0) ?_;refine Z4 ?_;refine r1 2 (H) ?_;exact⟨Yp,rfl⟩
theorem vals1(x:Int×Int):PCall Tryz.prog 63 [AV.mv x] (AV.mv x):=by
 intro H;refine aC (n:=4) Tryz.func63 λB I w0=>?_;refine Z3 ?_;refine OL.alC rfl rfl rfl rfl (λb0=>?_);refine Z9 ?_;refine rR [.cell 2 58] (H) ?_;exact⟨Yac,rfl⟩
theorem copyV(l:List (Int×Int))(hl:l.length<=100000):PCall Tryz.prog 62 [AV.mvs l,(.fn (.func 63) [] [])] (AV.mvs l):=by
 intro H;refine aC (n:=23) Tryz.func62 λB I w0=>?_;refine Z19 ?_;refine CW.ownNil 5 58 2 rfl ?_;refine lj (λm st=>∃(i:Nat) (v:Value),st=⟨[(10,.i i),(9,.i l.length),(8,AV.mvs l),(5,.as (AV.mvs (l.take i)) v),(1,(.fn (.func 63) [] []))],.own 58 2 v::H⟩/\m=l.length - i/\i<=l.length) (⟨0,_,rfl,rfl,Ya⟩) ?_;rintro m _ ⟨i,v,rfl,rfl,hi⟩;refine Z6 ?_;refine cd (λh0=>?_) λh0=>?_
 ·have hil:i<l.length:=by omega
  refine Z8 ?_;refine OL.alC rfl rfl rfl rfl (λxb=>?_);refine Z3 ?_;refine CW.freezeP (d:=7) rfl Yi ?_;refine Z4 ?_;refine OL.vcallC rfl rfl rfl rfl rfl rfl rfl rfl (AVleL.refl _) (VCall.fn (vals1 (l.getD i default) _)) ?_;rintro _ _ ⟨rfl,rfl⟩;refine OL.popC (x:=.sl 2 [initA (l.getD i default)]) rfl rfl rfl (POp.row rfl rfl Yg rfl rfl rfl rfl rfl rfl) ?_;refine OL.appendC rfl rfl rfl rfl rfl rfl rfl rfl (AVle.refl _) (rfl) (λv=>by repeat (first | exact Upd.head _ _ _ | apply Upd.tail)) Yy Yy (λv19=>?_);refine Z8 ?_;exact ag (⟨i+1,v19,by rw[mvs_takeM hil],rfl,hil⟩)
 ·obtain rfl:i=l.length:=by omega
  rw[List.take_length];refine Z8 ?_;refine oP (POp.callLe .k (.cons (AVle.asL _ _) .nil) (clipMV _)) ?_;refine Z4 ?_;refine r1 4 (H) ?_;exact⟨Yac,rfl⟩
theorem valsC(l:List (Int×Int))(hl:l.length<=100000):PCall Tryz.prog 35 [AV.mvs l] (AV.mvs l):=by
 intro H;refine aC (n:=5) Tryz.func35 λB I w0=>?_;refine Z8 ?_;refine oP (POp.call .k (copyV l hl)) ?_;refine Z4 ?_;refine r1 2 (H) ?_;exact⟨Yp,rfl⟩
theorem copyVB(l:List (Int×Int))(hl:l.length<=100000)(hne:0<l.length)(H:List Ent):ACall Tryz.prog 62 [AV.mvs l,(.fn (.func 63) [] [])] H (λy H'=>∃b more,y= .val (.slice (some ⟨b,0,none⟩) l.length l.length)/\H'= .blk b 58 ((l.map initA).flatten++more)::H) (λ_ _=>False):=by
 refine aC (n:=23) Tryz.func62 λB I w0=>?_;refine Z19 ?_;refine CW.rowNil 58 2 ?_;refine lj (λm st=>∃(i:Nat) (v:Value),st=⟨[(10,.i i),(9,.i l.length),(8,AV.mvs l),(5,.val v),(1,(.fn (.func 63) [] []))],.row 58 2 v i ((l.take i).map initA).flatten::H⟩/\m=l.length - i/\i<=l.length) (⟨0,_,rfl,rfl,Ya⟩) ?_;rintro m _ ⟨i,v,rfl,rfl,hi⟩;refine Z6 ?_;refine cd (λh0=>?_) λh0=>?_
 ·have hil:i<l.length:=by omega
  refine Z8 ?_;refine OL.alC rfl rfl rfl rfl (λxb=>?_);refine Z3 ?_;refine CW.freezeP (d:=7) rfl Yi ?_;refine Z4 ?_;refine OL.vcallC rfl rfl rfl rfl rfl rfl rfl rfl (AVleL.refl _) (VCall.fn (vals1 (l.getD i default) _)) ?_;rintro _ _ ⟨rfl,rfl⟩;refine OL.popC (x:=.sl 2 [initA (l.getD i default)]) rfl rfl rfl (POp.row rfl rfl Yg rfl rfl rfl rfl rfl rfl) ?_;refine OL.appendRowAny [initA (l.getD i default)] rfl rfl rfl rfl rfl rfl rfl rfl (AVle.refl _) rfl (λv=>.head _ _ _) YN YN (λv19=>?_);refine Z4 ?_;refine CW.eqH (H':=.row 58 2 v19 (i+1) ((l.take (i+1)).map initA).flatten::H) (by rw[<-flat_snocM initA hil];rfl) ?_;refine Z4 ?_;exact ag (⟨i+1,v19,rfl,rfl,hil⟩)
 ·obtain rfl:i=l.length:=by omega
  rw[List.take_length];refine Z6 ?_;refine CW.rowBlk Ya (λb cap more=>.head _ _ _) (λb cap more e1 e2 e3 e4 e5=>?_);subst e1;refine Z2 ?_;refine oP (POp.call .k (clipMVb b _ cap e2 hne)) ?_;refine Z4 ?_;refine Done.retR (rs:=[.tmp 4]) (H':=_) rfl (.tmp rfl (.nil)) (AVleL.refl _) (by exact List.Sublist.refl _) ?_;exact⟨b,more,rfl,rfl⟩
theorem valsB(l:List (Int×Int))(hl:l.length<=100000)(hne:0<l.length)(H:List Ent):ACall Tryz.prog 35 [AV.mvs l] H (λy H'=>∃b more,y= .val (.slice (some ⟨b,0,none⟩) l.length l.length)/\H'= .blk b 58 ((l.map initA).flatten++more)::H) (λ_ _=>False):=by
 refine aC (n:=5) Tryz.func35 λB I w0=>?_;refine Z8 ?_;refine bC .k ((copyVB l hl hne H).b) ?_;rintro _ _ ⟨b,more,rfl,rfl⟩;refine Z4 ?_;refine r1 2 (.blk b 58 ((l.map initA).flatten++more)::H) ?_;exact⟨b,more,rfl,rfl⟩
theorem things1(t:Th)(ht:t.slots.length<=100000):PCall Tryz.prog 43 [.agg (thA t)] (.agg (thA t)):=by
 intro H;refine aC (n:=9) Tryz.func43 λB I w0=>?_;refine Z3 ?_;refine OL.alC rfl rfl rfl rfl (λb0=>?_);refine Z3 ?_;refine CW.dp mixed ?_;refine DP.anyC 0 5 9 rfl Ye rfl rfl Ye ?_;refine Z4 ?_;refine AD.popC rfl rfl rfl (POp.call .k (valsC t.slots ht)) ?_;refine Z7 ?_;refine rR [.cell 2 31] (H) ?_;exact⟨Yac,rfl⟩
theorem copyTB(l:List Th)(hl:l.length<=100000)(hs:∀t∈l,t.slots.length<=100000)(hne:0<l.length)(H:List Ent):ACall Tryz.prog 42 [AV.ths l,(.fn (.func 43) [] [])] H (λy H'=>∃b more,y= .val (.slice (some ⟨b,0,none⟩) l.length l.length)/\H'= .blk b 31 ((l.map thA).flatten++more)::H) (λ_ _=>False):=by
 refine aC (n:=23) Tryz.func42 λB I w0=>?_;refine Z19 ?_;refine CW.rowNil 31 2 ?_;refine lj (λm st=>∃(i:Nat) (v:Value),st=⟨[(10,.i i),(9,.i l.length),(8,AV.ths l),(5,.val v),(1,(.fn (.func 43) [] []))],.row 31 2 v i ((l.take i).map thA).flatten::H⟩/\m=l.length - i/\i<=l.length) (⟨0,_,rfl,rfl,Ya⟩) ?_;rintro m _ ⟨i,v,rfl,rfl,hi⟩;refine Z6 ?_;refine cd (λh0=>?_) λh0=>?_
 ·have hil:i<l.length:=by omega
  refine Z8 ?_;refine OL.alC rfl rfl rfl rfl (λxb=>?_);refine Z3 ?_;refine CW.freezeP (d:=7) rfl Yi ?_;refine Z4 ?_;refine OL.vcallC rfl rfl rfl rfl rfl rfl rfl rfl (AVleL.refl _) (VCall.fn (things1 (l.getD i default) (hs _ (getD_memB hil)) _)) ?_;rintro _ _ ⟨rfl,rfl⟩;refine OL.popC (x:=.sl 2 [thA (l.getD i default)]) rfl rfl rfl (POp.row rfl rfl Yg rfl rfl rfl rfl rfl rfl) ?_;refine OL.appendRowAny [thA (l.getD i default)] rfl rfl rfl rfl rfl rfl rfl rfl (AVle.refl _) rfl (λv=>.head _ _ _) YN YN (λv19=>?_);refine Z4 ?_;refine CW.eqH (H':=.row 31 2 v19 (i+1) ((l.take (i+1)).map thA).flatten::H) (by rw[<-flat_snocM thA hil];rfl) ?_;refine Z4 ?_;exact ag (⟨i+1,v19,rfl,rfl,hil⟩)
 ·obtain rfl:i=l.length:=by omega
  rw[List.take_length];refine Z6 ?_;refine CW.rowBlk Ya (λb cap more=>.head _ _ _) (λb cap more e1 e2 e3 e4 e5=>?_);subst e1;refine Z2 ?_;refine oP (POp.call .k (clipMTb b _ cap e2 hne)) ?_;refine Z4 ?_;refine Done.retR (rs:=[.tmp 4]) (H':=_) rfl (.tmp rfl (.nil)) (AVleL.refl _) (by exact List.Sublist.refl _) ?_;exact⟨b,more,rfl,rfl⟩
theorem thingsB(l:List Th)(hl:l.length<=100000)(hs:∀t∈l,t.slots.length<=100000)(hne:0<l.length)(H:List Ent):ACall Tryz.prog 17 [AV.ths l] H (λy H'=>∃b more,y= .val (.slice (some ⟨b,0,none⟩) l.length l.length)/\H'= .blk b 31 ((l.map thA).flatten++more)::H) (λ_ _=>False):=by
 refine aC (n:=5) Tryz.func17 λB I w0=>?_;refine Z8 ?_;refine bC .k ((copyTB l hl hs hne H).b) ?_;rintro _ _ ⟨b,more,rfl,rfl⟩;refine Z4 ?_;refine r1 2 (.blk b 31 ((l.map thA).flatten++more)::H) ?_;exact⟨b,more,rfl,rfl⟩
end Go.Proofs.YtiaadpngpempbaaGreat
