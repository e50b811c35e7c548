/- Part 48 of the proof: contracts of functions of the program and what they need. No condition beyond those that each theorem names. -/
import Derived.Test.YtkifepjiiokfpaaGreatMeanChecksP47
import Derived.Tactics
import Derived.Tactics2
import Derived.Laws.Pointers
import Derived.TacticsInMore
import Derived.RegionIn
import Derived.RecoverIn
set_option maxHeartbeats 1000000
set_option linter.unusedVariables false
set_option linter.unusedSimpArgs false
set_option maxRecDepth 10000
namespace Go.Proofs.YtkifepjiiokfpaaGreat
open Go.Eng
open Go.Eng.Fc
open Go.Eng.Bd
variable{p:Prog}{x:Bool}{B tb:Nat}{I0:Imm}{w0 w:World}{env:List (Nat×AV)}{H:List Ent}{a:Act}{Φ E:AV->List Ent->Prop}{fs cs:List AV}{q:Int×Int->Bool}
theorem visitsW_all{v:Vis->List Int->List Vis×Option (List Int)}{Q:Vis->Prop}:∀(l:List Vis) (o:List Int),(∀z∈l,∀o',∀y∈(v z o').1,Q y)->∀y∈(visitsW v l o).1,Q y
 | [],o,_,y,hy=>by simp[visitsW] at hy
 | z::r,o,h,y,hy=>by
  simp only[visitsW] at hy;rcases hv:v z o with⟨l1,_ | o1⟩
  ·rw[hv] at hy;exact h z (.head _) o y (by rw[hv];exact hy)
  ·rw[hv] at hy;rcases List.mem_append.1 hy with hy | hy
   ·exact h z (.head _) o y (by rw[hv];exact hy)
   ·exact visitsW_all r o1 (λw hw=>h w (.tail _ hw)) y hy
theorem kidsV_ge{x:Vis}{op:Int}(h:0<=x.sz):∀(i:Nat) (l:List Int),∀y∈kidsV x op i l,0<=y.sz
 | _,[],y,hy=>by cases hy
 | i,k::r,y,hy=>by
  rw[kidsV] at hy;rcases List.mem_cons.1 hy with rfl | hy
  ·simp only[kidV];split <;> omega
  ·exact kidsV_ge h (i+1) r y hy
theorem visit_ge{p:Prog}{next:Bool}:∀(f:Nat) (x:Vis) (out:List Int),0<=x.sz->∀y∈(visit p next f x out).1,0<=y.sz
 | 0,x,out,h,y,hy=>by rw[show (visit p next 0 x out).1= [x] from rfl,List.mem_singleton] at hy;rw[hy];exact h
 | f+1,x,out,h,y,hy=>by
  cases hk:okV p next x out with
  | false=>rw[visit_no hk,List.mem_singleton] at hy;rw[hy];exact h
  | true=>
   rw[visit_yes hk] at hy;rcases List.mem_cons.1 hy with rfl | hy
   ·exact h
   ·exact visitsW_all _ _ (λz hz o' y hy=>visit_ge f z o' (kidsV_ge h _ _ z hz) y hy) y hy
def OutGe(o:List Int):Prop:=∀y∈o,-1<=y
theorem outsV_ge:∀(L:List Vis) (o:List Int),(∀x∈L,0<=x.sz)->OutGe o->OutGe (outsV L o)
 | [],o,_,h=>h
 | x::r,o,hL,h=>outsV_ge r _ (λy hy=>hL y (.tail _ hy)) (λy hy=>by
  rcases List.mem_or_eq_of_mem_set hy with h1 | h1
  ·exact h y h1
  ·have:=hL x (.head _);omega)
theorem visit_outGe{next:Bool}{x:Vis}{o o':List Int}(hd:x.dp=1)(hs:0<=x.sz)(h:(visit p next 13 x o).2=some o')(hg:OutGe o):OutGe o':=by
 rw[(visit_vp (p:=p) (next:=next) 13 x o Yb).end_ o' h];exact outsV_ge _ _ (visit_ge 13 x o hs) hg
theorem out0_ge(p:Prog):OutGe (out0 p):=λy hy=>by rw[(List.mem_replicate.1 hy).2];omega
theorem ints_flatR(l:List Int):(l.map λn=>[AV.i n]).flatten=l.map AV.i:=by
 induction l with
 | nil=>rfl
 | cons x r ih=>rw[List.map_cons,List.flatten_cons,ih];rfl
theorem meth_bif{m:Mth}(hw:worldP (worldOf p)=true):(bif bif bif bif bif decide (m.kind<1) then true else decide (m.kind>4) then true else decide (m.gen<0) then true else decide (m.gen>=p.gens.length) then true else !formedP (worldOf p) m.fact then true else decide (speaksP m.fact>p.gens.getD m.gen.toNat default))= !(mth1 p m && mth2 p m):=by
 unfold mth1 mth2;rw[hw];simp only[Bool.cond_true_left,Bool.true_and];cases formedP (worldOf p) m.fact
 ·simp
 ·rw[Bool.eq_iff_iff];simp only[Bool.or_eq_true,decide_eq_true_eq,Bool.not_eq_true', <-Bool.not_eq_true,Bool.and_eq_true,Bool.not_true,Bool.false_eq_true,or_false,true_and];omega
theorem gen_bif(n:Int):(bif decide (n<1) then true else decide (n>3))= !genP n:=by
 unfold genP;rw[Bool.cond_true_left,Bool.eq_iff_iff];simp only[Bool.or_eq_true,decide_eq_true_eq,Bool.not_eq_true', <-Bool.not_eq_true,Bool.and_eq_true];omega
theorem head_bif(p:Prog)(b:Bool):(bif bif bif bif !b then true else decide ((p.gens.length:Int)>8) then true else decide ((p.methods.length:Int)>16) then true else decide ((p.nodes.length:Int)<1) then true else decide ((p.nodes.length:Int)>120))= !(b && headP p):=by
 unfold headP;cases b
 ·simp
 ·simp only[Bool.cond_true_left,Bool.true_and,Bool.not_true];rw[Bool.eq_iff_iff];simp only[Bool.or_eq_true,decide_eq_true_eq,Bool.not_eq_true', <-Bool.not_eq_true,Bool.and_eq_true,Bool.false_eq_true,false_or];omega
theorem rLook(hp:p.Small):PCall Tryz.prog 73 [AV.prog p] (.tup [AV.ints ((sizesP p).getD []),.b (sizesP p).isSome]):=by
 intro H;refine aC (n:=156) Tryz.func73 λB I w0=>?_;have hpc:=hp.classes;have hpp:=hp.parents;have hb1:0=0:=rfl;refine Z11 ?_;refine oP (POp.call .k (rClasses hp)) ?_;refine Z27 ?_;refine CW.cond rfl (λh0=>?_) (λh0=>?_)
 ·rw[head_bif,Bool.not_eq_true',Bool.and_eq_false_iff] at h0;have hno:sizesP p=none:=by
   rcases h0 with h0 | h0
   ·exact szs_no1 h0
   ·exact szs_no2 h0
  refine Z8 ?_;refine Done.retR (rs:=[.tmp 2,.tmp 3]) (H':=H) rfl (.tmp rfl (.tmp rfl (.nil))) (.cons (AVle.nil 1) (.cons (.refl _) .nil)) Yd ?_;exact⟨Yao,rfl⟩
 ·rw[head_bif,Bool.not_eq_false',Bool.and_eq_true] at h0;obtain⟨hcl,hhd⟩:=h0;have hH:=Heads.of hcl;have h10:=hH.cl;have hw:=hH.world;have hpl:=world_pl p;have hhd2:=hhd;simp only[headP,Bool.and_eq_true,decide_eq_true_eq] at hhd2;have hsl:=slotsA_mem _ _ hH.sl;refine Z9 ?_;refine lj (λm st=>∃i:Nat,st=⟨[(4,.i i),(1,.ptr (progC p))],H⟩/\m=p.gens.length - i/\i<=p.gens.length/\(p.gens.take i).all genP=true) (⟨0,rfl,rfl,Yb,rfl⟩) ?_;rintro m _ ⟨i,rfl,rfl,hi,ha⟩;refine Z10 ?_;refine cd (λh1=>?_) λh1=>?_
  ·have hil:i<p.gens.length:=by omega
   refine Z22 ?_;refine CW.cond rfl (λh2=>?_) (λh2=>?_)
   ·rw[gen_bif,Bool.not_eq_true'] at h2;have hno:sizesP p=none:=szs_no3 (all_no hil h2);refine Z12 ?_;refine Done.retR (rs:=[.tmp 2,.tmp 3]) (H':=H) rfl (.tmp rfl (.tmp rfl (.nil))) (.cons (AVle.nil 1) (.cons (.refl _) .nil)) Yd ?_;exact⟨Yao,rfl⟩
   ·rw[gen_bif,Bool.not_eq_false'] at h2;refine Z8 ?_;exact ag (⟨i+1,rfl,rfl,hil,all_step hil ha h2⟩)
  ·obtain rfl:i=p.gens.length:=by omega
   rw[List.take_length] at ha;refine Z17 ?_;refine CW.rowNil 3 1 ?_;refine lj (λm st=>∃(i:Nat) (v:Value),st=⟨[(6,.i i),(5,.val v),(1,.ptr (progC p))],rowE v (List.replicate i (-1))::H⟩/\m=p.nodes.length - i/\i<=p.nodes.length) (⟨0,_,rfl,rfl,Yb⟩) ?_;rintro m _ ⟨i,v,rfl,rfl,hi⟩;refine Z10 ?_;refine cd (λh3=>?_) λh3=>?_
   ·have hil:i<p.nodes.length:=by omega
    refine Z6 ?_;refine OL.popC (x:=.sl 1 [[.i (-1)]]) rfl rfl rfl (POp.row rfl rfl Yk rfl rfl rfl rfl rfl rfl) ?_;refine OL.appendRowAny (intEls [-1]) rfl rfl rfl rfl rfl rfl rfl rfl (AVle.refl _) rfl (λv=>.head _ _ _) (by simp only[intEls_len,List.length_replicate,List.length_singleton];omega) (by simp only[intEls_len,List.length_replicate,List.length_singleton];omega) (λv68=>?_);refine Z4 ?_;refine CW.eqH (H':=rowE v68 (List.replicate i (-1)++[-1])::H) (congrArg (· ::_) (rowE_append _ _ _)) ?_;refine Z5 ?_;exact ag (⟨i+1,v68,by rw[List.replicate_succ'],rfl,hil⟩)
   ·obtain rfl:i=p.nodes.length:=by omega
    refine Z6 ?_;refine CW.rowBlk (t:=3) (by rw[intEls_len,List.length_replicate];omega) (λb cap more=>.head _ _ _) (λnb cap more e1 e2 e3 e4 e5=>?_);rw[intEls_len,List.length_replicate] at e1 e2;subst e1;refine CW.eqH (H':=.blk nb 3 ((out0 p).map AV.i++more)::H) (by rw[intEls,ints_flatR];rfl) ?_;refine Z2 ?_;refine oP (POp.call .k (rWorld p Yb (λc h=>⟨hpp c h,by have:=(hsl c h).1;omega⟩))) ?_;refine OL.alC rfl rfl rfl rfl (λwb=>?_);refine Z5 ?_;refine CW.freezeP (d:=7) rfl Yo ?_;refine Z5 ?_;refine lj (λm st=>∃(i:Nat) (o:List Int),st=⟨[(8,.i i),(7,.ptr (Wcells (worldOf p))),(5,.val (.slice (some ⟨nb,0,none⟩) p.nodes.length cap)),(1,.ptr (progC p))],.blk nb 3 (o.map AV.i++more)::H⟩/\m=p.methods.length - i/\i<=p.methods.length/\methodsN p (p.methods.drop i) o=methodsN p p.methods (out0 p)/\o.length=p.nodes.length/\OutGe o) (⟨0,out0 p,rfl,rfl,Yb,rfl,by simp[out0],out0_ge p⟩) ?_;rintro m _ ⟨i,o,rfl,rfl,hi,hmn,hol,hge⟩;refine Z10 ?_;refine cd (λh4=>?_) λh4=>?_
    ·have hil:i<p.methods.length:=by omega
     obtain⟨M,hM⟩:∃M,M=(p.methods.getD i default):=⟨_,rfl⟩;refine Z11 ?_;refine OL.alC rfl rfl rfl rfl (λmb=>?_);refine Z5 ?_;rw[<-hM];refine CW.freezeP (d:=9) rfl Yo ?_;refine CW.dp mixed ?_;refine Z56 ?_;refine DP.anyC 14 19 156 rfl Yf rfl rfl Yf ?_;refine Z18 ?_;refine DP.anyC 22 25 156 rfl Yf rfl rfl Yf ?_;refine Z5 ?_;refine OL.guardC rfl rfl rfl rfl rfl rfl (λhg=>POp.call (.mk' rfl rfl rfl rfl Yc) (rFormed Yb M.fact)) ?_;refine Z14 ?_;refine DP.anyC 29 38 156 rfl Yf rfl rfl Yf ?_;refine Z2 ?_;refine AD.guardC rfl rfl rfl rfl rfl (λhg=>POp.call (.mk' rfl rfl rfl rfl Yc) (rSpeaks M.fact (formed_smallA (w:=worldOf p) (by revert hg;cases formedP (worldOf p) M.fact <;> simp)))) ?_;refine Z4 ?_;refine AD.guardC rfl rfl rfl rfl rfl (λhg=>(by first | exact POp.ixM rfl rfl (gd hg) rfl (gd hg) YR | exact POp.ixI rfl rfl (gd hg) rfl (gd hg) YR)) ?_;refine Z7 ?_;refine CW.cond rfl (λh5=>?_) (λh5=>?_)
     ·rw[meth_bif hw,Bool.not_eq_true'] at h5;have hno:sizesP p=none:=szs_no4 (by rw[<-hmn];exact mths_no hil hM h5);refine Z13 ?_;refine Done.retR (rs:=[.tmp 2,.tmp 3]) (H':=H) rfl (.tmp rfl (.tmp rfl (.nil))) (.cons (AVle.nil 1) (.cons (.refl _) .nil)) Yd ?_;exact⟨Yao,rfl⟩
     ·rw[meth_bif hw,Bool.not_eq_false'] at h5;have hm1:=h5;simp only[mth1,Bool.and_eq_true,decide_eq_true_eq] at hm1;have hgp:=List.all_eq_true.1 ha _ (getD_memB (l:=p.gens) (k:=M.gen.toNat) Yb);simp only[genP,Bool.and_eq_true,decide_eq_true_eq] at hgp;refine Z3 ?_;rcases hv:(visit p (nextM M) 13 (bodyV p M) o).2 with _ | o1
      ·have hno:sizesP p=none:=szs_no4 (by rw[<-hmn];exact mths_stop hil hM hv);refine CW.dp mixed ?_;refine DP.anyC 0 13 156 rfl Yf rfl rfl Yf ?_;refine Z11 ?_;refine AD.popC rfl rfl rfl (POp.call .k (rNext M.kind)) ?_;refine Z3 ?_;refine bC (.mk' rfl rfl rfl rfl rfl) ((ACall.weak (rWalk (next:=nextM M) Yb 13 (bodyV p M) o nb cap more H (by rfl) Yah YH hol) (λy H1 h=>by rw[walkQ,hv] at h;exact h) (λ_ _ h=>h)).b) ?_;rintro _ _ ⟨rfl,o2,rfl⟩;refine Z3 ?_;refine CW.cond rfl (λh6=>?_) (λh6=>?_)
       ·replace h6:=nm h6;refine Z12 ?_;refine Done.retR (rs:=[.tmp 2,.tmp 3]) (H':=H) rfl (.tmp rfl (.tmp rfl (.nil))) (.cons (AVle.nil 1) (.cons (.refl _) .nil)) Yd ?_;exact⟨Yao,rfl⟩
       ·cases h6
      ·have hol1:=visit_lenR (by rfl) hv;have hge1:=visit_outGe (by rfl) (by simp only[bodyV];omega) hv hge;have hmg:=mths_go hil hM h5 hv;refine CW.dp mixed ?_;refine DP.anyC 0 13 156 rfl Yf rfl rfl Yf ?_;refine Z11 ?_;refine AD.popC rfl rfl rfl (POp.call .k (rNext M.kind)) ?_;refine Z3 ?_;refine bC (.mk' rfl rfl rfl rfl rfl) ((ACall.weak (rWalk (next:=nextM M) Yb 13 (bodyV p M) o nb cap more H (by rfl) Yah YH hol) (λy H1 h=>by rw[walkQ,hv] at h;exact h) (λ_ _ h=>h)).b) ?_;rintro _ _ ⟨rfl,rfl⟩;refine Z3 ?_;refine CW.cond rfl (λh7=>?_) (λh7=>?_)
       ·cases h7
       ·replace h7:=nm h7;refine Z8 ?_;exact ag (⟨i+1,o1,rfl,rfl,hil,by rw[<-hmn,hmg],Yb,hge1⟩)
    ·obtain rfl:i=p.methods.length:=by omega
     rw[List.drop_length,methodsN] at hmn;have hmn:=hmn.symm;refine Z7 ?_;rcases hv:(visit p false 13 ⟨p.main,0,1⟩ o).2 with _ | o1
     ·have hno:sizesP p=none:=szs_no5 hmn hv;refine Z5 ?_;refine bC (.mk' rfl rfl rfl rfl rfl) ((ACall.weak (rWalk (next:=false) Yb 13 (⟨p.main,0,1⟩:Vis) o nb cap more H (by rfl) Yah YH hol) (λy H1 h=>by rw[walkQ,hv] at h;exact h) (λ_ _ h=>h)).b) ?_;rintro _ _ ⟨rfl,o2,rfl⟩;refine Z3 ?_;refine CW.cond rfl (λh8=>?_) (λh8=>?_)
      ·replace h8:=nm h8;refine Z8 ?_;refine Done.retR (rs:=[.tmp 2,.tmp 3]) (H':=H) rfl (.tmp rfl (.tmp rfl (.nil))) (.cons (AVle.nil 1) (.cons (.refl _) .nil)) Yd ?_;exact⟨Yao,rfl⟩
      ·cases h8
     ·have hol1:=visit_lenR (by rfl) hv;have hge1:=visit_outGe (by rfl) (by show (0:Int)<=0;omega) hv hge;refine Z5 ?_;refine bC (.mk' rfl rfl rfl rfl rfl) ((ACall.weak (rWalk (next:=false) Yb 13 (⟨p.main,0,1⟩:Vis) o nb cap more H (by rfl) Yah YH hol) (λy H1 h=>by rw[walkQ,hv] at h;exact h) (λ_ _ h=>h)).b) ?_;rintro _ _ ⟨rfl,rfl⟩;refine Z3 ?_;refine CW.cond rfl (λh9=>?_) (λh9=>?_)
      ·cases h9
      ·replace h9:=nm h9;refine Z9 ?_;refine lj (λm st=>∃i:Nat,st=⟨[(10,.i i),(5,.val (.slice (some ⟨nb,0,none⟩) p.nodes.length cap))],.blk nb 3 (o1.map AV.i++more)::H⟩/\m=p.nodes.length - i/\i<=p.nodes.length/\∀y∈o1.take i,0<=y) (⟨0,rfl,rfl,Yb,Yl⟩) ?_;rintro m _ ⟨i,rfl,rfl,hi,hpos⟩;refine Z5 ?_;refine oP (POp.lenV rfl rfl rfl) ?_;refine Z3 ?_;refine cd (λh10=>?_) λh10=>?_
       ·have hil:i<p.nodes.length:=by omega
        refine Z8 ?_;refine oP (POp.ixC rfl rfl rfl rfl rfl Yb) ?_;refine oP ((by first | exact POp.ld1 rfl rfl rfl rfl | (apply POp.ld1H rfl rfl rfl;(case hm=>repeat (first | exact .head _ | refine .tail _ ?_));(case hy=>exact cellM_get Yb)))) ?_;refine Z3 ?_;refine cd (λh11=>?_) λh11=>?_
        ·have hm1:o1.getD i default= -1:=by have:=hge1 _ (getD_memB (l:=o1) (k:=i) Yb);rw[Int.toNat_natCast] at h11;omega
         have hno:sizesP p=none:=szs_no6 hmn hv (by rw[<-hm1];exact List.contains_iff_mem.2 (getD_memB Yb));refine Z12 ?_;refine Done.retR (rs:=[.tmp 2,.tmp 3]) (H':=H) rfl (.tmp rfl (.tmp rfl (.nil))) (.cons (AVle.nil 1) (.cons (.refl _) .nil)) Yd ?_;exact⟨Yao,rfl⟩
        ·refine Z8 ?_;exact ag (⟨i+1,rfl,rfl,hil,λy hy=>by rw[<-take_getD Yb,List.mem_append,List.mem_singleton] at hy;rw[Int.toNat_natCast] at h11;rcases hy with hy | rfl;exact hpos y hy;omega⟩)
       ·obtain rfl:i=p.nodes.length:=by omega
        rw[<-hol, <-hol1,List.take_length] at hpos;have hyes:sizesP p=some o1:=szs_yes hcl hhd ha hmn hv (by rw[List.contains_eq_mem,decide_eq_false_iff_not];intro h;have:=hpos _ h;omega);refine Z6 ?_;refine CW.eqH (H':=.blk nb 3 ((o1.map λn=>[AV.i n]).flatten++more)::H) (by rw[ints_flatR]) ?_;refine CW.freezeS (k:=1) (d:=5) rfl (.head _ _) YF (λe he=>by obtain⟨y,_,rfl⟩:=List.mem_map.1 he;rfl) e2 e3 ?_;refine Z7 ?_;refine rR [.tmp 2,.tmp 3] (H) ?_;exact⟨by rw[hyes];rfl,rfl⟩
theorem rProg(hp:p.Small):PCall Tryz.prog 37 [AV.prog p] (.b (sizesP p).isSome):=by
 intro H;refine aC (n:=11) Tryz.func37 λB I w0=>?_;refine Z9 ?_;refine oP (POp.call .k (rLook hp)) ?_;refine Z14 ?_;refine r1 2 (H) ?_;exact⟨by rfl,rfl⟩
theorem thing_eqR(hz:(sizesP p).isSome=true)(n:Int)(t:Th):thingP p n t=thingQ (worldOf p) n t:=by
 obtain⟨o,ho⟩:=Option.isSome_iff_exists.1 hz;have hH:=Heads.of (sizes_parts ho).1;unfold thingP thingQ ownC ownP;rw[hz,Bool.and_true,world_pl];by_cases h:3<=t.cls/\t.cls<3+p.classes.length
 ·rw[has_slots hH h.1 h.2]
 ·have e:(decide (3<=t.cls) && decide (t.cls<3+(p.classes.length:Int)))=false:=by
   rw[<-Bool.not_eq_true,Bool.and_eq_true,decide_eq_true_eq,decide_eq_true_eq];exact h
  rw[e];rfl
theorem check_eqR(objs:List Th):(bif (sizesP p).isSome then objsR (worldOf p) objs else false)=checkP p objs:=by
 unfold checkP objsR;cases hz:(sizesP p).isSome with
 | false=>rfl
 | true=>
  rw[cond_true,Bool.true_and];congr 2;funext t;exact (thing_eqR hz _ t).symm
theorem heads_of(hz:(sizesP p).isSome=true):Heads p:=by
 obtain⟨o,ho⟩:=Option.isSome_iff_exists.1 hz;exact Heads.of (sizes_parts ho).1
theorem world_of(hp:p.Small)(hz:(sizesP p).isSome=true):PCall Tryz.prog 70 [AV.prog p] (AV.world (worldOf p)):=by
 have hH:=heads_of hz;have h10:=hH.cl;have hsl:=slotsA_mem _ _ hH.sl;exact rWorld p Yb (λc h=>⟨hp.parents c h,by have:=(hsl c h).1;omega⟩)
theorem rGood(hp:p.Small)(objs:List Th):PCall Tryz.prog 31 [AV.prog p,AV.ths objs] (.b (checkP p objs)):=by
 intro H;refine aC (n:=13) Tryz.func31 λB I w0=>?_;refine Z9 ?_;refine oP (POp.call .k (rProg hp)) ?_;refine Z2 ?_;refine OL.guardC rfl rfl rfl rfl rfl rfl (λhg=>POp.call (.mk' rfl rfl rfl rfl Yc) (world_of hp hg)) ?_;refine Z1 ?_;refine OL.guardC rfl rfl rfl rfl rfl rfl (λhg=>POp.call (.mk' rfl rfl rfl rfl Yc) (rObjs (heads_of hg).world objs)) ?_;refine Z5 ?_;refine r1 4 (H) ?_;exact⟨retB (check_eqR objs),rfl⟩
theorem speaksC:∀{f:Fact},smallA f=true->PCall Tryz.prog 131 [AV.fact f] (.i (speaksP f)):=λ{f}=>by
 refine Fact.ind1 (P:=λf=>smallA f=true->PCall Tryz.prog 131 [AV.fact f] (.i (speaksP f))) (λf ih hf=>speaks_step f hf λk hk=>ih k hk ((smallA_iff hf).2.2 k hk)) f
theorem factFormedC(W:Fc.FW)(f:Fact):PCall Tryz.prog 130 [AV.world W,AV.fact f] (.i (if worldP W && formedP W f then 0 else 2)):=by
 cases h:worldP W with
 | true=>simpa using factFormedT h f
 | false=>simpa using factFormedF h f
theorem sizes1(hp:p.Small)(ob:Nat)(H:List Ent):ACall Tryz.prog 121 [.ptr (progC p),.p ob 0] (.blk ob 23 [(.val (.slice none 0 0))]::H) (λ_ H'=>∃nb o,sizesP p=some o/\H'=outH ob nb p.nodes.length o++H) (λy H'=>y=unfA/\sizesP p=none/\∃v,H'= .blk ob 23 [.val v]::H):=by
 refine aC (n:=130) Tryz.func121 λB I w0=>?_;refine Z3 ?_;refine OL.bcall rfl rfl .k (classesC hp _).b ?_ ?_
 ·rintro y H1 ⟨hcl,rfl⟩;obtain⟨hc10,hcs⟩:=classes_small hcl;refine Z26 ?_;rcases bool_or (headP p) with hh | hh
  ·refine OL.rcallN rfl rfl (.mk' rfl rfl rfl rfl rfl) (needF (by simp only[Bool.cond_false_right];exact hh) _) unf_c ?_;intro a w s;exact outP (P:=Tryz.prog) (fn:=Tryz.f121) unf_c (.refl _) ⟨rfl,szs_no2 hh,_,rfl⟩ a w s
  ·refine OL.rcallS rfl rfl rfl (.mk' rfl rfl rfl rfl rfl) (needT (by simp only[Bool.cond_false_right];exact hh) _) ?_;have hh2:=hh;simp only[headP,Bool.and_eq_true,decide_eq_true_eq] at hh2;refine Z12 ?_;refine lj (λm st=>∃i:Nat,st=⟨[(36,.i i),(35,.i p.gens.length),(34,AV.ints p.gens),(0,.ptr (progC p)),(1,.p ob 0)],.blk ob 23 [(.val (.slice none 0 0))]::H⟩/\m=p.gens.length - i/\i<=p.gens.length/\(p.gens.take i).all genP=true) (⟨0,rfl,rfl,Yb,rfl⟩) ?_;rintro m _ ⟨i,rfl,rfl,hi,hga⟩;refine Z6 ?_;refine cd (λh0=>?_) λh0=>?_
   ·have hil:i<p.gens.length:=by omega
    refine Z18 ?_;rcases bool_or (genP (p.gens.getD i default)) with h1 | h1
    ·refine OL.rcallN rfl rfl (.mk' rfl rfl rfl rfl rfl) (needF Y3 _) unf_c ?_;intro a w s;exact outP (P:=Tryz.prog) (fn:=Tryz.f121) unf_c (.refl _) ⟨rfl,szs_no3 (all_noG hil h1),_,rfl⟩ a w s
    ·refine OL.rcallS rfl rfl rfl (.mk' rfl rfl rfl rfl rfl) (needT Y3 _) ?_;refine Z7 ?_;exact ag (⟨i+1,rfl,rfl,hil,by rw[<-take_getD hil,List.all_append,hga,List.all_cons,h1];rfl⟩)
   ·obtain rfl:i=p.gens.length:=by omega
    rw[List.take_length] at hga;refine Z7 ?_;refine OL.popC (x:=.sl 1 [[.i (-1)]]) rfl rfl rfl (POp.row rfl rfl Yk rfl rfl rfl rfl rfl rfl) ?_;refine Z3 ?_;refine bC .k (repeatI p.nodes.length Yb _).b ?_
    ·rintro _ _ ⟨nb,rfl,rfl⟩;refine Z4 ?_;refine CW.perm (H':=.blk ob 23 [(.val (.slice (some ⟨nb,0,none⟩) p.nodes.length p.nodes.length))]::.blk nb 3 (List.replicate p.nodes.length (.i (-1)))::H) (.swap _ _ _) ?_;refine CW.eqH (H':=outH ob nb p.nodes.length (out0 p)++H) (by rw[<-out0_map];rfl) ?_;refine Z8 ?_;refine oP (POp.call .k (worldB p Yb hcs)) ?_;refine OL.alC rfl rfl rfl rfl (λwb=>?_);refine Z5 ?_;refine CW.freezeP (d:=5) rfl Yo ?_;refine Z8 ?_;refine lj (λm st=>∃(i:Nat) (o:List Int),st=⟨[(59,.i i),(58,.i p.methods.length),(57,.sl 9 (p.methods.map mthA)),(5,.ptr (Wcells (worldOf p))),(4,(.fn (.func 125) [] [.ptr (progC p),.p ob 0])),(0,.ptr (progC p)),(1,.p ob 0)],outH ob nb p.nodes.length o++H⟩/\m=p.methods.length - i/\i<=p.methods.length/\methodsN p p.methods (out0 p)=methodsN p (p.methods.drop i) o/\o.length=p.nodes.length) (⟨0,out0 p,rfl,rfl,Yb,rfl,by simp[out0]⟩) ?_;rintro m _ ⟨i,o,rfl,rfl,hi,hmN,hol⟩;refine Z6 ?_;refine cd (λh1=>?_) λh1=>?_
     ·have hil:i<p.methods.length:=by omega
      obtain⟨M,hM⟩:∃M,M=(p.methods.getD i default):=⟨_,rfl⟩;refine Z8 ?_;refine OL.alC rfl rfl rfl rfl (λb1=>?_);refine Z4 ?_;rw[<-hM];refine CW.freezeP (d:=7) rfl Yo ?_;refine Z22 ?_;rcases bool_or (mth1 p M) with h1 | h1
      ·refine OL.rcallN rfl rfl (.mk' rfl rfl rfl rfl rfl) (needF Y3 _) unf_c ?_;intro a w s;exact outP (P:=Tryz.prog) (fn:=Tryz.f121) unf_c (.cons_cons _ (.cons _ (.refl _))) ⟨rfl,szs_no4 (by rw[hmN];exact mths_no hil hM (by rw[h1];rfl)),_,rfl⟩ a w s
      ·refine OL.rcallS rfl rfl rfl (.mk' rfl rfl rfl rfl rfl) (needT Y3 _) ?_;have hm1:=h1;simp only[mth1,Bool.and_eq_true,decide_eq_true_eq] at hm1;have hgm:M.gen.toNat<p.gens.length:=by omega
       have hgn:=gens_in hga (getD_memB hgm);refine Z3 ?_;refine CW.dp mixed ?_;refine DP.anyC 0 3 130 rfl Yf rfl rfl Yf ?_;refine Z5 ?_;refine oP (POp.call .k (factFormedC (worldOf p) M.fact)) ?_;refine Z10 ?_;refine DP.anyC 6 15 130 rfl Yf rfl rfl Yf ?_;refine Z2 ?_;refine AD.guardC rfl rfl rfl rfl rfl (λhg=>POp.call (.mk' rfl rfl rfl rfl Yc) (speaksC (formed_smallA (w:=worldOf p) (by have:=zero_of_if hg;rw[Bool.and_eq_true] at this;exact this.2)))) ?_;refine Z4 ?_;refine AD.guardC rfl rfl rfl rfl rfl (λhg=>(by first | exact POp.ixM rfl rfl (gd hg) rfl (gd hg) ⟨Yb,Yb⟩ | exact POp.ixI rfl rfl (gd hg) rfl (gd hg) ⟨Yb,Yb⟩)) ?_;refine Z5 ?_;rcases bool_or (mth2 p M) with h2 | h2
       ·refine OL.rcallN rfl rfl (.mk' rfl rfl rfl rfl rfl) (needF (by rw[Bool.cond_false_right,if_zero];exact h2) _) unf_c ?_;intro a w s;exact outP (P:=Tryz.prog) (fn:=Tryz.f121) unf_c (.cons_cons _ (.cons _ (.refl _))) ⟨rfl,szs_no4 (by rw[hmN];exact mths_no hil hM (by rw[h2,Bool.and_false])),_,rfl⟩ a w s
       ·refine OL.rcallS rfl rfl rfl (.mk' rfl rfl rfl rfl rfl) (needT (by rw[Bool.cond_false_right,if_zero];exact h2) _) ?_;refine Z2 ?_;refine CW.dp mixed ?_;refine DP.anyC 0 17 130 rfl Yf rfl rfl Yf ?_;refine Z7 ?_;refine AD.popC rfl rfl rfl ((by first | exact POp.ixM rfl rfl rfl rfl rfl ⟨Yb,Yb⟩ | exact POp.ixI rfl rfl rfl rfl rfl ⟨Yb,Yb⟩)) ?_;refine Z11 ?_;have hnx:(bif (M.kind==1) then true else (M.kind==4))=nextM M:=by unfold nextM;rw[Bool.cond_true_left]
        refine OL.bcall rfl rfl .k (bodyS rfl M.node (p.gens.getD M.gen.toNat default) _ Yb o hol Yb ob nb H).b ?_ ?_
        ·rintro y H1 ⟨hv,rfl⟩;rw[hnx] at hv ⊢;have hgo:=visit_end (p:=p) (next:=nextM M) (x:=bodyV p M) rfl hv;refine Z7 ?_;exact ag (⟨i+1,outsV (visit p (nextM M) 13 (bodyV p M) o).1 o,rfl,rfl,hil,by rw[hmN,mths_go hil hM (by rw[h1,h2];rfl) hgo],by rw[outsV_len,hol]⟩)
        ·rintro y H1 ⟨rfl,hv,o1,rfl⟩ a w s I v hv2;rw[unf_c.is _ _ _ hv2];rw[hnx] at hv;exact outP (P:=Tryz.prog) (fn:=Tryz.f121) unf_c (.cons_cons _ (.cons _ (.refl _))) ⟨rfl,szs_no4 (by rw[hmN];exact mths_stop hil hM (Option.isNone_iff_eq_none.1 hv)),_,rfl⟩ a w s
     ·obtain rfl:i=p.methods.length:=by omega
      rw[List.drop_length] at hmN;replace hmN:methodsN p p.methods (out0 p)=some o:=hmN;refine Z10 ?_;refine OL.bcall rfl rfl .k (bodyS rfl p.main 0 false Yb o hol Yb ob nb H).b ?_ ?_
      ·rintro y H1 ⟨hv,rfl⟩;have hgo:=visit_end (p:=p) (next:=false) (x:=⟨p.main,0,1⟩) rfl hv;obtain⟨o2,ho2⟩:∃o2,o2=outsV (visit p false 13 ⟨p.main,0,1⟩ o).1 o:=⟨_,rfl⟩;rw[<-ho2] at hgo ⊢;have hol2:o2.length=p.nodes.length:=by rw[ho2,outsV_len,hol]
       refine Z4 ?_;refine oP (POp.callB .k (Borrow.outs (pre:=[]) (.tail _ (.head _)) hol2 Yb) (sContains o2 (-1))) ?_;refine Z1 ?_;rcases bool_or (o2.contains (-1)) with h3 | h3
       ·refine OL.rcallS rfl rfl rfl (.mk' rfl rfl rfl rfl rfl) (needT (by rw[h3];rfl) _) ?_;refine Z1 ?_;refine nR [] (outH ob nb p.nodes.length o2++H) ?_;exact⟨nb,o2,szs_yes hcl hh hga hmN hgo h3,rfl⟩
       ·refine OL.rcallN rfl rfl (.mk' rfl rfl rfl rfl rfl) (needF (by rw[h3];rfl) _) unf_c ?_;intro a w s;exact outP (P:=Tryz.prog) (fn:=Tryz.f121) unf_c (.cons_cons _ (.cons _ (.refl _))) ⟨rfl,szs_no6 hmN hgo h3,_,rfl⟩ a w s
      ·rintro y H1 ⟨rfl,hv,o1,rfl⟩ a w s I v hv2;rw[unf_c.is _ _ _ hv2];exact outP (P:=Tryz.prog) (fn:=Tryz.f121) unf_c (.cons_cons _ (.cons _ (.refl _))) ⟨rfl,szs_no5 hmN (Option.isNone_iff_eq_none.1 hv),_,rfl⟩ a w s
 ·rintro y H1 ⟨rfl,hcl,rfl⟩ a w s I v hv;rw[unf_c.is _ _ _ hv];exact outP (P:=Tryz.prog) (fn:=Tryz.f121) unf_c (.refl _) ⟨rfl,szs_no1 hcl,_,rfl⟩ a w s
theorem assert_unf(w:World):(Instr.typeAssert unfV 20 247 true).run Tryz.prog w= .ok (.tuple #[.agg #[],.bool true]) w:=by
 simp[Instr.typeAssert,run_underlying (show Tryz.prog.underlying 247=some (.struct #[]) by kernel_rfl)]
theorem catch_panicking(b:Nat)(x:Bool)(w:World)(hc:w.cell? ⟨b,0,none⟩=some (.bool x))(hz:w.frozen? ⟨b,0,none⟩=false)(hb:b<w.heap.size):
  CallsDIn (Eng.FW none) 0 Tryz.prog 192 #[.pointer (some ⟨b,0,none⟩)] (.panicking [{v:=unfV,recovered:=false}]) w λe u' w'=>
   e= .returned (.tuple #[])/\u'= .panicking [{v:=unfV,recovered:=true}]/\w'=(w.alloc (.cells #[] 247)).setCell ⟨b,0,none⟩ (.bool false):=by
 have hc2:(w.alloc (.cells #[] 247)).cell? ⟨b,0,none⟩=some (.bool x):=by rw[World.cell?_alloc_lt w _ ⟨b,0,none⟩ hb];exact hc
 have hz2:(w.alloc (.cells #[] 247)).frozen? ⟨b,0,none⟩=false:=by rw[World.frozen?_of_block (Go.RowKit.Below.heap_alloc w _ b hb)];exact hz
 refine callsDIn_of_wpSIn Tryz.func192 rfl trivial λc₀ cs hu=>?_;apply wpSIn_seq;apply wpSIn_region;have hta:=λw=>assert_unf w;simp[wpOpsSIn,go_sem,recoverD,hu,Tryz.ntmps192,Exit.thenS,Eng.FW,hta];apply wpSIn_seq;apply wpSIn_region;simp[wpOpsSIn,go_sem,Exit.thenS];refine wpSIn_cond (t:=true) (by simp[Act.eval,Array.replicate]) ?_;simp only[if_true];apply wpSIn_seq;apply wpSIn_seq;apply wpSIn_region;simp[wpOpsSIn,go_sem,Exit.thenS,hta];apply wpSIn_seq;apply wpSIn_region;simp[wpOpsSIn,go_sem,Exit.thenS];refine wpSIn_cond (t:=false) (by simp[Act.eval,Array.replicate]) ?_;simp only[Bool.false_eq_true,if_false];refine wpSIn_of_wpIn rfl (wpIn_skip ?_);simp only[Exit.thenS];apply wpSIn_region;simp[wpOpsSIn,go_sem,hc2,hz2,bodyPostS,results,Tryz.results192]
theorem catch_idle(b:Nat)(w:World):
  CallsDIn (Eng.FW none) 0 Tryz.prog 192 #[.pointer (some ⟨b,0,none⟩)] .returning w λe u' w'=>e= .returned (.tuple #[])/\u'= .returning/\w'=w:=by
 refine callsDIn_of_wpSIn Tryz.func192 rfl trivial λc₀ cs hu=>?_;apply wpSIn_seq;apply wpSIn_region;simp[wpOpsSIn,go_sem,recoverD,hu,Tryz.ntmps192,Exit.thenS,Eng.FW];apply wpSIn_seq;apply wpSIn_region;simp[wpOpsSIn,go_sem,Exit.thenS];refine wpSIn_cond (t:=false) (by simp[Act.eval,Array.replicate]) ?_;simp only[Bool.false_eq_true,if_false];refine wpSIn_of_wpIn rfl (wpIn_skip ?_);cases c₀;simp_all [bodyPostS,results,Tryz.results192]
def dfr(tb:Nat):Deferred:={target:=.fn (.func 192) #[.pointer (some ⟨tb,0,none⟩)],args:=#[]}
theorem leave_formed(hΦ:Φ (.b x) H)(hs:∃I,WOk B I w/\Ext B I0 w0 I w/\HeapOk B I w (.blk tb 4 [.b x]::H)/\EnvOk I w (envGet env) a)(ht:envGet env 2=some (.p tb 0)):
  LeavesIn (Eng.FW none) 0 Tryz.prog Tryz.f120 a.tmps (RetP B I0 w0 Φ E) [] .returning w:=by
 obtain⟨I,hw,he,hh,hv⟩:=hs;obtain⟨v,h1,h2⟩:=ResOk.res (P:=Tryz.prog) (c:=⟨B,I0,w0,0,[]⟩) (st:=⟨env,.blk tb 4 [.b x]::H⟩) hh hv (fn:=Tryz.f120) (rs:=[.cell 2 4]) rfl (.cell1 inferInstance ht (.head _) rfl .nil);exact⟨v,h1,I,H,hw,he,hh.tail,.inl ⟨v,_,rfl,h2,hΦ⟩⟩
theorem invoke_dfr(tb:Nat)(w:World):(invoke (.fn (.func 192) #[.pointer (some ⟨tb,0,none⟩)]) #[]).run Tryz.prog w= .ok (.enter 192 #[.pointer (some ⟨tb,0,none⟩)]) w:=by
 have:fnOk Tryz.prog 192=true:=by kernel_rfl
 have h:=run_callFunc this #[.pointer (some ⟨tb,0,none⟩)] w;simp[invoke]
theorem ret_formed{n:Nat}(hΦ:Φ (.b x) H)(s:Sat ⟨B,I0,w0,n,[dfr tb]⟩ ⟨env,.blk tb 4 [.b x]::H⟩ a w)(ht:envGet env 2=some (.p tb 0)):
  bodyPostDIn (Eng.FW none) 0 Tryz.prog Tryz.f120 (RetP B I0 w0 Φ E) .ret a w:=by
 show LeavesIn _ _ _ _ _ _ a.defers .returning w;rw[s.ds];refine leavesIn_cons (f:=192) (args:=#[.pointer (some ⟨tb,0,none⟩)]) Yl (by simp[Eng.FW]) (invoke_dfr tb w) (λ_ _=>trivial) ?_;refine (catch_idle tb w).mono ?_;rintro e u' w' ⟨rfl,rfl,rfl⟩;exact leave_formed hΦ s.mem ht
theorem pan_formed{n:Nat}(hΦ:Φ (.b false) H)(s:Sat ⟨B,I0,w0,n,[dfr tb]⟩ ⟨env,.blk tb 4 [.b x]::H⟩ a w)(ht:envGet env 2=some (.p tb 0)):
  bodyPostDIn (Eng.FW none) 0 Tryz.prog Tryz.f120 (RetP B I0 w0 Φ E) (.panic [{v:=unfV,recovered:=false}]) a w:=by
 show LeavesIn _ _ _ _ _ _ a.defers (.panicking [{v:=unfV,recovered:=false}]) w;rw[s.ds];obtain⟨I,hw,he,hh,hv⟩:=s.mem;obtain⟨hB,vs,hb,hr,hni⟩:=hh.ok _ (.head _);have hvs:vs= #[.bool x]:=by
  have h1:=rel_vals (vs:=[.bool x]) hr;exact Array.toList_inj.1 h1
 subst hvs;have hlt:tb<w.heap.size:=(Array.getElem?_eq_some_iff.1 hb).1;refine leavesIn_cons (f:=192) (args:=#[.pointer (some ⟨tb,0,none⟩)]) Yl (by simp[Eng.FW]) (invoke_dfr tb w) (λ_ _=>trivial) ?_;refine (catch_panicking tb x w (by rw[cell_of_blk hb];rfl) (by simp[World.frozen?,hb]) hlt).mono ?_;rintro e u' w' ⟨rfl,rfl,rfl⟩;have hw1:=hw.alloc (.cells #[] 247);have hh1:=hh.alloc hw (.cells #[] 247);have hb1:(w.alloc (.cells #[] 247)).heap[tb]? =some (.cells #[.bool x] 4 (0,0)):=by rw[Go.RowKit.Below.heap_alloc w _ tb hlt];exact hb
 have hk1:=keeps_alloc hw (.cells #[] 247);have he1:=he.trans (ext_alloc hw (.cells #[] 247));have hv1:=hv.keep hk1;generalize w.alloc (.cells #[] 247)=w1 at*;have hset:(w1.setCell ⟨tb,0,none⟩ (.bool false)).heap[tb]? =some (.cells #[.bool false] 4 (0,0)):=one_setCell hb1;have hcell:∀b i,I b i->(w1.setCell ⟨tb,0,none⟩ (.bool false)).cell? ⟨b,i,none⟩=w1.cell? ⟨b,i,none⟩:=λb i hI=>
  World.cell?_of_block (a:=⟨b,i,none⟩) (Go.RowKit.Below.heap_setCell _ _ _ _ (λe=>hni i (by rw[<-(show b=tb from e)];exact hI)))
 have hk2:Keeps I w1 I (w1.setCell ⟨tb,0,none⟩ (.bool false)):=⟨λ_ _ h=>h,hcell⟩;have hbel:=(Go.RowKit.Below.refl B w1).setCell (p:=⟨tb,0,none⟩) hB (.bool false);exact leave_formed (x:=false) (env:=env) hΦ ⟨I,⟨Nat.le_trans hw1.base hbel.size,λb i hI=>by rw[hcell b i hI];exact hw1.there b i hI⟩,he1.trans ⟨λ_ _ h=>h,hcell,hbel⟩,
  hh1.upd (.head _ _ _) hk2 (λb _ hne=>Go.RowKit.Below.heap_setCell _ _ _ _ (λe=>hne (by rw[show b=tb from e];rfl))) (λ_ _ h=>.inl h) ⟨hB,#[.bool false],hset,.cons _ _ _ _ (.val _) .nil,hni⟩ (λ_ h=>.inl h),hv1.keep hk2⟩ ht
theorem formedC{g:Fn}{gs gc:List AV}{A Bp:List Ent->Prop}(hdo:∀B Hy,VCall B Tryz.prog (.fn g gs gc) [] (H++Hy) (λ_ H'=>∃H1,H'=H1++Hy/\A H1) (λy H'=>y=unfA/\∃Hf,H'=Hf++Hy/\Bp Hf)):
  ACall Tryz.prog 120 [.fn g gs gc] H (λx H'=>(x= .b true/\A H')\/(x= .b false/\Bp H')) (λ_ _=>False):=by
 refine ACall.mkD (n:=6) Tryz.func120 rfl Ya rfl rfl (λB I w0=>?_);refine Z2 ?_;refine OL.alC rfl rfl rfl rfl (λtb=>?_);refine Z5 ?_;refine OL.deferC (vs:=[.pointer (some ⟨tb,0,none⟩)]) rfl rfl rfl rfl rfl rfl ?_;refine Z3 ?_;refine CW.perm (List.perm_append_singleton _ _).symm ?_;refine Z2 ?_;refine OL.vcall rfl rfl rfl rfl rfl rfl rfl (AVleL.refl _) (hdo B [.blk tb 4 [.b false]]) ?_ ?_
 ·rintro y _ ⟨H1,rfl,hA⟩;refine Z3 ?_;refine CW.perm (List.perm_append_singleton _ _) ?_;refine Z5 ?_;intro a w s;exact ret_formed (.inl ⟨rfl,hA⟩) s rfl
 ·rintro y H2 ⟨rfl,Hf,rfl,hB⟩ a w s I v hv;rw[unf_c.is _ _ _ hv];exact pan_formed (.inr ⟨rfl,hB⟩) (s.perm (List.perm_append_singleton _ _)) rfl
theorem sizesC(hp:p.Small)(H:List Ent):ACall Tryz.prog 75 [AV.prog p] H (λy H'=>H'=H/\((∃o,sizesP p=some o/\y= .tup [AV.ints o,.b true])\/(sizesP p=none/\∃v,y= .tup [.val v,.b false]))) (λ_ _=>False):=by
 refine aC (n:=10) Tryz.func75 λB I w0=>?_;refine Z9 ?_;refine OL.alC rfl rfl rfl rfl (λob=>?_);refine Z5 ?_;refine bC .k (formedC (H:=.blk ob 23 [.val (.slice none 0 0)]::H) (A:=λH1=>∃nb o,sizesP p=some o/\H1=outH ob nb p.nodes.length o++H) (Bp:=λHf=>sizesP p=none/\∃v,Hf= .blk ob 23 [.val v]::H)
  (λB Hy=>VCall.fn ((sizes1 hp ob (H++Hy)).imp (λy H'=>?_) (λy H'=>?_)))).b ?_
 ·rintro⟨nb,o,h1,rfl⟩;exact⟨outH ob nb p.nodes.length o++H,by rw[List.append_assoc],nb,o,h1,rfl⟩
 ·rintro⟨rfl,h1,v,rfl⟩;exact⟨rfl,.blk ob 23 [.val v]::H,rfl,h1,v,rfl⟩
 rintro y H1 (⟨rfl,nb,o,hs,rfl⟩ | ⟨rfl,hs,v,rfl⟩)
 ·have hol:=sizes_len hs;refine Z6 ?_
  first | (refine OL.eqH (H':=.blk ob 23 [(.val (.slice (some ⟨nb,0,none⟩) p.nodes.length p.nodes.length))]::.blk nb 3 ((o.map λn=>[AV.i n]).flatten++[])::H) (by rw[<-ints_flat];rfl) ?_;refine OL.freezeS (k:=1) (d:=8) rfl (.tail _ _ _ _ (.head _ _)) (by rw[List.length_map];exact hol.1) (λe he=>by obtain⟨y,_,rfl⟩:=List.mem_map.1 he;rfl) (Nat.le_refl _) Ys ?_) | skip
  refine Z6 ?_;refine rR [.tmp 2,.tmp 3] (H) ?_;exact⟨rfl,.inl ⟨o,hs,rfl⟩⟩
 ·refine Z6 ?_
  first | (refine OL.eqH (H':=.blk ob 23 [(.val (.slice (some ⟨nb,0,none⟩) p.nodes.length p.nodes.length))]::.blk nb 3 ((o.map λn=>[AV.i n]).flatten++[])::H) (by rw[<-ints_flat];rfl) ?_;refine OL.freezeS (k:=1) (d:=8) rfl (.tail _ _ _ _ (.head _ _)) (by rw[List.length_map];exact hol.1) (λe he=>by obtain⟨y,_,rfl⟩:=List.mem_map.1 he;rfl) (Nat.le_refl _) Ys ?_) | skip
  refine Z6 ?_;refine rR [.tmp 2,.tmp 3] (H) ?_;exact⟨rfl,.inr ⟨hs,v,rfl⟩⟩
theorem checkB(hp:p.Small):PCall Tryz.prog 39 [AV.prog p] (.i (if(sizesP p).isSome then 0 else 2)):=by
 intro H;refine aC (n:=12) Tryz.func39 λB I w0=>?_;refine Z10 ?_;refine bC .k (sizesC hp H).b ?_;rintro y H1 ⟨e,⟨o,hs,rfl⟩ | ⟨hs,v,rfl⟩⟩
 ·replace e:=e.symm;subst e;refine Z13 ?_;refine CW.cond rfl (λh0=>?_) (λh0=>?_)
  ·simp at h0
  ·replace h0:=nm h0;refine Z8 ?_;refine r1 2 (H) ?_;exact⟨by rw[hs];rfl,rfl⟩
 ·replace e:=e.symm;subst e;refine Z13 ?_;refine CW.cond rfl (λh1=>?_) (λh1=>?_)
  ·replace h1:=nm h1;refine Z7 ?_;refine r1 2 (H) ?_;exact⟨by rw[hs];rfl,rfl⟩
  ·simp at h1
theorem ownB(hp:p.Small)(c:Int):PCall Tryz.prog 76 [AV.prog p,.i c] (.b (ownC p c)):=by
 intro H;refine aC (n:=20) Tryz.func76 λB I w0=>?_;have hpc:=hp.classes;refine Z20 ?_;refine OL.guardC rfl rfl rfl rfl rfl rfl (λhg=>POp.call (.mk' rfl rfl rfl rfl Yc) ((checkB hp))) ?_;refine Z6 ?_;refine r1 4 (H) ?_;exact⟨retB (by unfold ownC;rw[Bool.cond_false_right,Bool.cond_false_right,if_zero]),rfl⟩
theorem hasB(hp:p.Small)(c:Int):PCall Tryz.prog 40 [AV.prog p,.i c] (.tup [AV.ints (if ownC p c then hasP p c else []),.i (if ownC p c then 0 else 2)]):=by
 intro H;refine aC (n:=13) Tryz.func40 λB I w0=>?_;refine Z12 ?_;refine oP (POp.call .k ((ownB hp _))) ?_;refine Z3 ?_;refine cd (λh0=>?_) λh0=>?_
 ·refine Z8 ?_;refine Done.retR (rs:=[.tmp 4,.tmp 5]) (H':=H) rfl (.tmp rfl (.tmp rfl (.nil))) (.cons (AVle.nil 1) (.cons (.refl _) .nil)) Yd ?_;exact⟨by rw[show ownC p c=false by simpa using h0];rfl,rfl⟩
 ·refine Z3 ?_;have ho:ownC p c=true:=by simpa using h0
  obtain⟨hc3,hcl⟩:=own_parts ho;obtain⟨hc10,hcs⟩:=classes_small hcl
  ·refine Z3 ?_;refine oP (POp.call .k (hasC p Yb (λc h=>(hcs c h).2) (classes_keys hcl) (k:=c) YL Yb)) ?_;refine Z5 ?_;refine rR [.tmp 4,.tmp 5] (H) ?_;exact⟨by rw[ho];rfl,rfl⟩
theorem valueC(x:Int×Int)(n:Int):PCall Tryz.prog 80 [AV.mv x,.i n] (.b (valueP n x)):=by
 intro H;refine aC (n:=33) Tryz.func80 λB I w0=>?_;refine Z20 ?_;refine cd (λh0=>?_) λh0=>?_
 ·refine Z16 ?_;refine r1 4 (H) ?_;exact⟨retB Yai,rfl⟩
 ·refine Z6 ?_;refine cd (λh1=>?_) λh1=>?_
  ·refine Z11 ?_;refine r1 4 (H) ?_;exact⟨retB Yai,rfl⟩
  ·refine Z6 ?_;refine cd (λh2=>?_) λh2=>?_
   ·refine Z17 ?_;refine r1 4 (H) ?_;exact⟨retB Yai,rfl⟩
   ·refine Z9 ?_;refine r1 4 (H) ?_;exact⟨retB Yai,rfl⟩
theorem values1(n:Int)(x:Int×Int):PCall Tryz.prog 79 [AV.mv x,.ptr [.i n]] (.b (!valueP n x)):=by
 intro H;refine aC (n:=8) Tryz.func79 λB I w0=>?_;refine Z10 ?_;refine oP (POp.call .k (valueC x n)) ?_;refine Z5 ?_;refine r1 3 (H) ?_;exact⟨Yy,rfl⟩
theorem idxMV{f:Fn}(hg:PredOk Tryz.prog (.fn f fs cs) AV.mv q)(l:List (Int×Int)):PCall Tryz.prog 134 [AV.mvs l,.fn f fs cs] (.i (idxG l q)):=by
 intro H;refine aC (n:=19) Tryz.func134 λB I w0=>?_;refine CW.boundM (t:=0) rfl (λhb0=>?_);refine Z14 ?_;refine lj (λm st=>∃k:Nat,st=⟨[(8,.i k),(7,.i l.length),(0,AV.mvs l),(1,.fn f fs cs)],H⟩/\m=l.length - k/\k<=l.length/\∀x∈l.take k,q x=false) (⟨0,rfl,rfl,Yl,Yl⟩) ?_;rintro m _ ⟨k,rfl,rfl,hk,hp⟩;refine Z6 ?_;refine cd (λh0=>?_) λh0=>?_
 ·have hkl:k<l.length:=by omega
  refine Z17 ?_;refine OL.vcallC rfl rfl rfl rfl rfl rfl rfl rfl (AVleL.refl _) (hg B _ _) ?_;rintro _ H1 ⟨rfl,e⟩;replace e:=e.symm;subst e;refine Z2 ?_;refine cd (λh1=>?_) λh1=>?_
  ·refine Z12 ?_;refine r1 4 (H) ?_;exact⟨retI (idxG_at hkl hp h1),rfl⟩
  ·refine Z7 ?_;exact ag (⟨k+1,rfl,rfl,hkl,λx hx=>by rw[<-take_getD hkl,List.mem_append,List.mem_singleton] at hx;rcases hx with hx | rfl;exact hp x hx;exact h1⟩)
 ·refine Z11 ?_;refine r1 4 (H) ?_;exact⟨retI (idxG_none (by have e:k=l.length:=Yb;rw[e,List.take_length] at hp;exact hp)),rfl⟩
theorem hasMV{f:Fn}(hg:PredOk Tryz.prog (.fn f fs cs) AV.mv q)(l:List (Int×Int)):PCall Tryz.prog 78 [AV.mvs l,.fn f fs cs] (.b (l.any q)):=by
 intro H;refine aC (n:=9) Tryz.func78 λB I w0=>?_;refine Z9 ?_;refine oP (POp.call .k (idxMV hg l)) ?_;refine Z5 ?_;refine r1 4 (H) ?_;exact⟨retB (idxG_any _ _),rfl⟩
theorem valuesC(l:List (Int×Int))(n:Int):PCall Tryz.prog 41 [AV.mvs l,.i n] (.b (l.all (valueP n))):=by
 intro H;refine aC (n:=9) Tryz.func41 λB I w0=>?_;refine Z10 ?_;refine oP (POp.call .k (hasMV (.of (values1 n)) l)) ?_;refine Z5 ?_;refine r1 4 (H) ?_;exact⟨retB (all_valueP n l),rfl⟩
theorem meanCheck(hp:p.Small)(objs:List Th):PCall Tryz.prog 13 [AV.prog p,AV.ths objs] (.i (if checkP p objs then 0 else 2)):=by
 intro H;refine aC (n:=49) Tryz.func13 λB I w0=>?_;refine CW.boundM (t:=1) rfl (λhb1=>?_);refine Z10 ?_;refine oP (POp.call .k (checkB hp)) ?_;refine Z8 ?_;refine cd (λh0=>?_) λh0=>?_
 ·have hno:checkP p objs=false:=by
   unfold checkP;cases hs:(sizesP p).isSome with
   | false=>rfl
   | true=>rw[hs] at h0;simp at h0;rw[show decide (objs.length<=40)=false by simp;omega];rfl
  refine Z7 ?_;refine r1 4 (H) ?_;exact⟨Yao,rfl⟩
 ·have hs:(sizesP p).isSome=true/\objs.length<=40:=by
   cases hs:(sizesP p).isSome with
   | false=>rw[hs] at h0;simp at h0
   | true=>rw[hs] at h0;simp at h0;exact⟨rfl,Yb⟩
  refine Z11 ?_;refine lj (λm st=>∃i:Nat,st=⟨[(19,.i i),(18,.i objs.length),(17,AV.ths objs),(2,.ptr (progC p)),(1,AV.ths objs)],H⟩/\m=objs.length - i/\i<=objs.length/\(objs.take i).all (thingP p objs.length)=true) (⟨0,rfl,rfl,Yb,rfl⟩) ?_;rintro m _ ⟨i,rfl,rfl,hi,hA⟩;refine Z6 ?_;refine cd (λh1=>?_) λh1=>?_
  ·have hil:i<objs.length:=by omega
   obtain⟨T,hT⟩:∃T,T=objs.getD i default:=⟨_,rfl⟩;refine Z8 ?_;refine OL.alC rfl rfl rfl rfl (λb0=>?_);refine Z4 ?_;rw[<-hT];refine Z4 ?_;refine oP (POp.call .k (hasB hp T.cls)) ?_;refine Z8 ?_;refine CW.freezeP (d:=6) rfl Yo ?_;refine Z16 ?_;refine OL.guardC rfl rfl rfl rfl rfl rfl (λhg=>POp.call (.mk' rfl rfl rfl rfl Yc) (valuesC T.slots objs.length)) ?_;refine Z4 ?_;have hth:thingP p objs.length T= !(bif bif (if ownC p T.cls then (0:Int) else 2) !=0 then true else ((if ownC p T.cls then hasP p T.cls else []).length:Int) !=(T.slots.length:Int) then true else !T.slots.all (valueP objs.length)):=thing_eq p _ T;refine CW.cond rfl (λh2=>?_) (λh2=>?_)
   ·rw[h2] at hth;refine Z11 ?_;refine r1 4 (H) ?_;exact⟨by rw[chk_no hil (by rw[<-hT,hth];rfl)];rfl,rfl⟩
   ·rw[h2] at hth;refine Z7 ?_;exact ag (⟨i+1,rfl,rfl,hil,chk_step hil hA (by rw[<-hT,hth];rfl)⟩)
  ·obtain rfl:i=objs.length:=by omega
   rw[List.take_length] at hA;refine Z11 ?_;refine r1 4 (H) ?_;exact⟨by unfold checkP;rw[hs.1,decide_eq_true hs.2,hA];rfl,rfl⟩
theorem rCheck(hp:p.Small)(objs:List Th):PCall Tryz.prog 14 [AV.prog p,AV.ths objs] (.i (if checkP p objs then 0 else 2)):=by
 intro H;refine aC (n:=9) Tryz.func14 λB I w0=>?_;refine CW.seq ?_;refine CW.region ?_;refine Z2 ?_;refine OL.nil ?_;refine Done.seq ?_;refine CW.seq ?_;refine CW.seq ?_;refine CW.region ?_;refine Z2 ?_;refine oP (POp.call .k (rGood hp objs)) ?_;refine Z1 ?_;refine OL.nil ?_;refine Done.seq ?_;refine CW.cond rfl (λh0=>?_) (λh0=>?_)
 ·try simp only[decide_eq_true_eq,decide_eq_false_iff_not,beq_iff_eq,bne_iff_ne,ne_eq,Int.not_lt,Int.not_le,beq_eq_false_iff_ne,gt_iff_lt,ge_iff_le,Bool.not_eq_true,Bool.not_eq_false,Bool.not_eq_false',bne_eq_false_iff_eq] at h0
  refine CW.seq ?_;refine CW.region ?_;refine Z1 ?_;refine OL.nil ?_;refine Done.seq ?_;refine CW.ret ?_;refine Done.thenRet ?_;refine rR [.tmp 4] (H) ?_;exact⟨Yy,rfl⟩
 ·try simp only[decide_eq_true_eq,decide_eq_false_iff_not,beq_iff_eq,bne_iff_ne,ne_eq,Int.not_lt,Int.not_le,beq_eq_false_iff_ne,gt_iff_lt,ge_iff_le,Bool.not_eq_true,Bool.not_eq_false,Bool.not_eq_false',bne_eq_false_iff_eq] at h0
  refine CW.skip ?_;refine Done.seq ?_;refine CW.seq ?_;refine CW.region ?_;refine Z1 ?_;refine OL.nil ?_;refine Done.seq ?_;refine CW.ret ?_;refine rR [.tmp 4] (H) ?_;exact⟨Yy,rfl⟩
theorem checksC(hk:PCall Tryz.prog 15 [] (.b true)){p:Prog}(hp:p.Small)(objs:List Th):PCall Tryz.prog 3 [AV.prog p,AV.ths objs] (.b true):=by
 intro H;refine aC (n:=15) Tryz.func3 λB I w0=>?_;refine CW.seq ?_;refine CW.region ?_;refine Z2 ?_;refine OL.nil ?_;refine Done.seq ?_;refine CW.seq ?_;refine CW.dp mixed ?_;refine DP.anyC 0 5 15 rfl Yf rfl rfl Yf ?_;refine Z2 ?_;refine AD.popC rfl rfl rfl (POp.call .k (meanCheck hp objs)) ?_;refine Z4 ?_;refine oP (POp.call .k (rCheck hp objs)) ?_;refine Z2 ?_;refine OL.guardC rfl rfl rfl rfl rfl rfl (λhg=>POp.call .k (hk)) ?_;refine Z2 ?_;refine OL.nil ?_;refine Done.seq ?_;refine CW.ret ?_;refine rR [.tmp 4] (H) ?_;exact⟨retB Yl,rfl⟩
end Go.Proofs.YtkifepjiiokfpaaGreat
