/- Part 10 of the proof: contracts of functions of the program and what they need. No condition beyond those that each theorem names. -/
import Derived.Test.YtpgnjlngepfanaaGreatImageReadsP9
import Derived.Tactics
import Derived.Tactics2
import Derived.Laws.Pointers
import Derived.TacticsInMore
import Derived.RegionIn
import Derived.RecoverIn
set_option maxHeartbeats 1000000
set_option linter.unusedVariables false
set_option linter.unusedSimpArgs false
set_option maxRecDepth 10000
namespace Go.Proofs.YtpgnjlngepfanaaGreat
open Go.Eng
open Go.Eng.Fc
open Go.Eng.Bd
variable{o out:List Int}{more fs cs:List AV}{i:Int}{next:Bool}{f B tb:Nat}{x:Vis}{H:List Ent}{I0:Imm}{w0 w:World}{env:List (Nat×AV)}{a:Act}{Φ E:AV->List Ent->Prop}{q:Int×Int->Bool}
theorem cellM_get(h:0<=i/\i<o.length):(o.map AV.i++more)[0+i.toNat*1]? =some (.i (o.getD i.toNat default)):=by
 rw[Nat.zero_add,Nat.mul_one,List.getElem?_append_left Yab,List.getElem?_map,List.getD_eq_getElem?_getD,List.getElem?_eq_getElem Yd];rfl
theorem cellM_fit(h:0<=i/\i<o.length):Nat.ble (0+i.toNat*1+1) (o.map AV.i++more).length=true:=by
 rw[Nat.ble_eq,List.length_append,List.length_map];omega
theorem cellM_set{i v:Int}(h:0<=i/\i<o.length):(o.map AV.i++more).take (0+i.toNat*1)++[AV.i v]++(o.map AV.i++more).drop (0+i.toNat*1+1)=(o.set i.toNat v).map AV.i++more:=by
 rw[Nat.zero_add,Nat.mul_one,List.take_append_of_le_length Yab,List.drop_append_of_le_length Yab,List.map_set,List.set_eq_take_append_cons_drop,if_pos Yab];simp
theorem visit_lenR{p:Prog}(hd:x.dp+f=14)(h:(visit p next f x out).2=some o):o.length=out.length:=by
 rw[(visit_vp (p:=p) (next:=next) f x out hd).end_ o h,outsV_len]
def walkQ(p:Prog)(next:Bool)(f:Nat)(x:Vis)(out:List Int)(nb:Nat)(more:List AV)(H:List Ent)(y:AV)(H':List Ent):Prop:=match (visit p next f x out).2 with
 | some o=>y= .b true/\H'= .blk nb 3 (o.map AV.i++more)::H
 | none=>y= .b false/\∃o':List Int,H'= .blk nb 3 (o'.map AV.i++more)::H
theorem walkQ_no{p:Prog}{nb:Nat}(h:(visit p next f x out).2=none)(o':List Int):walkQ p next f x out nb more H (.b false) (.blk nb 3 (o'.map AV.i++more)::H):=by
 unfold walkQ;rw[h];exact⟨rfl,o',rfl⟩
theorem walkQ_yes{p:Prog}{nb:Nat}(h:(visit p next f x out).2=some o):walkQ p next f x out nb more H (.b true) (.blk nb 3 (o.map AV.i++more)::H):=by
 unfold walkQ;rw[h];exact⟨rfl,rfl⟩
theorem place_bif(p:Prog)(x:Vis)(out:List Int):(bif bif bif decide (x.n<0) then true else decide (x.n>=p.nodes.length) then true else decide (out.getD x.n.toNat default>=0) then true else decide (x.dp>12))= !placeOk p x out:=by
 unfold placeOk;simp only[Bool.cond_true_left];rw[Bool.eq_iff_iff];simp only[Bool.or_eq_true,decide_eq_true_eq,Bool.not_eq_true', <-Bool.not_eq_true,Bool.and_eq_true];omega
theorem rWalk_step{p:Prog}(hs:p.classes.length<=4000000){next:Bool}{f:Nat}(ih:∀f',f=f'+1->∀(x:Vis) (out:List Int) (nb cap:Nat) (more:List AV) (H:List Ent),x.dp+f'=14->1<=x.dp->-1000<=x.sz/\x.sz<=1000+x.dp->out.length=p.nodes.length->
  ACall Tryz.prog 216 [AV.prog p,.i x.n,.i x.sz,.i x.dp,.b next,.val (.slice (some ⟨nb,0,none⟩) p.nodes.length cap)] (.blk nb 3 (out.map AV.i++more)::H) (walkQ p next f' x out nb more H) (λ_ _=>False))
  (x:Vis) (out:List Int) (nb cap:Nat) (more:List AV) (H:List Ent) (hd:x.dp+f=14) (hd1:1<=x.dp) (hsz: -1000<=x.sz/\x.sz<=1000+x.dp) (ho:out.length=p.nodes.length):
  ACall Tryz.prog 216 [AV.prog p,.i x.n,.i x.sz,.i x.dp,.b next,.val (.slice (some ⟨nb,0,none⟩) p.nodes.length cap)] (.blk nb 3 (out.map AV.i++more)::H) (walkQ p next f x out nb more H) (λ_ _=>False):=by
 refine aC (n:=98) Tryz.func216 λB I w0=>?_;refine Z21 ?_;refine OL.guardC rfl rfl rfl rfl rfl rfl (λhg=>POp.ixC rfl rfl (gd hg) rfl (gd hg) YQ) ?_;refine OL.guardC rfl rfl rfl rfl rfl rfl (λhg=>(by first | exact POp.ld1 rfl rfl (gd hg) rfl | (apply POp.ld1H rfl rfl (gd hg);(case hm=>repeat (first | exact .head _ | refine .tail _ ?_));(case hy=>exact cellM_get YQ)))) ?_;refine Z8 ?_;refine CW.cond rfl (λh0=>?_) (λh0=>?_)
 ·rw[place_bif,Bool.not_eq_true'] at h0;have hno:okV p next x out=false:=by unfold okV;rw[h0];rfl
  refine Z7 ?_;refine r1 12 (.blk nb 3 (out.map AV.i++more)::H) ?_;exact walkQ_no (by rw[visit_no hno]) out
 ·rw[place_bif,Bool.not_eq_false'] at h0;obtain⟨hp0,hp1⟩:=placeOk_in h0;refine Z7 ?_;refine oP (POp.ixC rfl rfl rfl rfl rfl Yd) ?_;apply OL.stoC rfl rfl rfl rfl rfl rfl rfl rfl rfl rfl
  (case hu=>repeat (first | exact Upd.head _ _ _ | apply Upd.tail));(case hfit=>exact cellM_fit Yd);(case hds=>exact cellM_set Yd)
  refine Z7 ?_;refine oP (YY) ?_;refine Z1 ?_;refine OL.alC rfl rfl rfl rfl (λkb=>?_);refine Z5 ?_;obtain⟨K,hK⟩:∃K,K=ndOf p x:=⟨_,rfl⟩;rw[show p.nodes.getD x.n.toNat default=K from hK.symm];refine CW.freezeP (d:=13) rfl Yl ?_;refine CW.dp mixed ?_;refine DP.anyC 0 6 98 rfl Ye rfl rfl Ye ?_;refine Z5 ?_;refine AD.popC rfl rfl rfl (POp.call .k (rKids p K)) ?_;refine Z9 ?_;refine DP.anyC 8 11 98 rfl Ye rfl rfl Ye ?_;refine Z5 ?_;refine OL.guardC rfl rfl rfl rfl rfl rfl (λhg=>POp.call (.mk' rfl rfl rfl rfl Yc) (rNumber p hs K x.sz)) ?_;refine Z13 ?_;refine CW.cond rfl (λh1=>?_) (λh1=>?_)
  ·rw[kids_eq,Bool.not_eq_true'] at h1;have hno:okV p next x out=false:=by unfold okV;rw[h0, <-hK,h1];rfl
   refine Z7 ?_;refine r1 12 (.blk nb 3 ((out.set x.n.toNat x.sz).map AV.i++more)::H) ?_;exact walkQ_no (by rw[visit_no hno]) _
  ·rw[kids_eq,Bool.not_eq_false'] at h1;have hok:okV p next x out=true:=by unfold okV;rw[h0, <-hK,h1];rfl
   obtain⟨f',rfl⟩:∃f',f=f'+1:=⟨f - 1,by have h9:=h0;simp only[placeOk,Bool.and_eq_true,decide_eq_true_eq] at h9;omega⟩;have hvy:=visit_yes (f:=f') hok;rw[<-hK] at hvy;have hp12:x.dp<=12:=by have h9:=h0;simp only[placeOk,Bool.and_eq_true,decide_eq_true_eq] at h9;omega
   refine CW.boundM (t:=46) rfl (λhbk=>?_);refine Z9 ?_;refine lj (λm st=>∃(i:Nat) (l:List Vis) (o:List Int),st=⟨[(14,.i i),(13,.ptr (ndA K)),(6,.ptr (progC p)),(2,.i x.sz),(3,.i x.dp),(4,.b next),(5,.val (.slice (some ⟨nb,0,none⟩) p.nodes.length cap))],.blk nb 3 (o.map AV.i++more)::H⟩/\m=K.kids.length - i/\i<=K.kids.length/\visitsW (visit p next f') ((kidsV x K.op 0 K.kids).take i) (setV out x)=(l,some o)/\o.length=p.nodes.length) (⟨0,[],setV out x,rfl,rfl,Yd,rfl,by rw[setV,List.length_set];exact ho⟩) ?_;rintro m _ ⟨i,l,o,rfl,rfl,hi,hvs,hol⟩;refine Z10 ?_;refine cd (λh2=>?_) λh2=>?_
   ·have hil:i<K.kids.length:=by omega
    obtain⟨R,hR,hR1,hR2⟩:=kid_step (visit_ne (p:=p) (next:=next) f') (kidsV_get x K.op hil) hvs;refine Z10 ?_;refine CW.cutJ (λst=>st=⟨[(15,.i (kidV x K.op i (K.kids.getD i default)).sz),(14,.i i),(13,.ptr (ndA K)),(6,.ptr (progC p)),(2,.i x.sz),(3,.i x.dp),(4,.b next),(5,.val (.slice (some ⟨nb,0,none⟩) p.nodes.length cap))],.blk nb 3 (o.map AV.i++more)::H⟩) ?_ ?_
    ·refine Z11 ?_;refine CW.cond rfl (λh3=>?_) (λh3=>?_)
     ·have hif:K.op=9/\i=1:=by simp only[Bool.cond_false_right,Bool.and_eq_true,beq_iff_eq] at h3;omega
      refine Z5 ?_;refine Done.le 15 (y:=.i (kidV x K.op i (K.kids.getD i default)).sz) rfl (AVle.eqI (by simp only[kidV];rw[if_pos hif])) ?_;exact cj rfl
     ·have hif: ¬(K.op=9/\i=1):=by simp only[Bool.cond_false_right,Bool.and_eq_false_iff,beq_eq_false_iff_ne] at h3;omega
      refine Z1 ?_;refine Done.le 15 (y:=.i (kidV x K.op i (K.kids.getD i default)).sz) rfl (AVle.eqI (by simp only[kidV];rw[if_neg hif])) ?_;exact cj rfl
    ·rintro _ rfl;refine Z1 ?_;rcases hv:(visit p next f' (kidV x K.op i (K.kids.getD i default)) o).2 with _ | o'
     ·have hn:=(hR1 hv).2;refine CW.dp mixed ?_;refine DP.anyC 0 11 98 rfl Ye rfl rfl Ye ?_;refine Z13 ?_;refine bC .k ((ACall.weak (ih f' rfl (kidV x K.op i (K.kids.getD i default)) o nb cap more H YaE YaE Ybi hol) (λy H1 h=>by rw[walkQ,hv] at h;exact h) (λ_ _ h=>h)).b) ?_;rintro _ _ ⟨rfl,o2,rfl⟩;refine Z3 ?_;refine CW.cond rfl (λh4=>?_) (λh4=>?_)
      ·replace h4:=nm h4;refine Z11 ?_;refine r1 12 (.blk nb 3 (o2.map AV.i++more)::H) ?_;exact walkQ_no (by rw[hvy];exact hn) o2
      ·cases h4
     ·have hs1:=(hR2 o' hv).1;have hol1:=visit_lenR YaE hv;refine CW.dp mixed ?_;refine DP.anyC 0 11 98 rfl Ye rfl rfl Ye ?_;refine Z13 ?_;refine bC .k ((ACall.weak (ih f' rfl (kidV x K.op i (K.kids.getD i default)) o nb cap more H YaE YaE Ybi hol) (λy H1 h=>by rw[walkQ,hv] at h;exact h) (λ_ _ h=>h)).b) ?_;rintro _ _ ⟨rfl,rfl⟩;refine Z3 ?_;refine CW.cond rfl (λh5=>?_) (λh5=>?_)
      ·cases h5
      ·replace h5:=nm h5;refine Z8 ?_;exact ag (⟨i+1,_,o',rfl,rfl,hil,hs1,Yd⟩)
   ·obtain rfl:i=K.kids.length:=by omega
    have hvs2:visitsW (visit p next f') (kidsV x K.op 0 K.kids) (setV out x)=(l,some o):=by rwa [List.take_of_length_le (by rw[kidsV_len];omega)] at hvs
    refine Z11 ?_;refine r1 12 (.blk nb 3 (o.map AV.i++more)::H) ?_;exact walkQ_yes (by rw[hvy,hvs2])
theorem rWalk{p:Prog}(hs:p.classes.length<=4000000){next:Bool}:∀(f:Nat) (x:Vis) (out:List Int) (nb cap:Nat) (more:List AV) (H:List Ent),x.dp+f=14->1<=x.dp->-1000<=x.sz/\x.sz<=1000+x.dp->out.length=p.nodes.length->
  ACall Tryz.prog 216 [AV.prog p,.i x.n,.i x.sz,.i x.dp,.b next,.val (.slice (some ⟨nb,0,none⟩) p.nodes.length cap)] (.blk nb 3 (out.map AV.i++more)::H) (walkQ p next f x out nb more H) (λ_ _=>False)
 | 0=>rWalk_step hs (λf' h=>by omega)
 | f+1=>rWalk_step hs (λf' h=>by(obtain rfl:f'=f:=by omega);exact rWalk hs f')
theorem visitsW_all{v:Vis->List Int->List Vis×Option (List Int)}{Q:Vis->Prop}:∀(l:List Vis) (o:List Int),(∀z∈l,∀o',∀y∈(v z o').1,Q y)->∀y∈(visitsW v l o).1,Q y
 | [],o,_,y,hy=>by simp[visitsW] at hy
 | z::r,o,h,y,hy=>by
  simp only[visitsW] at hy;rcases hv:v z o with⟨l1,_ | o1⟩
  ·rw[hv] at hy;exact h z (.head _) o y (by rw[hv];exact hy)
  ·rw[hv] at hy;rcases List.mem_append.1 hy with hy | hy
   ·exact h z (.head _) o y (by rw[hv];exact hy)
   ·exact visitsW_all r o1 (λw hw=>h w (.tail _ hw)) y hy
theorem kidsV_ge{x:Vis}{op:Int}(h:0<=x.sz):∀(i:Nat) (l:List Int),∀y∈kidsV x op i l,0<=y.sz
 | _,[],y,hy=>by cases hy
 | i,k::r,y,hy=>by
  rw[kidsV] at hy;rcases List.mem_cons.1 hy with rfl | hy
  ·simp only[kidV];split <;> omega
  ·exact kidsV_ge h (i+1) r y hy
theorem visit_ge{p:Prog}{next:Bool}:∀(f:Nat) (x:Vis) (out:List Int),0<=x.sz->∀y∈(visit p next f x out).1,0<=y.sz
 | 0,x,out,h,y,hy=>by rw[show (visit p next 0 x out).1= [x] from rfl,List.mem_singleton] at hy;rw[hy];exact h
 | f+1,x,out,h,y,hy=>by
  cases hk:okV p next x out with
  | false=>rw[visit_no hk,List.mem_singleton] at hy;rw[hy];exact h
  | true=>
   rw[visit_yes hk] at hy;rcases List.mem_cons.1 hy with rfl | hy
   ·exact h
   ·exact visitsW_all _ _ (λz hz o' y hy=>visit_ge f z o' (kidsV_ge h _ _ z hz) y hy) y hy
def OutGe(o:List Int):Prop:=∀y∈o,-1<=y
theorem outsV_ge:∀(L:List Vis) (o:List Int),(∀x∈L,0<=x.sz)->OutGe o->OutGe (outsV L o)
 | [],o,_,h=>h
 | x::r,o,hL,h=>outsV_ge r _ (λy hy=>hL y (.tail _ hy)) (λy hy=>by
  rcases List.mem_or_eq_of_mem_set hy with h1 | h1
  ·exact h y h1
  ·have:=hL x (.head _);omega)
theorem visit_outGe{p:Prog}{o o':List Int}(hd:x.dp=1)(hs:0<=x.sz)(h:(visit p next 13 x o).2=some o')(hg:OutGe o):OutGe o':=by
 rw[(visit_vp (p:=p) (next:=next) 13 x o Yd).end_ o' h];exact outsV_ge _ _ (visit_ge 13 x o hs) hg
theorem out0_ge(p:Prog):OutGe (out0 p):=λy hy=>by rw[(List.mem_replicate.1 hy).2];omega
theorem ints_flatR(l:List Int):(l.map λn=>[AV.i n]).flatten=l.map AV.i:=by
 induction l with
 | nil=>rfl
 | cons x r ih=>rw[List.map_cons,List.flatten_cons,ih];rfl
theorem meth_bif{p:Prog}{m:Mth}(hw:worldP (worldOf p)=true):(bif bif bif bif bif decide (m.kind<1) then true else decide (m.kind>4) then true else decide (m.gen<0) then true else decide (m.gen>=p.gens.length) then true else !formedP (worldOf p) m.fact then true else decide (speaksP m.fact>p.gens.getD m.gen.toNat default))= !(mth1 p m && mth2 p m):=by
 unfold mth1 mth2;rw[hw];simp only[Bool.cond_true_left,Bool.true_and];cases formedP (worldOf p) m.fact
 ·simp
 ·rw[Bool.eq_iff_iff];simp only[Bool.or_eq_true,decide_eq_true_eq,Bool.not_eq_true', <-Bool.not_eq_true,Bool.and_eq_true,Bool.not_true,Bool.false_eq_true,or_false,true_and];omega
theorem gen_bif(n:Int):(bif decide (n<1) then true else decide (n>3))= !genP n:=by
 unfold genP;rw[Bool.cond_true_left,Bool.eq_iff_iff];simp only[Bool.or_eq_true,decide_eq_true_eq,Bool.not_eq_true', <-Bool.not_eq_true,Bool.and_eq_true];omega
theorem head_bif(p:Prog)(b:Bool):(bif bif bif bif !b then true else decide ((p.gens.length:Int)>8) then true else decide ((p.methods.length:Int)>16) then true else decide ((p.nodes.length:Int)<1) then true else decide ((p.nodes.length:Int)>120))= !(b && headP p):=by
 unfold headP;cases b
 ·simp
 ·simp only[Bool.cond_true_left,Bool.true_and,Bool.not_true];rw[Bool.eq_iff_iff];simp only[Bool.or_eq_true,decide_eq_true_eq,Bool.not_eq_true', <-Bool.not_eq_true,Bool.and_eq_true,Bool.false_eq_true,false_or];omega
theorem rLook{p:Prog}(hp:p.Small):PCall Tryz.prog 176 [AV.prog p] (.tup [AV.ints ((sizesP p).getD []),.b (sizesP p).isSome]):=by
 intro H;refine aC (n:=156) Tryz.func176 λB I w0=>?_;have hpc:=hp.classes;have hpp:=hp.parents;have hb1:0=0:=rfl;refine Z11 ?_;refine oP (POp.call .k (rClasses hp)) ?_;refine Z27 ?_;refine CW.cond rfl (λh0=>?_) (λh0=>?_)
 ·rw[head_bif,Bool.not_eq_true',Bool.and_eq_false_iff] at h0;have hno:sizesP p=none:=by
   rcases h0 with h0 | h0
   ·exact szs_no1 h0
   ·exact szs_no2 h0
  refine Z8 ?_;refine Done.retR (rs:=[.tmp 2,.tmp 3]) (H':=H) rfl (.tmp rfl (.tmp rfl (.nil))) (.cons (AVle.nil 1) (.cons (.refl _) .nil)) Yb ?_;exact⟨Ybp,rfl⟩
 ·rw[head_bif,Bool.not_eq_false',Bool.and_eq_true] at h0;obtain⟨hcl,hhd⟩:=h0;have hH:=Heads.of hcl;have h10:=hH.cl;have hw:=hH.world;have hpl:=world_pl p;have hhd2:=hhd;simp only[headP,Bool.and_eq_true,decide_eq_true_eq] at hhd2;have hsl:=slotsA_mem _ _ hH.sl;refine Z9 ?_;refine lj (λm st=>∃i:Nat,st=⟨[(4,.i i),(1,.ptr (progC p))],H⟩/\m=p.gens.length - i/\i<=p.gens.length/\(p.gens.take i).all genP=true) (⟨0,rfl,rfl,Yd,rfl⟩) ?_;rintro m _ ⟨i,rfl,rfl,hi,ha⟩;refine Z10 ?_;refine cd (λh1=>?_) λh1=>?_
  ·have hil:i<p.gens.length:=by omega
   refine Z22 ?_;refine CW.cond rfl (λh2=>?_) (λh2=>?_)
   ·rw[gen_bif,Bool.not_eq_true'] at h2;have hno:sizesP p=none:=szs_no3 (all_no hil h2);refine Z12 ?_;refine Done.retR (rs:=[.tmp 2,.tmp 3]) (H':=H) rfl (.tmp rfl (.tmp rfl (.nil))) (.cons (AVle.nil 1) (.cons (.refl _) .nil)) Yb ?_;exact⟨Ybp,rfl⟩
   ·rw[gen_bif,Bool.not_eq_false'] at h2;refine Z8 ?_;exact ag (⟨i+1,rfl,rfl,hil,all_step hil ha h2⟩)
  ·obtain rfl:i=p.gens.length:=by omega
   rw[List.take_length] at ha;refine Z17 ?_;refine CW.rowNil 3 1 ?_;refine lj (λm st=>∃(i:Nat) (v:Value),st=⟨[(6,.i i),(5,.val v),(1,.ptr (progC p))],rowE v (List.replicate i (-1))::H⟩/\m=p.nodes.length - i/\i<=p.nodes.length) (⟨0,_,rfl,rfl,Yd⟩) ?_;rintro m _ ⟨i,v,rfl,rfl,hi⟩;refine Z10 ?_;refine cd (λh3=>?_) λh3=>?_
   ·have hil:i<p.nodes.length:=by omega
    refine Z6 ?_;refine OL.popC (x:=.sl 1 [[.i (-1)]]) rfl rfl rfl (POp.row rfl rfl Yh rfl rfl rfl rfl rfl rfl) ?_;refine OL.appendRowAny (intEls [-1]) rfl rfl rfl rfl rfl rfl rfl rfl (AVle.refl _) rfl (λv=>.head _ _ _) (by simp only[intEls_len,List.length_replicate,List.length_singleton];omega) (by simp only[intEls_len,List.length_replicate,List.length_singleton];omega) (λv68=>?_);refine Z4 ?_;refine CW.eqH (H':=rowE v68 (List.replicate i (-1)++[-1])::H) (congrArg (· ::_) (rowE_append _ _ _)) ?_;refine Z5 ?_;exact ag (⟨i+1,v68,by rw[List.replicate_succ'],rfl,hil⟩)
   ·obtain rfl:i=p.nodes.length:=by omega
    refine Z6 ?_;refine CW.rowBlk (t:=3) (by rw[intEls_len,List.length_replicate];omega) (λb cap more=>.head _ _ _) (λnb cap more e1 e2 e3 e4 e5=>?_);rw[intEls_len,List.length_replicate] at e1 e2;subst e1;refine CW.eqH (H':=.blk nb 3 ((out0 p).map AV.i++more)::H) (by rw[intEls,ints_flatR];rfl) ?_;refine Z2 ?_;refine oP (POp.call .k (rWorld p Yd (λc h=>⟨hpp c h,by have:=(hsl c h).1;omega⟩))) ?_;refine OL.alC rfl rfl rfl rfl (λwb=>?_);refine Z5 ?_;refine CW.freezeP (d:=7) rfl Yl ?_;refine Z5 ?_;refine lj (λm st=>∃(i:Nat) (o:List Int),st=⟨[(8,.i i),(7,.ptr (Wcells (worldOf p))),(5,.val (.slice (some ⟨nb,0,none⟩) p.nodes.length cap)),(1,.ptr (progC p))],.blk nb 3 (o.map AV.i++more)::H⟩/\m=p.methods.length - i/\i<=p.methods.length/\methodsN p (p.methods.drop i) o=methodsN p p.methods (out0 p)/\o.length=p.nodes.length/\OutGe o) (⟨0,out0 p,rfl,rfl,Yd,rfl,by simp[out0],out0_ge p⟩) ?_;rintro m _ ⟨i,o,rfl,rfl,hi,hmn,hol,hge⟩;refine Z10 ?_;refine cd (λh4=>?_) λh4=>?_
    ·have hil:i<p.methods.length:=by omega
     obtain⟨M,hM⟩:∃M,M=(p.methods.getD i default):=⟨_,rfl⟩;refine Z11 ?_;refine OL.alC rfl rfl rfl rfl (λmb=>?_);refine Z5 ?_;rw[<-hM];refine CW.freezeP (d:=9) rfl Yl ?_;refine CW.dp mixed ?_;refine Z56 ?_;refine DP.anyC 14 19 156 rfl Ye rfl rfl Ye ?_;refine Z18 ?_;refine DP.anyC 22 25 156 rfl Ye rfl rfl Ye ?_;refine Z5 ?_;refine OL.guardC rfl rfl rfl rfl rfl rfl (λhg=>POp.call (.mk' rfl rfl rfl rfl Yc) (rFormed Yd M.fact)) ?_;refine Z14 ?_;refine DP.anyC 29 38 156 rfl Ye rfl rfl Ye ?_;refine Z2 ?_;refine AD.guardC rfl rfl rfl rfl rfl (λhg=>POp.call (.mk' rfl rfl rfl rfl Yc) (rSpeaks M.fact (formed_smallA (w:=worldOf p) (by revert hg;cases formedP (worldOf p) M.fact <;> simp)))) ?_;refine Z4 ?_;refine AD.guardC rfl rfl rfl rfl rfl (λhg=>(by first | exact POp.ixM rfl rfl (gd hg) rfl (gd hg) YaI | exact POp.ixI rfl rfl (gd hg) rfl (gd hg) YaI)) ?_;refine Z7 ?_;refine CW.cond rfl (λh5=>?_) (λh5=>?_)
     ·rw[meth_bif hw,Bool.not_eq_true'] at h5;have hno:sizesP p=none:=szs_no4 (by rw[<-hmn];exact mths_no hil hM h5);refine Z13 ?_;refine Done.retR (rs:=[.tmp 2,.tmp 3]) (H':=H) rfl (.tmp rfl (.tmp rfl (.nil))) (.cons (AVle.nil 1) (.cons (.refl _) .nil)) Yb ?_;exact⟨Ybp,rfl⟩
     ·rw[meth_bif hw,Bool.not_eq_false'] at h5;have hm1:=h5;simp only[mth1,Bool.and_eq_true,decide_eq_true_eq] at hm1;have hgp:=List.all_eq_true.1 ha _ (getD_memB (l:=p.gens) (k:=M.gen.toNat) Yd);simp only[genP,Bool.and_eq_true,decide_eq_true_eq] at hgp;refine Z3 ?_;rcases hv:(visit p (nextM M) 13 (bodyV p M) o).2 with _ | o1
      ·have hno:sizesP p=none:=szs_no4 (by rw[<-hmn];exact mths_stop hil hM hv);refine CW.dp mixed ?_;refine DP.anyC 0 13 156 rfl Ye rfl rfl Ye ?_;refine Z11 ?_;refine AD.popC rfl rfl rfl (POp.call .k (rNext M.kind)) ?_;refine Z3 ?_;refine bC (.mk' rfl rfl rfl rfl rfl) ((ACall.weak (rWalk (next:=nextM M) Yd 13 (bodyV p M) o nb cap more H YaJ Ybr Yal hol) (λy H1 h=>by rw[walkQ,hv] at h;exact h) (λ_ _ h=>h)).b) ?_;rintro _ _ ⟨rfl,o2,rfl⟩;refine Z3 ?_;refine CW.cond rfl (λh6=>?_) (λh6=>?_)
       ·replace h6:=nm h6;refine Z12 ?_;refine Done.retR (rs:=[.tmp 2,.tmp 3]) (H':=H) rfl (.tmp rfl (.tmp rfl (.nil))) (.cons (AVle.nil 1) (.cons (.refl _) .nil)) Yb ?_;exact⟨Ybp,rfl⟩
       ·cases h6
      ·have hol1:=visit_lenR YaJ hv;have hge1:=visit_outGe YaJ (by simp only[bodyV];omega) hv hge;have hmg:=mths_go hil hM h5 hv;refine CW.dp mixed ?_;refine DP.anyC 0 13 156 rfl Ye rfl rfl Ye ?_;refine Z11 ?_;refine AD.popC rfl rfl rfl (POp.call .k (rNext M.kind)) ?_;refine Z3 ?_;refine bC (.mk' rfl rfl rfl rfl rfl) ((ACall.weak (rWalk (next:=nextM M) Yd 13 (bodyV p M) o nb cap more H YaJ Ybr Yal hol) (λy H1 h=>by rw[walkQ,hv] at h;exact h) (λ_ _ h=>h)).b) ?_;rintro _ _ ⟨rfl,rfl⟩;refine Z3 ?_;refine CW.cond rfl (λh7=>?_) (λh7=>?_)
       ·cases h7
       ·replace h7:=nm h7;refine Z8 ?_;exact ag (⟨i+1,o1,rfl,rfl,hil,by rw[<-hmn,hmg],Yd,hge1⟩)
    ·obtain rfl:i=p.methods.length:=by omega
     rw[List.drop_length,methodsN] at hmn;have hmn:=hmn.symm;refine Z7 ?_;rcases hv:(visit p false 13 ⟨p.main,0,1⟩ o).2 with _ | o1
     ·have hno:sizesP p=none:=szs_no5 hmn hv;refine Z5 ?_;refine bC (.mk' rfl rfl rfl rfl rfl) ((ACall.weak (rWalk (next:=false) Yd 13 (⟨p.main,0,1⟩:Vis) o nb cap more H YaJ Ybr Yal hol) (λy H1 h=>by rw[walkQ,hv] at h;exact h) (λ_ _ h=>h)).b) ?_;rintro _ _ ⟨rfl,o2,rfl⟩;refine Z3 ?_;refine CW.cond rfl (λh8=>?_) (λh8=>?_)
      ·replace h8:=nm h8;refine Z8 ?_;refine Done.retR (rs:=[.tmp 2,.tmp 3]) (H':=H) rfl (.tmp rfl (.tmp rfl (.nil))) (.cons (AVle.nil 1) (.cons (.refl _) .nil)) Yb ?_;exact⟨Ybp,rfl⟩
      ·cases h8
     ·have hol1:=visit_lenR YaJ hv;have hge1:=visit_outGe YaJ (by show (0:Int)<=0;omega) hv hge;refine Z5 ?_;refine bC (.mk' rfl rfl rfl rfl rfl) ((ACall.weak (rWalk (next:=false) Yd 13 (⟨p.main,0,1⟩:Vis) o nb cap more H YaJ Ybr Yal hol) (λy H1 h=>by rw[walkQ,hv] at h;exact h) (λ_ _ h=>h)).b) ?_;rintro _ _ ⟨rfl,rfl⟩;refine Z3 ?_;refine CW.cond rfl (λh9=>?_) (λh9=>?_)
      ·cases h9
      ·replace h9:=nm h9;refine Z9 ?_;refine lj (λm st=>∃i:Nat,st=⟨[(10,.i i),(5,.val (.slice (some ⟨nb,0,none⟩) p.nodes.length cap))],.blk nb 3 (o1.map AV.i++more)::H⟩/\m=p.nodes.length - i/\i<=p.nodes.length/\∀y∈o1.take i,0<=y) (⟨0,rfl,rfl,Yd,Yx⟩) ?_;rintro m _ ⟨i,rfl,rfl,hi,hpos⟩;refine Z5 ?_;refine oP (POp.lenV rfl rfl rfl) ?_;refine Z3 ?_;refine cd (λh10=>?_) λh10=>?_
       ·have hil:i<p.nodes.length:=by omega
        refine Z8 ?_;refine oP (POp.ixC rfl rfl rfl rfl rfl Yd) ?_;refine oP ((by first | exact POp.ld1 rfl rfl rfl rfl | (apply POp.ld1H rfl rfl rfl;(case hm=>repeat (first | exact .head _ | refine .tail _ ?_));(case hy=>exact cellM_get Yd)))) ?_;refine Z3 ?_;refine cd (λh11=>?_) λh11=>?_
        ·have hm1:o1.getD i default= -1:=by have:=hge1 _ (getD_memB (l:=o1) (k:=i) Yd);rw[Int.toNat_natCast] at h11;omega
         have hno:sizesP p=none:=szs_no6 hmn hv (by rw[<-hm1];exact List.contains_iff_mem.2 (getD_memB Yd));refine Z12 ?_;refine Done.retR (rs:=[.tmp 2,.tmp 3]) (H':=H) rfl (.tmp rfl (.tmp rfl (.nil))) (.cons (AVle.nil 1) (.cons (.refl _) .nil)) Yb ?_;exact⟨Ybp,rfl⟩
        ·refine Z8 ?_;exact ag (⟨i+1,rfl,rfl,hil,λy hy=>by rw[<-take_getD Yd,List.mem_append,List.mem_singleton] at hy;rw[Int.toNat_natCast] at h11;rcases hy with hy | rfl;exact hpos y hy;omega⟩)
       ·obtain rfl:i=p.nodes.length:=by omega
        rw[<-hol, <-hol1,List.take_length] at hpos;have hyes:sizesP p=some o1:=szs_yes hcl hhd ha hmn hv (by rw[List.contains_eq_mem,decide_eq_false_iff_not];intro h;have:=hpos _ h;omega);refine Z6 ?_;refine CW.eqH (H':=.blk nb 3 ((o1.map λn=>[AV.i n]).flatten++more)::H) (by rw[ints_flatR]) ?_;refine CW.freezeS (k:=1) (d:=5) rfl (.head _ _) Yab (λe he=>by obtain⟨y,_,rfl⟩:=List.mem_map.1 he;rfl) e2 e3 ?_;refine Z7 ?_;refine rR [.tmp 2,.tmp 3] (H) ?_;exact⟨by rw[hyes];rfl,rfl⟩
theorem rProg{p:Prog}(hp:p.Small):PCall Tryz.prog 107 [AV.prog p] (.b (sizesP p).isSome):=by
 intro H;refine aC (n:=11) Tryz.func107 λB I w0=>?_;refine Z9 ?_;refine oP (POp.call .k (rLook hp)) ?_;refine Z14 ?_;refine r1 2 (H) ?_;exact⟨YaJ,rfl⟩
theorem thing_eqR{p:Prog}(hz:(sizesP p).isSome=true)(n:Int)(t:Th):thingP p n t=thingQ (worldOf p) n t:=by
 obtain⟨o,ho⟩:=Option.isSome_iff_exists.1 hz;have hH:=Heads.of (sizes_parts ho).1;unfold thingP thingQ ownC ownP;rw[hz,Bool.and_true,world_pl];by_cases h:3<=t.cls/\t.cls<3+p.classes.length
 ·rw[has_slots hH h.1 h.2]
 ·have e:(decide (3<=t.cls) && decide (t.cls<3+(p.classes.length:Int)))=false:=by
   rw[<-Bool.not_eq_true,Bool.and_eq_true,decide_eq_true_eq,decide_eq_true_eq];exact h
  rw[e];rfl
theorem check_eqR{p:Prog}(objs:List Th):(bif (sizesP p).isSome then objsR (worldOf p) objs else false)=checkP p objs:=by
 unfold checkP objsR;cases hz:(sizesP p).isSome with
 | false=>rfl
 | true=>
  rw[cond_true,Bool.true_and];congr 2;funext t;exact (thing_eqR hz _ t).symm
theorem heads_of{p:Prog}(hz:(sizesP p).isSome=true):Heads p:=by
 obtain⟨o,ho⟩:=Option.isSome_iff_exists.1 hz;exact Heads.of (sizes_parts ho).1
theorem world_of{p:Prog}(hp:p.Small)(hz:(sizesP p).isSome=true):PCall Tryz.prog 109 [AV.prog p] (AV.world (worldOf p)):=by
 have hH:=heads_of hz;have h10:=hH.cl;have hsl:=slotsA_mem _ _ hH.sl;exact rWorld p Yd (λc h=>⟨hp.parents c h,by have:=(hsl c h).1;omega⟩)
theorem rHasOf{p:Prog}(hp:p.Small)(hz:(sizesP p).isSome=true){c:Int}(h3:3<=c)(hc:c<3+p.classes.length):PCall Tryz.prog 171 [AV.prog p,.i c] (AV.ints (hasP p c)):=by
 intro H;refine aC (n:=9) Tryz.func171 λB I w0=>?_;have hH:=heads_of hz;rw[has_slots hH h3 hc];refine Z9 ?_;refine oP (POp.call .k (world_of hp hz)) ?_;refine Z1 ?_;refine oP (POp.call .k (rSlots hH.world h3 (by rw[world_pl];exact hc))) ?_;refine Z4 ?_;refine r1 4 (H) ?_;exact⟨Yg,rfl⟩
theorem rGood{p:Prog}(hp:p.Small)(objs:List Th):PCall Tryz.prog 50 [AV.prog p,AV.ths objs] (.b (checkP p objs)):=by
 intro H;refine aC (n:=13) Tryz.func50 λB I w0=>?_;refine Z9 ?_;refine oP (POp.call .k (rProg hp)) ?_;refine Z2 ?_;refine OL.guardC rfl rfl rfl rfl rfl rfl (λhg=>POp.call (.mk' rfl rfl rfl rfl Yc) (world_of hp hg)) ?_;refine Z1 ?_;refine OL.guardC rfl rfl rfl rfl rfl rfl (λhg=>POp.call (.mk' rfl rfl rfl rfl Yc) (rObjs (heads_of hg).world objs)) ?_;refine Z5 ?_;refine r1 4 (H) ?_;exact⟨retB (check_eqR objs),rfl⟩
theorem speaksC:∀{f:Fact},smallA f=true->PCall Tryz.prog 203 [AV.fact f] (.i (speaksP f)):=λ{f}=>by
 refine Fact.ind1 (P:=λf=>smallA f=true->PCall Tryz.prog 203 [AV.fact f] (.i (speaksP f))) (λf ih hf=>speaks_step f hf λk hk=>ih k hk ((smallA_iff hf).2.2 k hk)) f
theorem factFormedC(W:Fc.FW)(f:Fact):PCall Tryz.prog 202 [AV.world W,AV.fact f] (.i (if worldP W && formedP W f then 0 else 2)):=by
 cases h:worldP W with
 | true=>simpa using factFormedT h f
 | false=>simpa using factFormedF h f
theorem sizes1{p:Prog}(hp:p.Small)(ob:Nat)(H:List Ent):ACall Tryz.prog 193 [.ptr (progC p),.p ob 0] (.blk ob 23 [(.val (.slice none 0 0))]::H) (λ_ H'=>∃nb o,sizesP p=some o/\H'=outH ob nb p.nodes.length o++H) (λy H'=>y=unfA/\sizesP p=none/\∃v,H'= .blk ob 23 [.val v]::H):=by
 refine aC (n:=130) Tryz.func193 λB I w0=>?_;refine Z3 ?_;refine OL.bcall rfl rfl .k (classesC hp _).b ?_ ?_
 ·rintro y H1 ⟨hcl,rfl⟩;obtain⟨hc10,hcs⟩:=classes_small hcl;refine Z26 ?_;rcases bool_or (headP p) with hh | hh
  ·refine OL.rcallN rfl rfl (.mk' rfl rfl rfl rfl rfl) (needF (by simp only[Bool.cond_false_right];exact hh) _) unf_c ?_;intro a w s;exact outP (P:=Tryz.prog) (fn:=Tryz.f193) unf_c (.refl _) ⟨rfl,szs_no2 hh,_,rfl⟩ a w s
  ·refine OL.rcallS rfl rfl rfl (.mk' rfl rfl rfl rfl rfl) (needT (by simp only[Bool.cond_false_right];exact hh) _) ?_;have hh2:=hh;simp only[headP,Bool.and_eq_true,decide_eq_true_eq] at hh2;refine Z12 ?_;refine lj (λm st=>∃i:Nat,st=⟨[(36,.i i),(35,.i p.gens.length),(34,AV.ints p.gens),(0,.ptr (progC p)),(1,.p ob 0)],.blk ob 23 [(.val (.slice none 0 0))]::H⟩/\m=p.gens.length - i/\i<=p.gens.length/\(p.gens.take i).all genP=true) (⟨0,rfl,rfl,Yd,rfl⟩) ?_;rintro m _ ⟨i,rfl,rfl,hi,hga⟩;refine Z6 ?_;refine cd (λh0=>?_) λh0=>?_
   ·have hil:i<p.gens.length:=by omega
    refine Z18 ?_;rcases bool_or (genP (p.gens.getD i default)) with h1 | h1
    ·refine OL.rcallN rfl rfl (.mk' rfl rfl rfl rfl rfl) (needF Ya0 _) unf_c ?_;intro a w s;exact outP (P:=Tryz.prog) (fn:=Tryz.f193) unf_c (.refl _) ⟨rfl,szs_no3 (all_noG hil h1),_,rfl⟩ a w s
    ·refine OL.rcallS rfl rfl rfl (.mk' rfl rfl rfl rfl rfl) (needT Ya0 _) ?_;refine Z7 ?_;exact ag (⟨i+1,rfl,rfl,hil,by rw[<-take_getD hil,List.all_append,hga,List.all_cons,h1];rfl⟩)
   ·obtain rfl:i=p.gens.length:=by omega
    rw[List.take_length] at hga;refine Z7 ?_;refine OL.popC (x:=.sl 1 [[.i (-1)]]) rfl rfl rfl (POp.row rfl rfl Yh rfl rfl rfl rfl rfl rfl) ?_;refine Z3 ?_;refine bC .k (repeatI p.nodes.length Yd _).b ?_
    ·rintro _ _ ⟨nb,rfl,rfl⟩;refine Z4 ?_;refine CW.perm (H':=.blk ob 23 [(.val (.slice (some ⟨nb,0,none⟩) p.nodes.length p.nodes.length))]::.blk nb 3 (List.replicate p.nodes.length (.i (-1)))::H) (.swap _ _ _) ?_;refine CW.eqH (H':=outH ob nb p.nodes.length (out0 p)++H) (by rw[<-out0_map];rfl) ?_;refine Z8 ?_;refine oP (POp.call .k (worldB p Yd hcs)) ?_;refine OL.alC rfl rfl rfl rfl (λwb=>?_);refine Z5 ?_;refine CW.freezeP (d:=5) rfl Yl ?_;refine Z8 ?_;refine lj (λm st=>∃(i:Nat) (o:List Int),st=⟨[(59,.i i),(58,.i p.methods.length),(57,.sl 9 (p.methods.map mthA)),(5,.ptr (Wcells (worldOf p))),(4,(.fn (.func 197) [] [.ptr (progC p),.p ob 0])),(0,.ptr (progC p)),(1,.p ob 0)],outH ob nb p.nodes.length o++H⟩/\m=p.methods.length - i/\i<=p.methods.length/\methodsN p p.methods (out0 p)=methodsN p (p.methods.drop i) o/\o.length=p.nodes.length) (⟨0,out0 p,rfl,rfl,Yd,rfl,by simp[out0]⟩) ?_;rintro m _ ⟨i,o,rfl,rfl,hi,hmN,hol⟩;refine Z6 ?_;refine cd (λh1=>?_) λh1=>?_
     ·have hil:i<p.methods.length:=by omega
      obtain⟨M,hM⟩:∃M,M=(p.methods.getD i default):=⟨_,rfl⟩;refine Z8 ?_;refine OL.alC rfl rfl rfl rfl (λb1=>?_);refine Z4 ?_;rw[<-hM];refine CW.freezeP (d:=7) rfl Yl ?_;refine Z22 ?_;rcases bool_or (mth1 p M) with h1 | h1
      ·refine OL.rcallN rfl rfl (.mk' rfl rfl rfl rfl rfl) (needF Ya0 _) unf_c ?_;intro a w s;exact outP (P:=Tryz.prog) (fn:=Tryz.f193) unf_c (.cons_cons _ (.cons _ (.refl _))) ⟨rfl,szs_no4 (by rw[hmN];exact mths_no hil hM (by rw[h1];rfl)),_,rfl⟩ a w s
      ·refine OL.rcallS rfl rfl rfl (.mk' rfl rfl rfl rfl rfl) (needT Ya0 _) ?_;have hm1:=h1;simp only[mth1,Bool.and_eq_true,decide_eq_true_eq] at hm1;have hgm:M.gen.toNat<p.gens.length:=by omega
       have hgn:=gens_in hga (getD_memB hgm);refine Z3 ?_;refine CW.dp mixed ?_;refine DP.anyC 0 3 130 rfl Ye rfl rfl Ye ?_;refine Z5 ?_;refine oP (POp.call .k (factFormedC (worldOf p) M.fact)) ?_;refine Z10 ?_;refine DP.anyC 6 15 130 rfl Ye rfl rfl Ye ?_;refine Z2 ?_;refine AD.guardC rfl rfl rfl rfl rfl (λhg=>POp.call (.mk' rfl rfl rfl rfl Yc) (speaksC (formed_smallA (w:=worldOf p) (by have:=zero_of_if hg;rw[Bool.and_eq_true] at this;exact this.2)))) ?_;refine Z4 ?_;refine AD.guardC rfl rfl rfl rfl rfl (λhg=>(by first | exact POp.ixM rfl rfl (gd hg) rfl (gd hg) ⟨Yd,Yd⟩ | exact POp.ixI rfl rfl (gd hg) rfl (gd hg) ⟨Yd,Yd⟩)) ?_;refine Z5 ?_;rcases bool_or (mth2 p M) with h2 | h2
       ·refine OL.rcallN rfl rfl (.mk' rfl rfl rfl rfl rfl) (needF (by rw[Bool.cond_false_right,if_zero];exact h2) _) unf_c ?_;intro a w s;exact outP (P:=Tryz.prog) (fn:=Tryz.f193) unf_c (.cons_cons _ (.cons _ (.refl _))) ⟨rfl,szs_no4 (by rw[hmN];exact mths_no hil hM (by rw[h2,Bool.and_false])),_,rfl⟩ a w s
       ·refine OL.rcallS rfl rfl rfl (.mk' rfl rfl rfl rfl rfl) (needT (by rw[Bool.cond_false_right,if_zero];exact h2) _) ?_;refine Z2 ?_;refine CW.dp mixed ?_;refine DP.anyC 0 17 130 rfl Ye rfl rfl Ye ?_;refine Z7 ?_;refine AD.popC rfl rfl rfl ((by first | exact POp.ixM rfl rfl rfl rfl rfl ⟨Yd,Yd⟩ | exact POp.ixI rfl rfl rfl rfl rfl ⟨Yd,Yd⟩)) ?_;refine Z11 ?_;have hnx:(bif (M.kind==1) then true else (M.kind==4))=nextM M:=by unfold nextM;rw[Bool.cond_true_left]
        refine OL.bcall rfl rfl .k (bodyS rfl M.node (p.gens.getD M.gen.toNat default) _ Yd o hol Yd ob nb H).b ?_ ?_
        ·rintro y H1 ⟨hv,rfl⟩;rw[hnx] at hv ⊢;have hgo:=visit_end (p:=p) (next:=nextM M) (x:=bodyV p M) rfl hv;refine Z7 ?_;exact ag (⟨i+1,outsV (visit p (nextM M) 13 (bodyV p M) o).1 o,rfl,rfl,hil,by rw[hmN,mths_go hil hM (by rw[h1,h2];rfl) hgo],by rw[outsV_len,hol]⟩)
        ·rintro y H1 ⟨rfl,hv,o1,rfl⟩ a w s I v hv2;rw[unf_c.is _ _ _ hv2];rw[hnx] at hv;exact outP (P:=Tryz.prog) (fn:=Tryz.f193) unf_c (.cons_cons _ (.cons _ (.refl _))) ⟨rfl,szs_no4 (by rw[hmN];exact mths_stop hil hM (Option.isNone_iff_eq_none.1 hv)),_,rfl⟩ a w s
     ·obtain rfl:i=p.methods.length:=by omega
      rw[List.drop_length] at hmN;replace hmN:methodsN p p.methods (out0 p)=some o:=hmN;refine Z10 ?_;refine OL.bcall rfl rfl .k (bodyS rfl p.main 0 false Yd o hol Yd ob nb H).b ?_ ?_
      ·rintro y H1 ⟨hv,rfl⟩;have hgo:=visit_end (p:=p) (next:=false) (x:=⟨p.main,0,1⟩) rfl hv;obtain⟨o2,ho2⟩:∃o2,o2=outsV (visit p false 13 ⟨p.main,0,1⟩ o).1 o:=⟨_,rfl⟩;rw[<-ho2] at hgo ⊢;have hol2:o2.length=p.nodes.length:=by rw[ho2,outsV_len,hol]
       refine Z4 ?_;refine oP (POp.callB .k (Borrow.outs (pre:=[]) (.tail _ (.head _)) hol2 Yd) (sContains o2 (-1))) ?_;refine Z1 ?_;rcases bool_or (o2.contains (-1)) with h3 | h3
       ·refine OL.rcallS rfl rfl rfl (.mk' rfl rfl rfl rfl rfl) (needT (by rw[h3];rfl) _) ?_;refine Z1 ?_;refine nR [] (outH ob nb p.nodes.length o2++H) ?_;exact⟨nb,o2,szs_yes hcl hh hga hmN hgo h3,rfl⟩
       ·refine OL.rcallN rfl rfl (.mk' rfl rfl rfl rfl rfl) (needF (by rw[h3];rfl) _) unf_c ?_;intro a w s;exact outP (P:=Tryz.prog) (fn:=Tryz.f193) unf_c (.cons_cons _ (.cons _ (.refl _))) ⟨rfl,szs_no6 hmN hgo h3,_,rfl⟩ a w s
      ·rintro y H1 ⟨rfl,hv,o1,rfl⟩ a w s I v hv2;rw[unf_c.is _ _ _ hv2];exact outP (P:=Tryz.prog) (fn:=Tryz.f193) unf_c (.cons_cons _ (.cons _ (.refl _))) ⟨rfl,szs_no5 hmN (Option.isNone_iff_eq_none.1 hv),_,rfl⟩ a w s
 ·rintro y H1 ⟨rfl,hcl,rfl⟩ a w s I v hv;rw[unf_c.is _ _ _ hv];exact outP (P:=Tryz.prog) (fn:=Tryz.f193) unf_c (.refl _) ⟨rfl,szs_no1 hcl,_,rfl⟩ a w s
theorem assert_unf(w:World):(Instr.typeAssert unfV 20 253 true).run Tryz.prog w= .ok (.tuple #[.agg #[],.bool true]) w:=by
 simp[Instr.typeAssert,run_underlying (show Tryz.prog.underlying 253=some (.struct #[]) by kernel_rfl)]
theorem catch_panicking(b:Nat)(x:Bool)(w:World)(hc:w.cell? ⟨b,0,none⟩=some (.bool x))(hz:w.frozen? ⟨b,0,none⟩=false)(hb:b<w.heap.size):
  CallsDIn (Eng.FW none) 0 Tryz.prog 221 #[.pointer (some ⟨b,0,none⟩)] (.panicking [{v:=unfV,recovered:=false}]) w λe u' w'=>
   e= .returned (.tuple #[])/\u'= .panicking [{v:=unfV,recovered:=true}]/\w'=(w.alloc (.cells #[] 253)).setCell ⟨b,0,none⟩ (.bool false):=by
 have hc2:(w.alloc (.cells #[] 253)).cell? ⟨b,0,none⟩=some (.bool x):=by rw[World.cell?_alloc_lt w _ ⟨b,0,none⟩ hb];exact hc
 have hz2:(w.alloc (.cells #[] 253)).frozen? ⟨b,0,none⟩=false:=by rw[World.frozen?_of_block (Go.RowKit.Below.heap_alloc w _ b hb)];exact hz
 refine callsDIn_of_wpSIn Tryz.func221 rfl trivial λc₀ cs hu=>?_;apply wpSIn_seq;apply wpSIn_region;have hta:=λw=>assert_unf w;simp[wpOpsSIn,go_sem,recoverD,hu,Tryz.ntmps221,Exit.thenS,Eng.FW,hta];apply wpSIn_seq;apply wpSIn_region;simp[wpOpsSIn,go_sem,Exit.thenS];refine wpSIn_cond (t:=true) YaQ ?_;simp only[if_true];apply wpSIn_seq;apply wpSIn_seq;apply wpSIn_region;simp[wpOpsSIn,go_sem,Exit.thenS,hta];apply wpSIn_seq;apply wpSIn_region;simp[wpOpsSIn,go_sem,Exit.thenS];refine wpSIn_cond (t:=false) YaQ ?_;simp only[Bool.false_eq_true,if_false];refine wpSIn_of_wpIn rfl (wpIn_skip ?_);simp only[Exit.thenS];apply wpSIn_region;simp[wpOpsSIn,go_sem,hc2,hz2,bodyPostS,results,Tryz.results221]
theorem catch_idle(b:Nat)(w:World):
  CallsDIn (Eng.FW none) 0 Tryz.prog 221 #[.pointer (some ⟨b,0,none⟩)] .returning w λe u' w'=>e= .returned (.tuple #[])/\u'= .returning/\w'=w:=by
 refine callsDIn_of_wpSIn Tryz.func221 rfl trivial λc₀ cs hu=>?_;apply wpSIn_seq;apply wpSIn_region;simp[wpOpsSIn,go_sem,recoverD,hu,Tryz.ntmps221,Exit.thenS,Eng.FW];apply wpSIn_seq;apply wpSIn_region;simp[wpOpsSIn,go_sem,Exit.thenS];refine wpSIn_cond (t:=false) YaQ ?_;simp only[Bool.false_eq_true,if_false];refine wpSIn_of_wpIn rfl (wpIn_skip ?_);cases c₀;simp_all [bodyPostS,results,Tryz.results221]
def dfr(tb:Nat):Deferred:={target:=.fn (.func 221) #[.pointer (some ⟨tb,0,none⟩)],args:=#[]}
theorem leave_formed{x:Bool}(hΦ:Φ (.b x) H)(hs:∃I,WOk B I w/\Ext B I0 w0 I w/\HeapOk B I w (.blk tb 4 [.b x]::H)/\EnvOk I w (envGet env) a)(ht:envGet env 2=some (.p tb 0)):
  LeavesIn (Eng.FW none) 0 Tryz.prog Tryz.f192 a.tmps (RetP B I0 w0 Φ E) [] .returning w:=by
 obtain⟨I,hw,he,hh,hv⟩:=hs;obtain⟨v,h1,h2⟩:=ResOk.res (P:=Tryz.prog) (c:=⟨B,I0,w0,0,[]⟩) (st:=⟨env,.blk tb 4 [.b x]::H⟩) hh hv (fn:=Tryz.f192) (rs:=[.cell 2 4]) rfl (.cell1 inferInstance ht (.head _) rfl .nil);exact⟨v,h1,I,H,hw,he,hh.tail,.inl ⟨v,_,rfl,h2,hΦ⟩⟩
theorem invoke_dfr(tb:Nat)(w:World):(invoke (.fn (.func 221) #[.pointer (some ⟨tb,0,none⟩)]) #[]).run Tryz.prog w= .ok (.enter 221 #[.pointer (some ⟨tb,0,none⟩)]) w:=by
 have:fnOk Tryz.prog 221=true:=by kernel_rfl
 have h:=run_callFunc this #[.pointer (some ⟨tb,0,none⟩)] w;simp[invoke]
theorem ret_formed{x:Bool}{n:Nat}(hΦ:Φ (.b x) H)(s:Sat ⟨B,I0,w0,n,[dfr tb]⟩ ⟨env,.blk tb 4 [.b x]::H⟩ a w)(ht:envGet env 2=some (.p tb 0)):
  bodyPostDIn (Eng.FW none) 0 Tryz.prog Tryz.f192 (RetP B I0 w0 Φ E) .ret a w:=by
 show LeavesIn _ _ _ _ _ _ a.defers .returning w;rw[s.ds];refine leavesIn_cons (f:=221) (args:=#[.pointer (some ⟨tb,0,none⟩)]) Yx (by simp[Eng.FW]) (invoke_dfr tb w) (λ_ _=>trivial) ?_;refine (catch_idle tb w).mono ?_;rintro e u' w' ⟨rfl,rfl,rfl⟩;exact leave_formed hΦ s.mem ht
theorem pan_formed{x:Bool}{n:Nat}(hΦ:Φ (.b false) H)(s:Sat ⟨B,I0,w0,n,[dfr tb]⟩ ⟨env,.blk tb 4 [.b x]::H⟩ a w)(ht:envGet env 2=some (.p tb 0)):
  bodyPostDIn (Eng.FW none) 0 Tryz.prog Tryz.f192 (RetP B I0 w0 Φ E) (.panic [{v:=unfV,recovered:=false}]) a w:=by
 show LeavesIn _ _ _ _ _ _ a.defers (.panicking [{v:=unfV,recovered:=false}]) w;rw[s.ds];obtain⟨I,hw,he,hh,hv⟩:=s.mem;obtain⟨hB,vs,hb,hr,hni⟩:=hh.ok _ (.head _);have hvs:vs= #[.bool x]:=by
  have h1:=rel_vals (vs:=[.bool x]) hr;exact Array.toList_inj.1 h1
 subst hvs;have hlt:tb<w.heap.size:=(Array.getElem?_eq_some_iff.1 hb).1;refine leavesIn_cons (f:=221) (args:=#[.pointer (some ⟨tb,0,none⟩)]) Yx (by simp[Eng.FW]) (invoke_dfr tb w) (λ_ _=>trivial) ?_;refine (catch_panicking tb x w (by rw[cell_of_blk hb];rfl) (by simp[World.frozen?,hb]) hlt).mono ?_;rintro e u' w' ⟨rfl,rfl,rfl⟩;have hw1:=hw.alloc (.cells #[] 253);have hh1:=hh.alloc hw (.cells #[] 253);have hb1:(w.alloc (.cells #[] 253)).heap[tb]? =some (.cells #[.bool x] 4 (0,0)):=by rw[Go.RowKit.Below.heap_alloc w _ tb hlt];exact hb
 have hk1:=keeps_alloc hw (.cells #[] 253);have he1:=he.trans (ext_alloc hw (.cells #[] 253));have hv1:=hv.keep hk1;generalize w.alloc (.cells #[] 253)=w1 at*;have hset:(w1.setCell ⟨tb,0,none⟩ (.bool false)).heap[tb]? =some (.cells #[.bool false] 4 (0,0)):=one_setCell hb1;have hcell:∀b i,I b i->(w1.setCell ⟨tb,0,none⟩ (.bool false)).cell? ⟨b,i,none⟩=w1.cell? ⟨b,i,none⟩:=λb i hI=>
  World.cell?_of_block (a:=⟨b,i,none⟩) (Go.RowKit.Below.heap_setCell _ _ _ _ (λe=>hni i (by rw[<-(show b=tb from e)];exact hI)))
 have hk2:Keeps I w1 I (w1.setCell ⟨tb,0,none⟩ (.bool false)):=⟨λ_ _ h=>h,hcell⟩;have hbel:=(Go.RowKit.Below.refl B w1).setCell (p:=⟨tb,0,none⟩) hB (.bool false);exact leave_formed (x:=false) (env:=env) hΦ ⟨I,⟨Nat.le_trans hw1.base hbel.size,λb i hI=>by rw[hcell b i hI];exact hw1.there b i hI⟩,he1.trans ⟨λ_ _ h=>h,hcell,hbel⟩,
  hh1.upd (.head _ _ _) hk2 (λb _ hne=>Go.RowKit.Below.heap_setCell _ _ _ _ (λe=>hne (by rw[show b=tb from e];rfl))) (λ_ _ h=>.inl h) ⟨hB,#[.bool false],hset,.cons _ _ _ _ (.val _) .nil,hni⟩ (λ_ h=>.inl h),hv1.keep hk2⟩ ht
theorem formedC{g:Fn}{gs gc:List AV}{A Bp:List Ent->Prop}(hdo:∀B Hy,VCall B Tryz.prog (.fn g gs gc) [] (H++Hy) (λ_ H'=>∃H1,H'=H1++Hy/\A H1) (λy H'=>y=unfA/\∃Hf,H'=Hf++Hy/\Bp Hf)):
  ACall Tryz.prog 192 [.fn g gs gc] H (λx H'=>(x= .b true/\A H')\/(x= .b false/\Bp H')) (λ_ _=>False):=by
 refine ACall.mkD (n:=6) Tryz.func192 rfl Yf rfl rfl (λB I w0=>?_);refine Z2 ?_;refine OL.alC rfl rfl rfl rfl (λtb=>?_);refine Z5 ?_;refine OL.deferC (vs:=[.pointer (some ⟨tb,0,none⟩)]) rfl rfl rfl rfl rfl rfl ?_;refine Z3 ?_;refine CW.perm (List.perm_append_singleton _ _).symm ?_;refine Z2 ?_;refine OL.vcall rfl rfl rfl rfl rfl rfl rfl (AVleL.refl _) (hdo B [.blk tb 4 [.b false]]) ?_ ?_
 ·rintro y _ ⟨H1,rfl,hA⟩;refine Z3 ?_;refine CW.perm (List.perm_append_singleton _ _) ?_;refine Z5 ?_;intro a w s;exact ret_formed (.inl ⟨rfl,hA⟩) s rfl
 ·rintro y H2 ⟨rfl,Hf,rfl,hB⟩ a w s I v hv;rw[unf_c.is _ _ _ hv];exact pan_formed (.inr ⟨rfl,hB⟩) (s.perm (List.perm_append_singleton _ _)) rfl
theorem sizesC{p:Prog}(hp:p.Small)(H:List Ent):ACall Tryz.prog 144 [AV.prog p] H (λy H'=>H'=H/\((∃o,sizesP p=some o/\y= .tup [AV.ints o,.b true])\/(sizesP p=none/\∃v,y= .tup [.val v,.b false]))) (λ_ _=>False):=by
 refine aC (n:=10) Tryz.func144 λB I w0=>?_;refine Z9 ?_;refine OL.alC rfl rfl rfl rfl (λob=>?_);refine Z5 ?_;refine bC .k (formedC (H:=.blk ob 23 [.val (.slice none 0 0)]::H) (A:=λH1=>∃nb o,sizesP p=some o/\H1=outH ob nb p.nodes.length o++H) (Bp:=λHf=>sizesP p=none/\∃v,Hf= .blk ob 23 [.val v]::H)
  (λB Hy=>VCall.fn ((sizes1 hp ob (H++Hy)).imp (λy H'=>?_) (λy H'=>?_)))).b ?_
 ·rintro⟨nb,o,h1,rfl⟩;exact⟨outH ob nb p.nodes.length o++H,by rw[List.append_assoc],nb,o,h1,rfl⟩
 ·rintro⟨rfl,h1,v,rfl⟩;exact⟨rfl,.blk ob 23 [.val v]::H,rfl,h1,v,rfl⟩
 rintro y H1 (⟨rfl,nb,o,hs,rfl⟩ | ⟨rfl,hs,v,rfl⟩)
 ·have hol:=sizes_len hs;refine Z6 ?_
  first | (refine OL.eqH (H':=.blk ob 23 [(.val (.slice (some ⟨nb,0,none⟩) p.nodes.length p.nodes.length))]::.blk nb 3 ((o.map λn=>[AV.i n]).flatten++[])::H) (by rw[<-ints_flat];rfl) ?_;refine OL.freezeS (k:=1) (d:=8) rfl (.tail _ _ _ _ (.head _ _)) (by rw[List.length_map];exact hol.1) (λe he=>by obtain⟨y,_,rfl⟩:=List.mem_map.1 he;rfl) (Nat.le_refl _) Y0 ?_) | skip
  refine Z6 ?_;refine rR [.tmp 2,.tmp 3] (H) ?_;exact⟨rfl,.inl ⟨o,hs,rfl⟩⟩
 ·refine Z6 ?_
  first | (refine OL.eqH (H':=.blk ob 23 [(.val (.slice (some ⟨nb,0,none⟩) p.nodes.length p.nodes.length))]::.blk nb 3 ((o.map λn=>[AV.i n]).flatten++[])::H) (by rw[<-ints_flat];rfl) ?_;refine OL.freezeS (k:=1) (d:=8) rfl (.tail _ _ _ _ (.head _ _)) (by rw[List.length_map];exact hol.1) (λe he=>by obtain⟨y,_,rfl⟩:=List.mem_map.1 he;rfl) (Nat.le_refl _) Y0 ?_) | skip
  refine Z6 ?_;refine rR [.tmp 2,.tmp 3] (H) ?_;exact⟨rfl,.inr ⟨hs,v,rfl⟩⟩
theorem checkB{p:Prog}(hp:p.Small):PCall Tryz.prog 72 [AV.prog p] (.i (if(sizesP p).isSome then 0 else 2)):=by
 intro H;refine aC (n:=12) Tryz.func72 λB I w0=>?_;refine Z10 ?_;refine bC .k (sizesC hp H).b ?_;rintro y H1 ⟨e,⟨o,hs,rfl⟩ | ⟨hs,v,rfl⟩⟩
 ·replace e:=e.symm;subst e;refine Z13 ?_;refine CW.cond rfl (λh0=>?_) (λh0=>?_)
  ·simp at h0
  ·replace h0:=nm h0;refine Z8 ?_;refine r1 2 (H) ?_;exact⟨by rw[hs];rfl,rfl⟩
 ·replace e:=e.symm;subst e;refine Z13 ?_;refine CW.cond rfl (λh1=>?_) (λh1=>?_)
  ·replace h1:=nm h1;refine Z7 ?_;refine r1 2 (H) ?_;exact⟨by rw[hs];rfl,rfl⟩
  ·simp at h1
theorem ownB{p:Prog}(hp:p.Small)(c:Int):PCall Tryz.prog 172 [AV.prog p,.i c] (.b (ownC p c)):=by
 intro H;refine aC (n:=20) Tryz.func172 λB I w0=>?_;have hpc:=hp.classes;refine Z20 ?_;refine OL.guardC rfl rfl rfl rfl rfl rfl (λhg=>POp.call (.mk' rfl rfl rfl rfl Yc) ((checkB hp))) ?_;refine Z6 ?_;refine r1 4 (H) ?_;exact⟨retB (by unfold ownC;rw[Bool.cond_false_right,Bool.cond_false_right,if_zero]),rfl⟩
theorem hasB{p:Prog}(hp:p.Small)(c:Int):PCall Tryz.prog 105 [AV.prog p,.i c] (.tup [AV.ints (if ownC p c then hasP p c else []),.i (if ownC p c then 0 else 2)]):=by
 intro H;refine aC (n:=13) Tryz.func105 λB I w0=>?_;refine Z12 ?_;refine oP (POp.call .k ((ownB hp _))) ?_;refine Z3 ?_;refine cd (λh0=>?_) λh0=>?_
 ·refine Z8 ?_;refine Done.retR (rs:=[.tmp 4,.tmp 5]) (H':=H) rfl (.tmp rfl (.tmp rfl (.nil))) (.cons (AVle.nil 1) (.cons (.refl _) .nil)) Yb ?_;exact⟨by rw[show ownC p c=false by simpa using h0];rfl,rfl⟩
 ·refine Z3 ?_;have ho:ownC p c=true:=by simpa using h0
  obtain⟨hc3,hcl⟩:=own_parts ho;obtain⟨hc10,hcs⟩:=classes_small hcl
  ·refine Z3 ?_;refine oP (POp.call .k (hasC p Yd (λc h=>(hcs c h).2) (classes_keys hcl) (k:=c) Yax Yd)) ?_;refine Z5 ?_;refine rR [.tmp 4,.tmp 5] (H) ?_;exact⟨by rw[ho];rfl,rfl⟩
theorem valueC(x:Int×Int)(n:Int):PCall Tryz.prog 175 [AV.mv x,.i n] (.b (valueP n x)):=by
 intro H;refine aC (n:=33) Tryz.func175 λB I w0=>?_;refine Z20 ?_;refine cd (λh0=>?_) λh0=>?_
 ·refine Z16 ?_;refine r1 4 (H) ?_;exact⟨retB Ya3,rfl⟩
 ·refine Z6 ?_;refine cd (λh1=>?_) λh1=>?_
  ·refine Z11 ?_;refine r1 4 (H) ?_;exact⟨retB Ya3,rfl⟩
  ·refine Z6 ?_;refine cd (λh2=>?_) λh2=>?_
   ·refine Z17 ?_;refine r1 4 (H) ?_;exact⟨retB Ya3,rfl⟩
   ·refine Z9 ?_;refine r1 4 (H) ?_;exact⟨retB Ya3,rfl⟩
theorem values1(n:Int)(x:Int×Int):PCall Tryz.prog 174 [AV.mv x,.ptr [.i n]] (.b (!valueP n x)):=by
 intro H;refine aC (n:=8) Tryz.func174 λB I w0=>?_;refine Z10 ?_;refine oP (POp.call .k (valueC x n)) ?_;refine Z5 ?_;refine r1 3 (H) ?_;exact⟨Yg,rfl⟩
theorem idxMV{f:Fn}(hg:PredOk Tryz.prog (.fn f fs cs) AV.mv q)(l:List (Int×Int)):PCall Tryz.prog 102 [AV.mvs l,.fn f fs cs] (.i (idxG l q)):=by
 intro H;refine aC (n:=19) Tryz.func102 λB I w0=>?_;refine CW.boundM (t:=0) rfl (λhb0=>?_);refine Z14 ?_;refine lj (λm st=>∃k:Nat,st=⟨[(8,.i k),(7,.i l.length),(0,AV.mvs l),(1,.fn f fs cs)],H⟩/\m=l.length - k/\k<=l.length/\∀x∈l.take k,q x=false) (⟨0,rfl,rfl,Yx,Yx⟩) ?_;rintro m _ ⟨k,rfl,rfl,hk,hp⟩;refine Z6 ?_;refine cd (λh0=>?_) λh0=>?_
 ·have hkl:k<l.length:=by omega
  refine Z17 ?_;refine OL.vcallC rfl rfl rfl rfl rfl rfl rfl rfl (AVleL.refl _) (hg B _ _) ?_;rintro _ H1 ⟨rfl,e⟩;replace e:=e.symm;subst e;refine Z2 ?_;refine cd (λh1=>?_) λh1=>?_
  ·refine Z12 ?_;refine r1 4 (H) ?_;exact⟨retI (idxG_at hkl hp h1),rfl⟩
  ·refine Z7 ?_;exact ag (⟨k+1,rfl,rfl,hkl,λx hx=>by rw[<-take_getD hkl,List.mem_append,List.mem_singleton] at hx;rcases hx with hx | rfl;exact hp x hx;exact h1⟩)
 ·refine Z11 ?_;refine r1 4 (H) ?_;exact⟨retI (idxG_none Yah),rfl⟩
theorem hasMV{f:Fn}(hg:PredOk Tryz.prog (.fn f fs cs) AV.mv q)(l:List (Int×Int)):PCall Tryz.prog 36 [AV.mvs l,.fn f fs cs] (.b (l.any q)):=by
 intro H;refine aC (n:=9) Tryz.func36 λB I w0=>?_;refine Z9 ?_;refine oP (POp.call .k (idxMV hg l)) ?_;refine Z5 ?_;refine r1 4 (H) ?_;exact⟨retB (idxG_any _ _),rfl⟩
theorem valuesC(l:List (Int×Int))(n:Int):PCall Tryz.prog 106 [AV.mvs l,.i n] (.b (l.all (valueP n))):=by
 intro H;refine aC (n:=9) Tryz.func106 λB I w0=>?_;refine Z10 ?_;refine oP (POp.call .k (hasMV (.of (values1 n)) l)) ?_;refine Z5 ?_;refine r1 4 (H) ?_;exact⟨retB (all_valueP n l),rfl⟩
theorem meanCheck{p:Prog}(hp:p.Small)(objs:List Th):PCall Tryz.prog 45 [AV.prog p,AV.ths objs] (.i (if checkP p objs then 0 else 2)):=by
 intro H;refine aC (n:=49) Tryz.func45 λB I w0=>?_;refine CW.boundM (t:=1) rfl (λhb1=>?_);refine Z10 ?_;refine oP (POp.call .k (checkB hp)) ?_;refine Z8 ?_;refine cd (λh0=>?_) λh0=>?_
 ·have hno:checkP p objs=false:=by
   unfold checkP;cases hs:(sizesP p).isSome with
   | false=>rfl
   | true=>rw[hs] at h0;simp at h0;rw[show decide (objs.length<=40)=false by simp;omega];rfl
  refine Z7 ?_;refine r1 4 (H) ?_;exact⟨Ybp,rfl⟩
 ·have hs:(sizesP p).isSome=true/\objs.length<=40:=by
   cases hs:(sizesP p).isSome with
   | false=>rw[hs] at h0;simp at h0
   | true=>rw[hs] at h0;simp at h0;exact⟨rfl,Yd⟩
  refine Z11 ?_;refine lj (λm st=>∃i:Nat,st=⟨[(19,.i i),(18,.i objs.length),(17,AV.ths objs),(2,.ptr (progC p)),(1,AV.ths objs)],H⟩/\m=objs.length - i/\i<=objs.length/\(objs.take i).all (thingP p objs.length)=true) (⟨0,rfl,rfl,Yd,rfl⟩) ?_;rintro m _ ⟨i,rfl,rfl,hi,hA⟩;refine Z6 ?_;refine cd (λh1=>?_) λh1=>?_
  ·have hil:i<objs.length:=by omega
   obtain⟨T,hT⟩:∃T,T=objs.getD i default:=⟨_,rfl⟩;refine Z8 ?_;refine OL.alC rfl rfl rfl rfl (λb0=>?_);refine Z4 ?_;rw[<-hT];refine Z4 ?_;refine oP (POp.call .k (hasB hp T.cls)) ?_;refine Z8 ?_;refine CW.freezeP (d:=6) rfl Yl ?_;refine Z16 ?_;refine OL.guardC rfl rfl rfl rfl rfl rfl (λhg=>POp.call (.mk' rfl rfl rfl rfl Yc) (valuesC T.slots objs.length)) ?_;refine Z4 ?_;have hth:thingP p objs.length T= !(bif bif (if ownC p T.cls then (0:Int) else 2) !=0 then true else ((if ownC p T.cls then hasP p T.cls else []).length:Int) !=(T.slots.length:Int) then true else !T.slots.all (valueP objs.length)):=thing_eq p _ T;refine CW.cond rfl (λh2=>?_) (λh2=>?_)
   ·rw[h2] at hth;refine Z11 ?_;refine r1 4 (H) ?_;exact⟨by rw[chk_no hil (by rw[<-hT,hth];rfl)];rfl,rfl⟩
   ·rw[h2] at hth;refine Z7 ?_;exact ag (⟨i+1,rfl,rfl,hil,chk_step hil hA (by rw[<-hT,hth];rfl)⟩)
  ·obtain rfl:i=objs.length:=by omega
   rw[List.take_length] at hA;refine Z11 ?_;refine r1 4 (H) ?_;exact⟨by unfold checkP;rw[hs.1,decide_eq_true hs.2,hA];rfl,rfl⟩
end Go.Proofs.YtpgnjlngepfanaaGreat

namespace Go.Eng.Bd
open Go.Eng.Fc
variable{n:Nat}{l:List Int}{v:Int×Int}
def meet1(l:List Int)(v:Int×Int):List Int:=if v.1=3/\¬v.2∈l then l++[v.2] else l
def meetP(vals:List (Int×Int))(l:List Int):List Int:=vals.foldl meet1 l
def thOf(objs:List Th)(n:Int):Th:=objs.getD n.toNat default
def reachN(objs:List Th):Nat->Nat->List Int->List Int
 | 0,_,l=>l
 | f+1,i,l=>if i<l.length then reachN objs f (i+1) (meetP (thOf objs (l.getD i default)).slots l) else l
def reachP(objs:List Th)(roots:List (Int×Int)):List Int:=reachN objs (objs.length+1) 0 (meetP roots [])
structure RouteOk(n:Nat)(l:List Int):Prop where
 nodup:l.Nodup
 in_:∀x∈l,0<=x/\x<n
theorem RouteOk.nil(n:Nat):RouteOk n []:=⟨Yx,Yx⟩
theorem RouteOk.len(h:RouteOk n l):l.length<=n:=by
 have:=List.Nodup.length_le_of_subset (l₂:=(List.range n).map Int.ofNat) h.nodup (λy hy=>by
  obtain⟨h1,h2⟩:=h.in_ y hy;exact List.mem_map.2 ⟨y.toNat,YI,YI⟩)
 simpa using this
theorem valueP_obj(h:valueP n v=true)(h3:v.1=3):0<=v.2/\v.2<n:=by
 unfold valueP at h;rw[if_neg Yd,if_neg Yd,if_pos h3,Bool.and_eq_true,decide_eq_true_eq,decide_eq_true_eq] at h;exact h
theorem valueP_key(hn:n<=1000000)(h:valueP n v=true): -1000000000<=v.2/\v.2<=1000000000:=by
 unfold valueP inP at h;split at h
 ·simp only[Bool.and_eq_true,decide_eq_true_eq] at h;exact h
 split at h
 ·rw[beq_iff_eq] at h;omega
 split at h
 ·simp only[Bool.and_eq_true,decide_eq_true_eq] at h;omega
 ·cases h
theorem meet1_ok(h:RouteOk n l)(hv:valueP n v=true):RouteOk n (meet1 l v):=by
 unfold meet1;split
 ·rename_i hc;refine⟨List.nodup_append.2 ⟨h.nodup,Yx,λa ha b hb e=>?_⟩,λx hx=>?_⟩
  ·simp at hb;subst hb;subst e;exact hc.2 ha
  ·rcases List.mem_append.1 hx with hx | hx
   ·exact h.in_ x hx
   ·simp at hx;subst hx;exact valueP_obj hv hc.1
 ·exact h
theorem meet1_pre(l:List Int)(v:Int×Int):l<+:meet1 l v:=by
 unfold meet1;split
 ·exact⟨[v.2],rfl⟩
 ·exact List.prefix_refl _
theorem meet1_has(h3:v.1=3):v.2∈meet1 l v:=by
 unfold meet1;split
 ·simp
 ·rename_i hc;exact Classical.byContradiction λhn=>hc ⟨h3,hn⟩
theorem meet1_from:∀x∈meet1 l v,x∈l\/v=(3,x):=by
 intro x hx;unfold meet1 at hx;split at hx
 ·rename_i hc;rcases List.mem_append.1 hx with hx | hx
  ·exact .inl hx
  ·simp at hx;subst hx;exact .inr (Prod.ext hc.1 rfl)
 ·exact .inl hx
theorem meetP_cons(v:Int×Int)(r:List (Int×Int))(l:List Int):meetP (v::r) l=meetP r (meet1 l v):=rfl
theorem meetP_snoc(v:Int×Int)(r:List (Int×Int))(l:List Int):meetP (r++[v]) l=meet1 (meetP r l) v:=by simp[meetP]
theorem meetP_ok{n:Nat}:∀(vals:List (Int×Int)) (l:List Int),RouteOk n l->vals.all (valueP n)=true->RouteOk n (meetP vals l)
 | [],l,h,_=>h
 | v::r,l,h,hv=>by
  rw[List.all_cons,Bool.and_eq_true] at hv;exact meetP_ok r _ (meet1_ok h hv.1) hv.2
theorem meetP_pre:∀(vals:List (Int×Int)) (l:List Int),l<+:meetP vals l
 | [],l=>List.prefix_refl _
 | v::r,l=>(meet1_pre l v).trans (meetP_pre r _)
theorem meetP_has:∀(vals:List (Int×Int)) (l:List Int),∀v∈vals,v.1=3->v.2∈meetP vals l
 | [],l,v,hv,_=>by cases hv
 | y::r,l,v,hv,h3=>by
  rcases List.mem_cons.1 hv with rfl | hv
  ·exact (meetP_pre r _).subset (meet1_has h3)
  ·exact meetP_has r _ v hv h3
theorem meetP_from:∀(vals:List (Int×Int)) (l:List Int),∀x∈meetP vals l,x∈l\/(3,x)∈vals
 | [],l,x,hx=>.inl hx
 | y::r,l,x,hx=>by
  rcases meetP_from r _ x hx with hx | hx
  ·rcases meet1_from x hx with hx | hx
   ·exact .inl hx
   ·exact .inr (by rw[hx];exact .head _)
  ·exact .inr (.tail _ hx)
structure Reached(objs:List Th)(roots:List (Int×Int))(i:Nat)(l:List Int):Prop where
 ok:RouteOk objs.length l
 rts:∀v∈roots,v.1=3->v.2∈l
 sls:∀j,j<i->∀v∈(thOf objs (l.getD j default)).slots,v.1=3->v.2∈l
 from_:∀k,k<l.length->(3,l.getD k default)∈roots\/∃j,j<k/\(3,l.getD k default)∈(thOf objs (l.getD j default)).slots
theorem getD_pre{l m:List Int}(h:l<+:m){k:Nat}(hk:k<l.length):m.getD k default=l.getD k default:=by
 obtain⟨t,rfl⟩:=h;rw[List.getD_eq_getElem?_getD,List.getElem?_append_left hk, <-List.getD_eq_getElem?_getD]
theorem Reached.begin{objs:List Th}{roots:List (Int×Int)}(hr:roots.all (valueP objs.length)=true):Reached objs roots 0 (meetP roots []):=
 ⟨meetP_ok _ _ (.nil _) hr,meetP_has roots [],λj hj=>by omega,λk hk=>.inl (by
  rcases meetP_from roots [] _ (getD_memB hk) with h | h
  ·cases h
  ·exact h)⟩
theorem Reached.step{objs:List Th}{roots:List (Int×Int)}(hv:∀t∈objs,t.slots.all (valueP objs.length)=true){i:Nat}{l:List Int}(h:Reached objs roots i l)(hi:i<l.length):Reached objs roots (i+1) (meetP (thOf objs (l.getD i default)).slots l):=by
 obtain⟨T,hT⟩:∃T,T=thOf objs (l.getD i default):=⟨_,rfl⟩;rw[<-hT];have hp:=meetP_pre T.slots l;have hn:=h.ok.in_ _ (getD_memB hi);have hTm:T∈objs:=by
  rw[hT,thOf];exact getD_memB Yd
 refine⟨meetP_ok _ _ h.ok (hv T hTm),λv hv h3=>hp.subset (h.rts v hv h3),λj hj v hv h3=>?_,λk hk=>?_⟩
 ·by_cases hji:j=i
  ·subst hji;rw[getD_pre hp hi, <-hT] at hv;exact meetP_has T.slots l v hv h3
  ·rw[getD_pre hp Yd] at hv;exact hp.subset (h.sls j Yd v hv h3)
 ·by_cases hkl:k<l.length
  ·rw[getD_pre hp hkl];rcases h.from_ k hkl with h1 | ⟨j,hj,h1⟩
   ·exact .inl h1
   ·exact .inr ⟨j,hj,by rw[getD_pre hp Yd];exact h1⟩
  ·rcases meetP_from T.slots l _ (getD_memB hk) with h1 | h1
   ·exfalso;obtain⟨j,hj,hje⟩:=List.mem_iff_getElem.1 h1;have hnd:=(meetP_ok _ _ h.ok (hv T hTm)).nodup;have e1:(meetP T.slots l)[j]'(by have:=hp.length_le;omega)=l[j]:=by
     obtain⟨t,ht⟩:=hp;simp only[<-ht];exact List.getElem_append_left hj
    have e2:(meetP T.slots l).getD k default=(meetP T.slots l)[k]:=by rw[List.getD_eq_getElem?_getD,List.getElem?_eq_getElem hk];rfl
    rw[e2, <-e1] at hje;exact List.pairwise_iff_getElem.1 hnd j k (by have:=hp.length_le;omega) hk Yd hje
   ·exact .inr ⟨i,Yd,by rw[getD_pre hp hi, <-hT];exact h1⟩
theorem reachN_ok{objs:List Th}{roots:List (Int×Int)}(hv:∀t∈objs,t.slots.all (valueP objs.length)=true):∀(f i:Nat) (l:List Int),Reached objs roots i l->objs.length<f+i->∃i',Reached objs roots i' (reachN objs f i l)/\(reachN objs f i l).length<=i'
 | 0,i,l,h,hf=>⟨i,h,by have:=h.ok.len;show l.length<=i;omega⟩
 | f+1,i,l,h,hf=>by
  rw[reachN];split
  ·rename_i hi;exact reachN_ok hv f (i+1) _ (h.step hv hi) Yd
  ·exact⟨i,h,Yd⟩
theorem reach_ok{objs:List Th}{roots:List (Int×Int)}(hr:roots.all (valueP objs.length)=true)(hv:∀t∈objs,t.slots.all (valueP objs.length)=true):∃i,Reached objs roots i (reachP objs roots)/\(reachP objs roots).length<=i:=
 reachN_ok hv _ _ _ (.begin hr) Yd
structure MapAt(m:List (Int×AV))(l:List Int):Prop where
 ok:IMapOk m
 get:∀k:Int,getI m k=if k∈l then some (.i (idxB l k)) else none
theorem MapAt.nil:MapAt [] []:=⟨.nil,λk=>by simp[getI]⟩
theorem idxB_append{k x:Int}(h:k∈l):idxB (l++[x]) k=idxB l k:=by
 unfold idxB;rw[List.findIdx?_append];cases hq:l.findIdx? (λx=>x==k) with
 | none=>
  rw[List.findIdx?_eq_none_iff] at hq;have:=hq k h;simp at this
 | some i=>rfl
theorem idxB_new{x:Int}(h: ¬x∈l):idxB (l++[x]) x=l.length:=by
 unfold idxB;rw[List.findIdx?_append,List.findIdx?_eq_none_iff.2 (λy hy=>by
  have:y≠x:=λe=>h (e▸hy);simpa using this)]
 simp
theorem MapAt.put{m:List (Int×AV)}{l:List Int}(h:MapAt m l){k:Int}(hk:smallKey k)(hn: ¬k∈l):MapAt (putI m k (.i l.length)) (l++[k]):=by
 refine⟨h.ok.put hk _,λk'=>?_⟩;rw[getI_put,h.get];by_cases h1:k'=k
 ·subst h1;rw[if_pos rfl,if_pos Yx,idxB_new hn]
 ·rw[if_neg h1];by_cases h2:k'∈l
  ·rw[if_pos h2,if_pos (by simp[h2]),idxB_append h2]
  ·rw[if_neg h2,if_neg (by simp[h1,h2])]
theorem MapAt.has{m:List (Int×AV)}(h:MapAt m l)(k:Int):(getI m k).isSome=l.contains k:=by
 rw[h.get];by_cases h1:k∈l
 ·rw[if_pos h1,List.contains_iff_mem.2 h1];rfl
 ·rw[if_neg h1,show l.contains k=false by simpa using h1];rfl
end Go.Eng.Bd

namespace Go.Eng.Im
variable{i a n j k c:Nat}{α:Type}{b:Bool}
abbrev U8:=Fin 256
abbrev u8(x:U8):AV:=.val (.int .u8 (x.val:Int))
abbrev u8s(l:List U8):AV:=.sl 1 (l.map λx=>[u8 x])
def numR:Nat->Bool->List U8->Option (Nat×List U8)
 | 0,_,_=>none
 | _+1,_,[]=>none
 | g+1,first,x::r=>
  if x.val<128 then (if first || decide (0<x.val) then some (x.val,r) else none)
  else match numR g false r with
   | some (n,r')=>some (x.val - 128+128*n,r')
   | none=>none
def numberR(l:List U8):Option (Nat×List U8):=numR 5 true l
def manyR(l:List U8):Option (Nat×List U8):=
 match numberR l with
 | some (n,r)=>if n<=r.length then some (n,r) else none
 | none=>none
def sumStep(p:Nat×Nat)(x:U8):Nat×Nat:=((p.1+x.val)%65521,(p.2+(p.1+x.val)%65521)%65521)
def sumP(l:List U8):Nat×Nat:=l.foldl sumStep (1,0)
def byteOf(n:Nat):U8:=⟨n%256,Nat.mod_lt _ YJ⟩
def sumR(kind:U8)(body:List U8):List U8:=
 let p:=sumP (kind::body)
 [byteOf (p.2 / 256),byteOf p.2,byteOf (p.1 / 256),byteOf p.1]
structure Sec where
 kind:U8
 body:List U8
 damaged:Bool
def secR:List U8->Option (Sec×List U8)
 | []=>none
 | k::r=>
  match manyR r with
  | some (n,r1)=>
   if 4<=(r1.drop n).length then some (⟨k,r1.take n,!((r1.drop n).take 4==sumR k (r1.take n))⟩,(r1.drop n).drop 4) else none
  | none=>none
def secsR:Nat->List U8->List Sec×Bool
 | 0,l=>([],decide (l= []))
 | _+1,[]=>([],true)
 | f+1,l=>match secR l with
  | some (s,r)=>(s::(secsR f r).1,(secsR f r).2)
  | none=>([],false)
def secsOf(l:List U8):List Sec×Bool:=secsR l.length l
def splitR:List U8->Option (U8×List Sec)
 | a::m::r=>if a.val=67/\(m.val=79\/m.val=80)/\(secsOf r).2=true then some (m,(secsOf r).1) else none
 | _=>none
theorem numR_len:∀{g:Nat} {first:Bool} {l:List U8} {n:Nat} {r:List U8},numR g first l=some (n,r)->r.length<l.length
 | 0,_,_,_,_,h=>by simp[numR] at h
 | g+1,_,[],_,_,h=>by simp[numR] at h
 | g+1,first,x::l,n,r,h=>by
  rw[numR] at h;split at h
  ·split at h
   ·simp at h;obtain⟨_,rfl⟩:=h;simp
   ·cases h
  ·split at h
   ·rename_i m r' h';simp at h;obtain⟨_,rfl⟩:=h;have:=numR_len h';simp;omega
   ·cases h
theorem numR_lt:∀{g:Nat} {first:Bool} {l:List U8} {n:Nat} {r:List U8},numR g first l=some (n,r)->n<128^g
 | 0,_,_,_,_,h=>by simp[numR] at h
 | g+1,_,[],_,_,h=>by simp[numR] at h
 | g+1,first,x::l,n,r,h=>by
  rw[numR] at h;have hx:=x.isLt;have hp:128^(g+1)=128^g*128:=rfl;have h0:0<128^g:=Nat.pow_pos YJ;split at h
  ·split at h
   ·simp at h;obtain⟨rfl,_⟩:=h;omega
   ·cases h
  ·split at h
   ·rename_i m r' h';simp at h;obtain⟨rfl,_⟩:=h;have:=numR_lt h';omega
   ·cases h
theorem u8_and127:∀x:U8,bitI .and .u8 (x.val:Int) 127=some ((x.val%128:Nat):Int):=by decide+kernel
theorem p128(i:Nat):(128:Nat)^i=2^(7*i):=by rw[Nat.pow_mul]
theorem p128_le(hi:i<5):(128:Nat)^i<=268435456:=by
 have:i=0\/i=1\/i=2\/i=3\/i=4:=by omega
 rcases this with rfl | rfl | rfl | rfl | rfl <;> decide
theorem sh7(ha:a<128)(hi:i<5):shI .shl .i64 (a:Int) (7*(i:Int))=some ((a*128^i:Nat):Int):=by
 have e:min (7*(i:Int)).toNat IntKind.i64.bits=7*i:=by simp[IntKind.bits];omega
 have hm:a*128^i<=127*268435456:=Nat.mul_le_mul Yd (p128_le hi);show some (IntKind.i64.wrap _)=_;rw[e];have e2:(a:Int)*2^(7*i)=((a*128^i:Nat):Int):=by rw[p128];simp
 rw[e2,wrap64 Yd]
theorem bv64i(n:Nat)(h:n<18446744073709551616):(BitVec.ofInt IntKind.i64.bits (n:Int)).toNat=n:=by
 simp[IntKind.bits];omega
theorem or7(hn:n<128^i)(ha:a<128)(hi:i<5):bitI .or .i64 (n:Int) ((a*128^i:Nat):Int)=some ((n+128^i*a:Nat):Int):=by
 have hp:=p128_le hi;have hm:a*128^i<=127*268435456:=Nat.mul_le_mul Yd hp;show some (IntKind.i64.wrap _)=_;rw[BitVec.toNat_or,bv64i n Yd,bv64i _ Yd];have e:n ||| a*128^i=n+128^i*a:=by
  rw[Nat.or_comm,Nat.mul_comm,Nat.add_comm n];rw[p128] at hn ⊢;exact (Nat.two_pow_add_eq_or_of_lt hn a).symm
 rw[e,wrap64 (by rw[Nat.mul_comm];omega)]
theorem numR_step{g:Nat}{first:Bool}{x:U8}{l:List U8}(hx: ¬x.val<128):numR (g+1) first (x::l)=(numR g false l).map λp=>(x.val - 128+128*p.1,p.2):=by
 rw[numR,if_neg hx];cases numR g false l <;> rfl
theorem numR_nil(g:Nat)(first:Bool):numR g first []=none:=by cases g <;> rfl
theorem numR_last{g:Nat}{first:Bool}{x:U8}{l:List U8}(hx:x.val<128):numR (g+1) first (x::l)=if(first || decide (0<x.val))=true then some (x.val,l) else none:=by
 rw[numR,if_pos hx]
structure NumAt(l:List U8)(i n:Nat)(l':List U8):Prop where
 le:i<=5
 lt:n<128^i
 eq:numberR l=(numR (5 - i) (decide (i=0)) l').map λp=>(n+128^i*p.1,p.2)
theorem NumAt.begin(l:List U8):NumAt l 0 0 l:=⟨Yd,YJ,by rw[numberR];show _=(numR 5 true l).map _;cases numR 5 true l <;> simp⟩
theorem NumAt.empty{l:List U8}(h:NumAt l i n []):numberR l=none:=by rw[h.eq,numR_nil];rfl
theorem NumAt.long{l:List U8}{l':List U8}(h:NumAt l i n l')(hi: ¬i<5):numberR l=none:=by
 have:=h.le;rw[h.eq,show 5 - i=0 by omega];rfl
theorem NumAt.step{l:List U8}{x:U8}{r:List U8}(h:NumAt l i n (x::r))(hi:i<5)(hx: ¬x.val<128):NumAt l (i+1) (n+128^i*(x.val%128)) r:=by
 have h1:=h.lt;have hm:x.val%128<128:=Nat.mod_lt _ YJ;have hp:128^(i+1)=128^i*128:=rfl;have hl:x.val<256:=x.isLt;refine⟨Yd,?_,?_⟩
 ·rw[hp];have:128^i*(x.val%128)<=128^i*127:=Nat.mul_le_mul_left _ Yd;omega
 ·rw[h.eq,show 5 - i=(5 - (i+1))+1 by omega,numR_step hx,show decide (i+1=0)=false by simp];cases numR (5 - (i+1)) false r with
  | none=>rfl
  | some p=>
   simp only[Option.map_some,Option.some.injEq,Prod.mk.injEq,and_true];rw[show x.val%128=x.val - 128 by omega,hp,Nat.mul_add,Nat.mul_assoc];omega
theorem NumAt.last{l:List U8}{x:U8}{r:List U8}(h:NumAt l i n (x::r))(hi:i<5)(hx:x.val<128)(hg:i=0\/0<x.val):numberR l=some (n+128^i*(x.val%128),r):=by
 rw[h.eq,show 5 - i=(5 - (i+1))+1 by omega,numR_last hx,if_pos (by simpa using hg),Nat.mod_eq_of_lt hx];rfl
theorem NumAt.bad{l:List U8}{x:U8}{r:List U8}(h:NumAt l i n (x::r))(hi:i<5)(hx:x.val<128)(hg: ¬(i=0\/0<x.val)):numberR l=none:=by
 rw[h.eq,show 5 - i=(5 - (i+1))+1 by omega,numR_last hx,if_neg (by simpa using hg)];rfl
theorem u8_wrap(m:Nat):IntKind.u8.wrap (m:Int)=((byteOf m).val:Int):=by
 simp only[IntKind.wrap,IntKind.bits,IntKind.signed,byteOf];simp
theorem u8_wrap8(x:U8):IntKind.u8.wrap (x.val:Int)=(x.val:Int):=by
 rw[u8_wrap];simp[byteOf,Nat.mod_eq_of_lt x.isLt]
theorem shr8(n:Nat):shI .shr .i64 (n:Int) 8=some ((n / 256:Nat):Int):=by
 show some ((n:Int).fdiv (2^8))=_;congr 1;exact (Int.ofNat_fdiv n 256).symm
theorem sum_lt:∀(l:List U8) (p:Nat×Nat),p.1<65521->p.2<65521->(l.foldl sumStep p).1<65521/\(l.foldl sumStep p).2<65521
 | [],_,h1,h2=>⟨h1,h2⟩
 | x::l,p,_,_=>sum_lt l _ (Nat.mod_lt _ YJ) (Nat.mod_lt _ YJ)
theorem sumP_lt(l:List U8):(sumP l).1<65521/\(sumP l).2<65521:=sum_lt l _ YJ YJ
theorem take_snoc[Inhabited α]{l:List α}{j:Nat}(h:j<l.length):l.take (j+1)=l.take j++[l.getD j default]:=by
 rw[List.take_succ_eq_append_getElem h,List.getD_eq_getElem?_getD,List.getElem?_eq_getElem h];rfl
theorem sumP_step{l:List U8}(h:j<l.length):sumP (l.take (j+1))=sumStep (sumP (l.take j)) (l.getD j default):=by
 rw[take_snoc h,sumP,List.foldl_append];rfl
theorem one_map{enc:α->List AV}(h:∀x,allOne (enc x)=true)(l:List α):(l.map enc).all allOne=true:=by
 rw[List.all_eq_true];intro x hx;obtain⟨a,_,rfl⟩:=List.mem_map.1 hx;exact h a
theorem tm_sum(a b:Nat):(((a+b)%65521:Nat):Int)=((a:Int)+(b:Int)).tmod 65521:=by
 rw[show (a:Int)+(b:Int)=((a+b:Nat):Int) by simp,show (65521:Int)=((65521:Nat):Int) by rfl, <-Int.ofNat_tmod]
abbrev secC(s:Sec):List AV:=[.i s.kind.val,u8s s.body,.b s.damaged]
abbrev secA(s:Sec):AV:=.agg (secC s)
theorem numberR_len{l:List U8}{r:List U8}(h:numberR l=some (n,r)):r.length<l.length:=numR_len h
theorem manyR_some{l:List U8}{r:List U8}(h:manyR l=some (n,r)):n<=r.length/\r.length<l.length:=by
 unfold manyR at h;split at h
 ·rename_i m r' h';split at h
  ·cases h;exact⟨YbA,numberR_len h'⟩
  ·cases h
 ·cases h
theorem secR_len{l:List U8}{s:Sec}{r:List U8}(h:secR l=some (s,r)):r.length<l.length:=by
 unfold secR at h;split at h
 ·cases h
 ·split at h
  ·rename_i k r0 n r1 hm;split at h
   ·cases h;have:=manyR_some hm;simp;omega
   ·cases h
  ·cases h
theorem secsR_fuel:∀(f:Nat) (l:List U8),l.length<=f->secsR f l=secsR l.length l
 | 0,[],_=>rfl
 | 0,_::_,h=>by simp at h
 | f+1,[],_=>rfl
 | f+1,x::l,h=>by
  rw[secsR,List.length_cons,secsR]
  ·cases hs:secR (x::l) with
   | none=>rfl
   | some p=>
    have h1:=secR_len (s:=p.1) (r:=p.2) hs;simp only[List.length_cons] at h1 h;simp only;rw[secsR_fuel f p.2 Yd,secsR_fuel l.length p.2 Yd]
  ·intro e;cases e
  ·intro e;cases e
theorem secsOf_step{l:List U8}{s:Sec}{r:List U8}(h:secR l=some (s,r)):secsOf l=(s::(secsOf r).1,(secsOf r).2):=by
 have h1:=secR_len h;unfold secsOf;cases l with
 | nil=>cases h
 | cons x l=>
  rw[List.length_cons,secsR]
  ·rw[h];simp only[List.length_cons] at h1;simp only;rw[secsR_fuel l.length r Yd]
  ·intro e;cases e
theorem secsOf_fail{l:List U8}(hn:l≠ [])(h:secR l=none):secsOf l=([],false):=by
 unfold secsOf;cases l with
 | nil=>exact absurd rfl hn
 | cons x l=>
  rw[List.length_cons,secsR]
  ·rw[h]
  ·intro e;cases e
structure SecAt(l:List U8)(pre:List Sec)(l':List U8):Prop where
 all:(secsOf l).1=pre++(secsOf l').1
 ok:(secsOf l).2=(secsOf l').2
 len:l'.length<=l.length
theorem SecAt.begin(l:List U8):SecAt l [] l:=⟨rfl,rfl,Nat.le_refl _⟩
theorem SecAt.step{l l' r:List U8}{pre:List Sec}{s:Sec}(h:SecAt l pre l')(hs:secR l'=some (s,r)):SecAt l (pre++[s]) r:=by
 have e:=secsOf_step hs;exact⟨by rw[h.all,e];simp,by rw[h.ok,e],by have:=secR_len hs;have:=h.len;omega⟩
theorem SecAt.pre{l l':List U8}{pre:List Sec}(h:SecAt l pre l'):pre<+:(secsOf l).1:=⟨_,h.all.symm⟩
theorem SecAt.stop{l:List U8}{pre:List Sec}(h:SecAt l pre []):(secsOf l).1=pre/\(secsOf l).2=true:=⟨by rw[h.all];simp[secsOf,secsR],by rw[h.ok];simp[secsOf,secsR]⟩
theorem SecAt.fail{l l':List U8}{pre:List Sec}(h:SecAt l pre l')(hn:l'≠ [])(hs:secR l'=none):(secsOf l).1=pre/\(secsOf l).2=false:=by
 have e:=secsOf_fail hn hs;exact⟨by rw[h.all,e];simp,by rw[h.ok,e]⟩
theorem secR_many{k:U8}{r:List U8}(h:manyR r=none):secR (k::r)=none:=by simp[secR,h]
theorem secR_short{k:U8}{r r1:List U8}(h:manyR r=some (n,r1))(h4: ¬4<=(r1.drop n).length):secR (k::r)=none:=by simp only[secR,h];rw[if_neg h4]
theorem secR_good{k:U8}{r r1:List U8}(h:manyR r=some (n,r1))(h4:4<=(r1.drop n).length):secR (k::r)=some (⟨k,r1.take n,!((r1.drop n).take 4==sumR k (r1.take n))⟩,(r1.drop n).drop 4):=by simp only[secR,h];rw[if_pos h4]
theorem secsR_count:∀(f:Nat) (l:List U8),l.length<=f->(secsR f l).1.length<=l.length
 | 0,_,_=>by simp[secsR]
 | f+1,[],_=>by simp[secsR]
 | f+1,x::l,h=>by
  rw[secsR]
  ·cases hs:secR (x::l) with
   | none=>simp
   | some p=>
    have h1:=secR_len (s:=p.1) (r:=p.2) hs;have h2:=secsR_count f p.2 (by simp only[List.length_cons] at h1 h;omega);simp only[List.length_cons] at h1 ⊢;omega
  ·intro e;cases e
theorem secs_count(l:List U8):(secsOf l).1.length<=l.length:=secsR_count _ l (Nat.le_refl _)
instance:Inhabited Sec:=⟨⟨default,[],false⟩⟩
def kindsP(l:List Sec):List (List AV):=l.map λs=>[AV.i s.kind.val]
def damP(l:List Sec)(n:Nat):List Int:=((List.range n).filter λi=>(l.getD i default).damaged).map λ(i:Nat)=>(i:Int)
abbrev damA(l:List Sec)(n:Nat):AV:=.sl 1 ((damP l n).map λn=>[AV.i n])
theorem kinds_snoc{l:List Sec}(h:j<l.length):kindsP (l.take (j+1))=kindsP (l.take j)++[[AV.i (l.getD j default).kind.val]]:=by
 rw[take_snoc h,kindsP,List.map_append];rfl
theorem dam_yes{l:List Sec}(h:(l.getD j default).damaged=true):(damP l (j+1)).map (λn=>[AV.i n])=(damP l j).map (λn=>[AV.i n])++[[AV.i (j:Int)]]:=by
 rw[damP,List.range_succ,List.filter_append,List.map_append,List.map_append];have h':(l[j]?.getD default).damaged=true:=by simpa [List.getD_eq_getElem?_getD] using h
 simp[h',damP]
theorem dam_no{l:List Sec}(h:(l.getD j default).damaged=false):damP l (j+1)=damP l j:=by
 rw[damP,List.range_succ,List.filter_append,List.map_append];have h':(l[j]?.getD default).damaged=false:=by simpa [List.getD_eq_getElem?_getD] using h
 simp[h',damP]
theorem dam_len(l:List Sec)(n:Nat):(damP l n).length<=n:=by
 rw[damP,List.length_map];have:=List.length_filter_le (λi=>(l.getD i default).damaged) (List.range n);simpa using this
theorem kinds_len(l:List Sec):(kindsP l).length=l.length:=by simp[kindsP]
def numF:Nat->List U8->Nat
 | 0,_=>0
 | _+1,[]=>0
 | g+1,x::r=>if x.val<128 then 1 else 1+numF g r
def numV(l:List U8):Nat:=match numberR l with | some (n,_)=>n | none=>0
theorem numR_drop:∀{g:Nat} {first:Bool} {l:List U8} {n:Nat} {r:List U8},numR g first l=some (n,r)->r=l.drop (numF g l)
 | 0,_,_,_,_,h=>by simp[numR] at h
 | g+1,_,[],_,_,h=>by simp[numR] at h
 | g+1,first,x::l,n,r,h=>by
  rw[numR] at h;rw[numF];split at h
  ·rename_i hx;rw[if_pos hx];split at h
   ·simp at h;obtain⟨_,rfl⟩:=h;rfl
   ·cases h
  ·rename_i hx;rw[if_neg hx];split at h
   ·rename_i m r' h';simp at h;obtain⟨_,rfl⟩:=h;rw[Nat.add_comm,List.drop_succ_cons];exact numR_drop h'
   ·cases h
theorem numF_le:∀(g:Nat) (l:List U8),numF g l<=l.length/\numF g l<=g
 | 0,_=>by simp[numF]
 | g+1,[]=>by simp[numF]
 | g+1,x::l=>by
  rw[numF];have:=numF_le g l;split <;> simp <;> omega
structure NumPos(l:List U8)(i:Nat)(l':List U8):Prop where
 pos:numF 5 l=i+numF (5 - i) l'
theorem NumPos.begin(l:List U8):NumPos l 0 l:=⟨Yx⟩
theorem NumPos.empty{l:List U8}(h:NumPos l i []):numF 5 l=i:=by rw[h.pos];cases 5 - i <;> simp[numF]
theorem NumPos.long{l:List U8}{l':List U8}(h:NumPos l i l')(hi:i=5):numF 5 l=5:=by rw[h.pos,hi];simp[numF]
theorem NumPos.step{l:List U8}{x:U8}{r:List U8}(h:NumPos l i (x::r))(hi:i<5)(hx: ¬x.val<128):NumPos l (i+1) r:=⟨by
 rw[h.pos,show 5 - i=(5 - (i+1))+1 by omega,numF,if_neg hx];omega⟩
theorem NumPos.last{l:List U8}{x:U8}{r:List U8}(h:NumPos l i (x::r))(hi:i<5)(hx:x.val<128):numF 5 l=i+1:=by
 rw[h.pos,show 5 - i=(5 - (i+1))+1 by omega,numF,if_pos hx]
theorem numV_some{l:List U8}{r:List U8}(h:numberR l=some (n,r)):numV l=n:=by rw[numV,h]
theorem numV_none{l:List U8}(h:numberR l=none):numV l=0:=by rw[numV,h]
theorem numV_lt(l:List U8):numV l<34359738368:=by
 unfold numV;split
 ·rename_i n r h;exact numR_lt h
 ·decide
theorem drop_cons_at[Inhabited α]{l:List α}{n:Nat}(h:n<l.length):l.drop n=l.getD n default::l.drop (n+1):=by
 rw[List.drop_eq_getElem_cons h,List.getD_eq_getElem?_getD,List.getElem?_eq_getElem h];rfl
def byteR(l:List U8)(i:Nat):Nat×Nat×Bool:=if i<l.length then ((l.getD i default).val,i+1,false) else (0,i,true)
theorem byteR_in{l:List U8}(h:i<l.length):byteR l i=((l.getD i default).val,i+1,false):=if_pos h
theorem byteR_out{l:List U8}(h:l.length<=i):byteR l i=(0,i,true):=if_neg Yd
theorem byteR_lt(l:List U8)(i:Nat):(byteR l i).1<256:=by
 unfold byteR;split
 ·exact (l.getD i default).isLt
 ·exact Nat.zero_lt_succ _
theorem tm128n(n:Nat):((n%128:Nat):Int)=(n:Int).tmod 128:=by
 rw[show (128:Int)=((128:Nat):Int) by rfl, <-Int.ofNat_tmod]
theorem mulK(ha:a<128)(hk:k<5):IntKind.i64.wrap ((a:Int)*((128^k:Nat):Int))=((128^k*a:Nat):Int):=by
 have hm:128^k*a<=268435456*127:=Nat.mul_le_mul (p128_le hk) Yd;rw[<-Int.natCast_mul,Nat.mul_comm,wrap64 Yd]
theorem addK{n m:Nat}(h:n+m<=4611686018427387904):IntKind.i64.wrap ((n:Int)+(m:Int))=((n+m:Nat):Int):=by
 rw[<-Int.natCast_add,wrap64 Yd]
theorem mul128(hk:k<5):IntKind.i64.wrap (((128^k:Nat):Int)*128)=((128^(k+1):Nat):Int):=by
 have hp:=p128_le hk;rw[show (128:Int)=((128:Nat):Int) by rfl, <-Int.natCast_mul,wrap64 Yd];rfl
theorem ref_bad{l:List U8}(hb:byteR l (i+k)=(c,a,b))(hk:k<5)(hN:NumAt (l.drop i) k n (l.drop (i+k)))(hP:NumPos (l.drop i) k (l.drop (i+k)))(h1:c<128)(h2:0<k)(h3:c=0):
  numV (l.drop i)=0/\a=i+numF 5 (l.drop i)/\(numberR (l.drop i)).isNone=true:=by
 rcases Nat.lt_or_ge (i+k) l.length with h | h
 ·rw[byteR_in h] at hb;rw[drop_cons_at h] at hN hP;generalize l.getD (i+k) default=x at*;cases hb;have e:=hN.bad hk h1 Yd;exact⟨numV_none e,by rw[hP.last hk h1];omega,Ybw⟩
 ·rw[byteR_out h] at hb;rw[List.drop_eq_nil_of_le h] at hN hP;cases hb;have e:=hN.empty;exact⟨numV_none e,by rw[hP.empty],Ybw⟩
theorem ref_good{l:List U8}(hb:byteR l (i+k)=(c,a,b))(hk:k<5)(hN:NumAt (l.drop i) k n (l.drop (i+k)))(hP:NumPos (l.drop i) k (l.drop (i+k)))(h1:c<128)(h2: ¬(0<k/\c=0)):
  numV (l.drop i)=n+128^k*(c%128)/\a=i+numF 5 (l.drop i)/\(numberR (l.drop i)).isNone=b:=by
 rcases Nat.lt_or_ge (i+k) l.length with h | h
 ·rw[byteR_in h] at hb;rw[drop_cons_at h] at hN hP;generalize l.getD (i+k) default=x at*;cases hb;have e:=hN.last hk h1 Yd;exact⟨numV_some e,by rw[hP.last hk h1];omega,Ybw⟩
 ·rw[byteR_out h] at hb;rw[List.drop_eq_nil_of_le h] at hN hP;cases hb;have hk0:k=0:=by omega
  have hlt:=hN.lt;have e:=hN.empty;subst hk0;exact⟨by rw[numV_none e];simp at hlt ⊢;omega,by rw[hP.empty],Ybw⟩
theorem ref_more{l:List U8}(hb:byteR l (i+k)=(c,a,b))(hk:k<5)(hN:NumAt (l.drop i) k n (l.drop (i+k)))(hP:NumPos (l.drop i) k (l.drop (i+k)))(h1: ¬c<128):
  a=i+(k+1)/\b=false/\i+(k+1)<=l.length/\NumAt (l.drop i) (k+1) (n+128^k*(c%128)) (l.drop (i+(k+1)))/\NumPos (l.drop i) (k+1) (l.drop (i+(k+1))):=by
 rcases Nat.lt_or_ge (i+k) l.length with h | h
 ·rw[byteR_in h] at hb;rw[drop_cons_at h] at hN hP;generalize l.getD (i+k) default=x at*;cases hb;exact⟨Yd,rfl,Yd,hN.step hk h1,hP.step hk h1⟩
 ·rw[byteR_out h] at hb;cases hb;omega
theorem ref_long{l:List U8}(hk:k=5)(hN:NumAt (l.drop i) k n (l.drop (i+k)))(hP:NumPos (l.drop i) k (l.drop (i+k))):
  numV (l.drop i)=0/\i+k=i+numF 5 (l.drop i)/\(numberR (l.drop i)).isNone=true:=by
 have e:=hN.long Yd;exact⟨numV_none e,by rw[hP.long hk,hk],Ybw⟩
def manyV(l:List U8):Nat:=match manyR l with | some (n,_)=>n | none=>0
theorem many_bad{d:List U8}(h:d.length - numF 5 d<numV d):manyR d=none:=by
 cases e:numberR d with
 | none=>simp[manyR,e]
 | some p=>
  obtain⟨n,r⟩:=p;have hr:=numR_drop e;simp only[numV,e] at h;simp only[manyR,e];rw[if_neg];rw[hr,List.length_drop];omega
theorem many_ok{d:List U8}(h: ¬d.length - numF 5 d<numV d):(manyR d).isNone=(numberR d).isNone/\manyV d=numV d:=by
 cases e:numberR d with
 | none=>simp[manyR,manyV,numV,e]
 | some p=>
  obtain⟨n,r⟩:=p;have hr:=numR_drop e;simp only[numV,e] at h;have hle:n<=r.length:=by rw[hr,List.length_drop];omega
  simp[manyR,manyV,numV,e,hle]
theorem manyV_none{d:List U8}(h:manyR d=none):manyV d=0:=by rw[manyV,h]
theorem manyV_some{d:List U8}{r:List U8}(h:manyR d=some (n,r)):manyV d=n/\n<=d.length - numF 5 d/\r=d.drop (numF 5 d):=by
 refine⟨by rw[manyV,h],?_⟩;unfold manyR at h;split at h
 ·rename_i m r' e;have hr:=numR_drop e;split at h
  ·cases h;exact⟨by have:=congrArg List.length hr;rw[List.length_drop] at this;omega,hr⟩
  ·cases h
 ·cases h
abbrev pieC(s:Sec):List AV:=[u8 s.kind,u8s s.body,.b s.damaged]
abbrev pies(l:List Sec):AV:=.sl 3 (l.map pieC)
theorem quo256(n:Nat)(h:n<65521):((n / 256:Nat):Int)=IntKind.i64.wrap ((n:Int).tdiv 256):=by
 rw[show (256:Int)=((256:Nat):Int) by rfl, <-Int.ofNat_tdiv,wrap64 Yd]
theorem rem256(n:Nat):((n%256:Nat):Int)=(n:Int).tmod 256:=by
 rw[show (256:Int)=((256:Nat):Int) by rfl, <-Int.ofNat_tmod]
theorem byteOf_mod(n:Nat):byteOf (n%256)=byteOf n:=by simp[byteOf]
theorem manyV_le(d:List U8):manyV d<=d.length:=by
 unfold manyV;split
 ·rename_i n r h;have:=(manyV_some h).2.1;omega
 ·omega
theorem piece_bad{l:List U8}{k:U8}(h:(bif (manyR (l.drop (a+1))).isNone then true else decide ((manyV (l.drop (a+1)):Int)+4>(l.length:Int) - ((a+1+numF 5 (l.drop (a+1)):Nat):Int)))=true)(ha:a<l.length):secR (k::l.drop (a+1))=none:=by
 cases e:manyR (l.drop (a+1)) with
 | none=>exact secR_many e
 | some p=>
  obtain⟨n,r⟩:=p;obtain⟨h1,h2,h3⟩:=manyV_some e;rw[e,h1] at h;simp only[Option.isNone_some,cond_false,decide_eq_true_eq] at h;have hf:=numF_le 5 (l.drop (a+1));rw[List.length_drop] at hf h2;refine secR_short e ?_;rw[h3,List.length_drop,List.length_drop,List.length_drop];omega
theorem piece_good{l:List U8}(h:(bif (manyR (l.drop (a+1))).isNone then true else decide ((manyV (l.drop (a+1)):Int)+4>(l.length:Int) - ((a+1+numF 5 (l.drop (a+1)):Nat):Int)))=false)(ha:a<l.length):
  ∃n,manyR (l.drop (a+1))=some (n,l.drop (a+1+numF 5 (l.drop (a+1))))/\manyV (l.drop (a+1))=n/\a+1+numF 5 (l.drop (a+1))+n+4<=l.length:=by
 cases e:manyR (l.drop (a+1)) with
 | none=>rw[e] at h;simp at h
 | some p=>
  obtain⟨n,r⟩:=p;obtain⟨h1,h2,h3⟩:=manyV_some e;rw[e,h1] at h;simp only[Option.isNone_some,cond_false,decide_eq_false_iff_not] at h;have hf:=numF_le 5 (l.drop (a+1));rw[List.length_drop] at hf h2;exact⟨n,by rw[h3,List.drop_drop],h1,Yd⟩
end Go.Eng.Im

namespace Go.Eng.Bd
open Go.Eng.Fc
structure Gv where
 p:Prog
 objs:List Th
 roots:List (Int×Int)
 others:List Th
 otherRoots:List (Int×Int)
 bytes:List Go.Eng.Im.U8
abbrev Gcells(g:Gv):List AV:=progC g.p++[AV.ths g.objs,AV.mvs g.roots,AV.ths g.others,AV.mvs g.otherRoots,Go.Eng.Im.u8s g.bytes]
abbrev AV.given(g:Gv):AV:=.agg (Gcells g)
def lostP(l:List Int)(v:Int×Int):Bool:=decide (v.1=3) && !(l.contains v.2)
def holdsP(l:List Int)(vals:List (Int×Int)):Bool:=!(vals.any (lostP l))
def fromP(objs:List Th)(roots:List (Int×Int))(l:List Int)(j:Nat)(n:Int):Bool:=roots.contains (3,n) || (l.take j).any λm=>(thOf objs m).slots.contains (3,n)
structure ReachLaw(objs:List Th)(roots:List (Int×Int))(L:List Int):Prop where
 rts:holdsP L roots=true
 len:L.length<=objs.length
 in_:∀k,k<L.length->0<=L.getD k default/\L.getD k default<objs.length
 new:∀k,k<L.length->(L.take k).contains (L.getD k default)=false
 sls:∀k,k<L.length->holdsP L (thOf objs (L.getD k default)).slots=true
 from_:∀k,k<L.length->fromP objs roots L k (L.getD k default)=true
end Go.Eng.Bd

namespace Go.Proofs.YtpgnjlngepfanaaGreat
open Go.Eng
open Go.Eng.Fc
open Go.Eng.Bd
variable{l:List Int}{v:Int×Int}
theorem valueI(x:Int×Int)(n:Int):PCall Tryz.prog 166 [AV.mv x,.i n] (.b (valueP n x)):=by
 intro H;refine aC (n:=36) Tryz.func166 λB I w0=>?_;refine Z20 ?_;refine cd (λh0=>?_) λh0=>?_
 ·refine Z16 ?_;refine r1 4 (H) ?_;exact⟨retB Ya3,rfl⟩
 ·refine Z6 ?_;refine cd (λh1=>?_) λh1=>?_
  ·refine Z11 ?_;refine r1 4 (H) ?_;exact⟨retB Ya3,rfl⟩
  ·refine Z23 ?_;refine r1 4 (H) ?_;exact⟨retB (by unfold valueP inP;simp_all;rw[Bool.and_assoc];rfl),rfl⟩
theorem rooted1(n:Int)(x:Int×Int):PCall Tryz.prog 165 [AV.mv x,.ptr [.i n]] (.b (!valueP n x)):=by
 intro H;refine aC (n:=8) Tryz.func165 λB I w0=>?_;refine Z10 ?_;refine oP (POp.call .k (valueI x n)) ?_;refine Z5 ?_;refine r1 3 (H) ?_;exact⟨Yg,rfl⟩
def rootedP(n:Int)(l:List (Int×Int)):Bool:=decide (l.length<=20) && l.all (valueP n)
def askedP(p:Prog)(objs:List Th)(roots:List (Int×Int)):Bool:=checkP p objs && rootedP objs.length roots
def reachQ(p:Prog)(objs:List Th)(roots:List (Int×Int)):List Int:=if askedP p objs roots then reachP objs roots else []
theorem rooted_eq(n:Int)(l:List (Int×Int)):(bif decide ((l.length:Int)<=20) then !(l.any λx=>!valueP n x) else false)=rootedP n l:=by
 rw[all_valueP,rootedP,Bool.cond_false_right];congr 1;rw[decide_eq_decide];omega
theorem asked_eq(p:Prog)(objs:List Th)(roots:List (Int×Int)):(bif ((if checkP p objs then (0:Int) else 2)==0) then rootedP objs.length roots else false)=askedP p objs roots:=by
 rw[if_zero,Bool.cond_false_right];rfl
theorem asked_parts{p:Prog}{objs:List Th}{roots:List (Int×Int)}(h:askedP p objs roots=true):objs.length<=40/\roots.length<=20/\roots.all (valueP objs.length)=true/\∀t∈objs,t.slots.all (valueP objs.length)=true:=by
 simp only[askedP,rootedP,checkP,Bool.and_eq_true,decide_eq_true_eq] at h;refine⟨h.1.1.2,h.2.1,h.2.2,λt ht=>?_⟩;have:=List.all_eq_true.1 h.1.2 t ht;simp only[thingP,Bool.and_eq_true] at this;exact this.2
theorem rootedC(l:List (Int×Int))(n:Int):PCall Tryz.prog 92 [AV.mvs l,.i n] (.b (rootedP n l)):=by
 intro H;refine aC (n:=14) Tryz.func92 λB I w0=>?_;refine Z14 ?_;refine OL.guardC rfl rfl rfl rfl rfl rfl (λhg=>POp.call (.mk' rfl rfl rfl rfl Yc) (hasMV (.of (rooted1 n)) l)) ?_;refine Z6 ?_;refine r1 4 (H) ?_;exact⟨retB (rooted_eq n l),rfl⟩
theorem askedC{p:Prog}(hp:p.Small)(objs:List Th)(roots:List (Int×Int)):PCall Tryz.prog 79 [AV.prog p,AV.ths objs,AV.mvs roots] (.b (askedP p objs roots)):=by
 intro H;refine aC (n:=17) Tryz.func79 λB I w0=>?_;refine Z10 ?_;refine oP (POp.call .k (meanCheck hp objs)) ?_;refine Z5 ?_;refine OL.guardC rfl rfl rfl rfl rfl rfl (λhg=>POp.call (.mk' rfl rfl rfl rfl Yc) (rootedC roots objs.length)) ?_;refine Z5 ?_;refine r1 6 (H) ?_;exact⟨retB (asked_eq p objs roots),rfl⟩
instance:HasMapI Tryz.prog 121 (3,3):=⟨Yf,Yf⟩
instance:HasZ Tryz.prog 3 (.int .i64 0):=⟨Yf⟩
instance:HasEq Tryz.prog 60 2:=⟨Yf⟩
abbrev routeE(xb mb:Nat)(v:Value)(l:List Int)(m:List (Int×AV))(H:List Ent):List Ent:=.own 3 1 v::.blk xb 123 [.as (AV.ints l) v,.val (.map (some mb))]::imapE mb m::H
theorem lookM_le{m:List (Int×AV)}(h:MapAt m l)(k:Int):AVle (.tup [(getI m k).getD (.val (.int .i64 0)),.b (getI m k).isSome]) (.tup [.i (if k∈l then idxB l k else 0),.b (l.contains k)]):=by
 rw[h.has,h.get];split <;> exact AVle.refl _
theorem meet_step{vals:List (Int×Int)}{i:Nat}(hi:i<vals.length)(l:List Int):meetP (vals.take (i+1)) l=meet1 (meetP (vals.take i) l) (vals.getD i default):=by rw[<-take_getD hi,meetP_snoc]
theorem meet1_new(h3:v.1=3)(hn:l.contains v.2=false):meet1 l v=l++[v.2]:=by rw[meet1,if_pos ⟨h3,by simpa using hn⟩]
theorem meet1_old(h:v.1≠3\/l.contains v.2=true):meet1 l v=l:=by rw[meet1,if_neg];rintro⟨h1,h2⟩;rcases h with h | h;exact h h1;exact h2 (List.contains_iff_mem.1 h)
theorem meet_if{a b:Bool}(h:(bif a then !b else false)=true):a=true/\b=false:=by cases a <;> cases b <;> simp_all
theorem meet_not{a b:Bool}(h:(bif a then !b else false)=false):a=false\/b=true:=by cases a <;> cases b <;> simp_all
theorem meetC{n:Nat}(hn:n<=1000000){vals:List (Int×Int)}(hv:vals.all (valueP n)=true){l0:List Int}(hl0:RouteOk n l0){m0:List (Int×AV)}(hM0:MapAt m0 l0)(xb mb:Nat)(v0:Value)(H:List Ent):
  ACall Tryz.prog 155 [.p xb 0,AV.mvs vals] (routeE xb mb v0 l0 m0 H) (λ_ H'=>∃m' v',MapAt m' (meetP vals l0)/\H'=routeE xb mb v' (meetP vals l0) m' H) (λ_ _=>False):=by
 refine aC (n:=54) Tryz.func155 λB I w0=>?_;refine CW.boundM (t:=1) rfl (λhb1=>?_);refine Z8 ?_;refine lj (λm st=>∃(i:Nat) (l:List Int) (m':List (Int×AV)) (v:Value),st=⟨[(10,.i i),(9,.i vals.length),(8,AV.mvs vals),(0,.p xb 0)],routeE xb mb v l m' H⟩/\m=vals.length - i/\i<=vals.length/\l=meetP (vals.take i) l0/\MapAt m' l/\RouteOk n l) (⟨0,l0,m0,v0,rfl,rfl,Yd,rfl,hM0,hl0⟩) ?_;rintro m _ ⟨i,l,m',v,rfl,rfl,hi,hl,hM,hR⟩;refine Z6 ?_;refine cd (λh0=>?_) λh0=>?_
 ·have hil:i<vals.length:=by omega
  obtain⟨X,hX⟩:∃X,X=vals.getD i default:=⟨_,rfl⟩;have hXv:valueP n X=true:=List.all_eq_true.1 hv X (hX▸getD_memB hil);have hXk:smallKey X.2:=by have:=valueP_key hn hXv;unfold smallKey;omega
  have hst:=meet_step hil l0;rw[<-hX, <-hl] at hst;have hRl:=hR.len;refine Z8 ?_;refine OL.alC rfl rfl rfl rfl (λb0=>?_);refine Z4 ?_;rw[<-hX];refine CW.freezeP (d:=5) rfl Yl ?_;refine CW.dp mixed ?_;refine DP.anyC 0 6 54 rfl Ye rfl rfl Ye ?_;refine Z8 ?_;refine oP (POp.le (POp.lookupI2 rfl rfl rfl rfl rfl (.tail _ (.tail _ (.head _))) hM.ok hXk) (lookM_le hM X.2)) ?_;refine Z6 ?_;refine DP.anyC 8 11 54 rfl Ye rfl rfl Ye ?_;refine Z19 ?_;refine CW.cond rfl (λh1=>?_) (λh1=>?_)
  ·obtain⟨h3,h4⟩:=meet_if h1;rw[beq_iff_eq] at h3;rw[meet1_new h3 h4] at hst;have hRn:=meet1_ok hR hXv;rw[meet1_new h3 h4] at hRn;have hnm: ¬X.2∈l:=by simpa using h4
   refine Z1 ?_;refine CW.dp mixed ?_;refine DP.anyC 0 11 54 rfl Ye rfl rfl Ye ?_;refine Z13 ?_;refine OL.mapPut (u':=.i l.length) rfl rfl (.inl rfl) rfl rfl rfl rfl rfl rfl (AVle.eqI (by rw[List.length_map])) (.tail _ _ _ _ _ (.tail _ _ _ _ _ (.head _ _ _))) hM.ok hXk ?_;refine Z2 ?_;refine CW.dp mixed ?_;refine DP.anyK (X:=noX) [⟨8,50,false⟩] (λJ=>match J with | [some v2]=>.own 3 1 v2::.blk xb 123 [.as (AV.ints l) v,.val (.map (some mb))]::imapE mb (putI m' X.2 (.i l.length))::H | _=>routeE xb mb v l (putI m' X.2 (.i l.length)) H) (λq J=>match q,J with | 0,[some v2]=>.as (.sl 1 ((l.map λn=>[AV.i n])++[[AV.i X.2]])) v2 | _,_=>.any) 0 9 54 rfl Ye Ye rfl rfl Ye rfl (λ_ _ _ _ _ _ _ _ _ h=>h.elim) ?_;refine UD.popK [[true],[false]] rfl Ye rfl rfl rfl ⟨λf=>POp.move rfl rfl rfl,λf=>POp.move rfl rfl rfl,trivial⟩ ?_;refine UD.popK [[false]] rfl Ye rfl rfl rfl ⟨λf=>POp.move rfl rfl rfl,trivial⟩ ?_;refine UD.popK [[false]] rfl Ye rfl rfl rfl ⟨λf=>Yu,trivial⟩ ?_;refine UD.popK [[false]] rfl Ye rfl rfl rfl ⟨λf=>Yi,trivial⟩ ?_;refine UD.popK [[false]] rfl Ye rfl rfl rfl ⟨λf=>Ya,trivial⟩ ?_;refine UD.popK [[false]] rfl Ye rfl rfl rfl ⟨λf=>Yi,trivial⟩ ?_;refine UD.popK [[false]] rfl Ye rfl rfl rfl ⟨λf=>Ya,trivial⟩ ?_;refine UD.popK [[false]] rfl Ye rfl rfl rfl ⟨λf=>POp.row rfl rfl Yh rfl rfl rfl rfl rfl rfl,trivial⟩ ?_;refine UD.effK 0 [[false]] rfl rfl rfl Ye rfl rfl rfl ⟨λf=>⟨KOk.own (news:=[[AV.i X.2]]) rfl rfl rfl (AVle.refl _) rfl rfl (AVle.refl _) rfl YI YI (λ_=>.head _ _ _) (λ_=>rfl),Yp⟩,trivial⟩ ?_;refine UD.nil (λf=>?_);simp only[kvals,List.map_cons,List.map_nil,List.cons_append,List.nil_append];refine Z11 ?_;rw[show (AV.sl 1 ((l.map λn=>[AV.i n])++[[AV.i X.2]]))=AV.ints (l++[X.2]) from by show _=AV.sl 1 (List.map _ (_++_));rw[List.map_append];rfl];exact ag ⟨i+1,l++[X.2],_,f 50,rfl,rfl,hil,hst.symm,hM.put hXk hnm,hRn⟩
  ·have hso:meet1 l X=l:=meet1_old ((meet_not h1).imp Yx id);rw[hso] at hst;refine Z7 ?_;exact ag (⟨i+1,l,m',v,rfl,rfl,hil,hst.symm,hM,hR⟩)
 ·obtain rfl:i=vals.length:=by omega
  rw[List.take_length] at hl;subst hl;refine Z4 ?_;refine nR [] (routeE xb mb v (meetP vals l0) m' H) ?_;exact⟨m',v,hM,rfl⟩
theorem reachC{objs:List Th}{roots:List (Int×Int)}(hn:objs.length<=40)(hr:roots.all (valueP objs.length)=true)(hv:∀t∈objs,t.slots.all (valueP objs.length)=true)(H:List Ent):
  ACall Tryz.prog 80 [AV.ths objs,AV.mvs roots] H (λy H'=>∃xb mb v m,y= .p xb 0/\MapAt m (reachP objs roots)/\H'=routeE xb mb v (reachP objs roots) m H) (λ_ _=>False):=by
 refine aC (n:=36) Tryz.func80 λB I w0=>?_;refine Z7 ?_;refine OL.mkMap rfl rfl rfl rfl (λmb=>?_);refine Z1 ?_;refine OL.boxC rfl rfl rfl rfl rfl rfl rfl (λxb=>?_);refine Z4 ?_;refine CW.ownNilB (b:=xb) (t:=123) 3 1 0 Yy rfl rfl ?_;refine Z3 ?_;refine bC .k ((meetC (n:=objs.length) Yd hr (.nil _) MapAt.nil xb mb _ H).b) ?_;rintro y H1 ⟨m1,v1,hM1,rfl⟩;refine Z9 ?_;refine lj (λk st=>∃(i:Nat) (l:List Int) (m:List (Int×AV)) (v:Value),st=⟨[(6,.i i),(5,.p xb 0),(0,AV.ths objs)],routeE xb mb v l m H⟩/\k=objs.length - i/\i<=l.length/\MapAt m l/\Reached objs roots i l/\reachN objs (objs.length+1 - i) i l=reachP objs roots) (⟨0,_,m1,v1,rfl,rfl,Yd,hM1,.begin hr,rfl⟩) ?_;rintro k _ ⟨i,l,m,v,rfl,rfl,hi,hM,hR,hN⟩;have hll:=hR.ok.len;refine Z12 ?_;refine cd (λh0=>?_) λh0=>?_
 ·rw[List.length_map] at h0;have hil:i<l.length:=by omega
  obtain⟨n,hn'⟩:∃n,n=l.getD i default:=⟨_,rfl⟩;have hni:=hR.ok.in_ n (hn'▸getD_memB hil);have hTv:(thOf objs n).slots.all (valueP objs.length)=true:=hv _ (getD_memB Yd);have hst:=hR.step hv hil;rw[<-hn'] at hst;rw[show objs.length+1 - i=objs.length+1 - (i+1)+1 by omega,reachN,if_pos hil, <-hn'] at hN;refine Z12 ?_;refine oP (POp.leC 27 rfl (AVle.asL _ _) (POp.ixI rfl rfl rfl rfl rfl Yd)) ?_;refine Z1 ?_;refine OL.le 30 (y:=.i n) rfl (AVle.eqI hn'.symm) ?_;refine Z3 ?_;refine bC .k ((meetC (n:=objs.length) Yd hTv hR.ok hM xb mb v H).b) ?_;rintro y H1 ⟨m',v',hM',rfl⟩;refine Z8 ?_;exact ag (⟨i+1,meetP (thOf objs n).slots l,m',v',rfl,rfl,by have:=(meetP_pre (thOf objs n).slots l).length_le;omega,hM',hst,hN⟩)
 ·rw[List.length_map] at h0;obtain rfl:i=l.length:=by omega
  rw[show objs.length+1 - l.length=objs.length - l.length+1 by omega,reachN,if_neg Yd] at hN;subst hN;refine Z12 ?_;refine r1 4 (routeE xb mb v (reachP objs roots) m H) ?_;exact⟨xb,mb,v,m,rfl,hM,rfl⟩
theorem reachI{p:Prog}(hp:p.Small)(objs:List Th)(roots:List (Int×Int)):PCall Tryz.prog 26 [AV.prog p,AV.ths objs,AV.mvs roots] (.tup [AV.ints (reachQ p objs roots),.i (if askedP p objs roots then 0 else 2)]):=by
 intro H;refine aC (n:=19) Tryz.func26 λB I w0=>?_;refine Z13 ?_;refine oP (POp.call .k (askedC hp objs roots)) ?_;refine Z3 ?_;refine CW.cond rfl (λh0=>?_) (λh0=>?_)
 ·have ha:askedP p objs roots=false:=by simpa using h0
  refine Z8 ?_;refine Done.retR (rs:=[.tmp 6,.tmp 7]) (H':=H) rfl (.tmp rfl (.tmp rfl (.nil))) (.cons (AVle.nil 1) (.cons (.refl _) .nil)) Yb ?_;exact⟨by rw[reachQ,ha];rfl,rfl⟩
 ·have ha:askedP p objs roots=true:=by simpa using h0
  obtain⟨h1,h2,h3,h4⟩:=asked_parts ha;refine Z6 ?_;refine bC .k ((reachC h1 h3 h4 H).b) ?_;rintro y H1 ⟨xb,mb,v,m,rfl,hM,rfl⟩;refine Z8 ?_;refine Done.retR (rs:=[.tmp 6,.tmp 7]) (H':=H) rfl (.tmp rfl (.tmp rfl (.nil))) (.cons (AVle.asL _ _) (.cons (.refl _) .nil)) Yb ?_;exact⟨by rw[reachQ,ha];rfl,rfl⟩
theorem eq2(x y:Int×Int):([x.1,x.2]== [y.1,y.2])=(x==y):=by
 rw[Bool.eq_iff_iff,beq_iff_eq,beq_iff_eq,Prod.ext_iff];simp
theorem objI(n:Int):PCall Tryz.prog 40 [.i n] (AV.mv (3,n)):=by
 intro H;refine aC (n:=5) Tryz.func40 λB I w0=>?_;refine Z2 ?_;refine OL.alC rfl rfl rfl rfl (λb0=>?_);refine Z10 ?_;refine rR [.cell 2 60] (H) ?_;exact⟨Yg,rfl⟩
end Go.Proofs.YtpgnjlngepfanaaGreat
