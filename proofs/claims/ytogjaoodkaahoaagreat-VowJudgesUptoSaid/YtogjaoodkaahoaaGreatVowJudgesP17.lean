/- Part 17 of the proof: contracts of functions of the program and what they need. No condition beyond those that each theorem names. -/
import Derived.Test.YtogjaoodkaahoaaGreatVowJudgesP16
import Derived.Tactics
import Derived.Tactics2
import Derived.Laws.Pointers
import Derived.TacticsInMore
import Derived.RegionIn
import Derived.RecoverIn
import Derived.ProofKit
import Derived.Test.YtogjaoodkaahoaaGreatRows
set_option maxHeartbeats 1000000
set_option linter.unusedVariables false
set_option linter.unusedSimpArgs false
set_option maxRecDepth 10000
namespace Go.Proofs.YtogjaoodkaahoaaGreat
open Go.Eng
open Go.Eng.Fc
open Go.Eng.Bd
variable{more fs cs:List AV}{i:Int}{next:Bool}{f B tb:Nat}{x:Vis}{out:List Int}{H:List Ent}{I0:Imm}{w0:World}{env:List (Nat×AV)}{Φ E:AV->List Ent->Prop}{q:Int×Int->Bool}
theorem cellM_get{o:List Int}(h:0<=i/\i<o.length):(o.map AV.i++more)[0+i.toNat*1]? =some (.i (o.getD i.toNat default)):=by
 rw[Nat.zero_add,Nat.mul_one,List.getElem?_append_left YP,List.getElem?_map,List.getD_eq_getElem?_getD,List.getElem?_eq_getElem Yb];rfl
theorem cellM_fit{o:List Int}(h:0<=i/\i<o.length):Nat.ble (0+i.toNat*1+1) (o.map AV.i++more).length=true:=by
 rw[Nat.ble_eq,List.length_append,List.length_map];omega
theorem cellM_set{o:List Int}{i v:Int}(h:0<=i/\i<o.length):(o.map AV.i++more).take (0+i.toNat*1)++[AV.i v]++(o.map AV.i++more).drop (0+i.toNat*1+1)=(o.set i.toNat v).map AV.i++more:=by
 rw[Nat.zero_add,Nat.mul_one,List.take_append_of_le_length YP,List.drop_append_of_le_length YP,List.map_set,List.set_eq_take_append_cons_drop,if_pos YP];simp
theorem visit_lenR{p:Prog}{out o:List Int}(hd:x.dp+f=14)(h:(visit p next f x out).2=some o):o.length=out.length:=by
 rw[(visit_vp (p:=p) (next:=next) f x out hd).end_ o h,outsV_len]
def walkQ(p:Prog)(next:Bool)(f:Nat)(x:Vis)(out:List Int)(nb:Nat)(more:List AV)(H:List Ent)(y:AV)(H':List Ent):Prop:=match (visit p next f x out).2 with
 | some o=>y= .b true/\H'= .blk nb 3 (o.map AV.i++more)::H
 | none=>y= .b false/\∃o':List Int,H'= .blk nb 3 (o'.map AV.i++more)::H
theorem walkQ_no{p:Prog}{nb:Nat}(h:(visit p next f x out).2=none)(o':List Int):walkQ p next f x out nb more H (.b false) (.blk nb 3 (o'.map AV.i++more)::H):=by
 unfold walkQ;rw[h];exact⟨rfl,o',rfl⟩
theorem walkQ_yes{p:Prog}{out o:List Int}{nb:Nat}(h:(visit p next f x out).2=some o):walkQ p next f x out nb more H (.b true) (.blk nb 3 (o.map AV.i++more)::H):=by
 unfold walkQ;rw[h];exact⟨rfl,rfl⟩
theorem place_bif(p:Prog)(x:Vis)(out:List Int):(bif bif bif decide (x.n<0) then true else decide (x.n>=p.nodes.length) then true else decide (out.getD x.n.toNat default>=0) then true else decide (x.dp>12))= !placeOk p x out:=by
 unfold placeOk;simp only[Bool.cond_true_left];rw[Bool.eq_iff_iff];simp only[Bool.or_eq_true,decide_eq_true_eq,Bool.not_eq_true', <-Bool.not_eq_true,Bool.and_eq_true];omega
theorem rWalk_step{p:Prog}(hs:p.classes.length<=4000000){next:Bool}{f:Nat}(ih:∀f',f=f'+1->∀(x:Vis) (out:List Int) (nb cap:Nat) (more:List AV) (H:List Ent),x.dp+f'=14->1<=x.dp->-1000<=x.sz/\x.sz<=1000+x.dp->out.length=p.nodes.length->
  ACall Tryz.prog 184 [AV.prog p,.i x.n,.i x.sz,.i x.dp,.b next,.val (.slice (some ⟨nb,0,none⟩) p.nodes.length cap)] (.blk nb 3 (out.map AV.i++more)::H) (walkQ p next f' x out nb more H) (λ_ _=>False))
  (x:Vis) (out:List Int) (nb cap:Nat) (more:List AV) (H:List Ent) (hd:x.dp+f=14) (hd1:1<=x.dp) (hsz: -1000<=x.sz/\x.sz<=1000+x.dp) (ho:out.length=p.nodes.length):
  ACall Tryz.prog 184 [AV.prog p,.i x.n,.i x.sz,.i x.dp,.b next,.val (.slice (some ⟨nb,0,none⟩) p.nodes.length cap)] (.blk nb 3 (out.map AV.i++more)::H) (walkQ p next f x out nb more H) (λ_ _=>False):=by
 refine aC (n:=98) Tryz.func184 λB I w0=>?_;refine Z21 ?_;refine OL.guardC rfl rfl rfl rfl rfl rfl (λhg=>POp.ixC rfl rfl (gd hg) rfl (gd hg) (by simp at hg;omega)) ?_;refine OL.guardC rfl rfl rfl rfl rfl rfl (λhg=>(by first | exact POp.ld1 rfl rfl (gd hg) rfl | (apply POp.ld1H rfl rfl (gd hg);(case hm=>repeat (first | exact .head _ | refine .tail _ ?_));(case hy=>exact cellM_get (by simp at hg;omega))))) ?_;refine Z8 ?_;refine CW.cond rfl (λh0=>?_) (λh0=>?_)
 ·rw[place_bif,Bool.not_eq_true'] at h0;have hno:okV p next x out=false:=by unfold okV;rw[h0];rfl
  refine Z7 ?_;refine r1 12 (.blk nb 3 (out.map AV.i++more)::H) ?_;exact walkQ_no (by rw[visit_no hno]) out
 ·rw[place_bif,Bool.not_eq_false'] at h0;obtain⟨hp0,hp1⟩:=placeOk_in h0;refine Z7 ?_;refine oP (POp.ixC rfl rfl rfl rfl rfl Yb) ?_;apply OL.stoC rfl rfl rfl rfl rfl rfl rfl rfl rfl rfl
  (case hu=>repeat (first | exact Upd.head _ _ _ | apply Upd.tail));(case hfit=>exact cellM_fit Yb);(case hds=>exact cellM_set Yb)
  refine Z7 ?_;refine oP (YC) ?_;refine Z1 ?_;refine OL.alC rfl rfl rfl rfl (λkb=>?_);refine Z5 ?_;obtain⟨K,hK⟩:∃K,K=ndOf p x:=⟨_,rfl⟩;rw[show p.nodes.getD x.n.toNat default=K from hK.symm];refine CW.freezeP (d:=13) rfl Yr ?_;refine CW.dp mixed ?_;refine DP.anyC 0 6 98 rfl Yf rfl rfl Yf ?_;refine Z5 ?_;refine AD.popC rfl rfl rfl (POp.call .k (rKids p K)) ?_;refine Z9 ?_;refine DP.anyC 8 11 98 rfl Yf rfl rfl Yf ?_;refine Z5 ?_;refine OL.guardC rfl rfl rfl rfl rfl rfl (λhg=>POp.call (.mk' rfl rfl rfl rfl Yc) (rNumber p hs K x.sz)) ?_;refine Z13 ?_;refine CW.cond rfl (λh1=>?_) (λh1=>?_)
  ·rw[kids_eq,Bool.not_eq_true'] at h1;have hno:okV p next x out=false:=by unfold okV;rw[h0, <-hK,h1];rfl
   refine Z7 ?_;refine r1 12 (.blk nb 3 ((out.set x.n.toNat x.sz).map AV.i++more)::H) ?_;exact walkQ_no (by rw[visit_no hno]) _
  ·rw[kids_eq,Bool.not_eq_false'] at h1;have hok:okV p next x out=true:=by unfold okV;rw[h0, <-hK,h1];rfl
   obtain⟨f',rfl⟩:∃f',f=f'+1:=⟨f - 1,by have h9:=h0;simp only[placeOk,Bool.and_eq_true,decide_eq_true_eq] at h9;omega⟩;have hvy:=visit_yes (f:=f') hok;rw[<-hK] at hvy;have hp12:x.dp<=12:=by have h9:=h0;simp only[placeOk,Bool.and_eq_true,decide_eq_true_eq] at h9;omega
   refine CW.boundM (t:=46) rfl (λhbk=>?_);refine Z9 ?_;refine lj (λm st=>∃(i:Nat) (l:List Vis) (o:List Int),st=⟨[(14,.i i),(13,.ptr (ndA K)),(6,.ptr (progC p)),(2,.i x.sz),(3,.i x.dp),(4,.b next),(5,.val (.slice (some ⟨nb,0,none⟩) p.nodes.length cap))],.blk nb 3 (o.map AV.i++more)::H⟩/\m=K.kids.length - i/\i<=K.kids.length/\visitsW (visit p next f') ((kidsV x K.op 0 K.kids).take i) (setV out x)=(l,some o)/\o.length=p.nodes.length) (⟨0,[],setV out x,rfl,rfl,Yb,rfl,by rw[setV,List.length_set];exact ho⟩) ?_;rintro m _ ⟨i,l,o,rfl,rfl,hi,hvs,hol⟩;refine Z10 ?_;refine cd (λh2=>?_) λh2=>?_
   ·have hil:i<K.kids.length:=by omega
    obtain⟨R,hR,hR1,hR2⟩:=kid_step (visit_ne (p:=p) (next:=next) f') (kidsV_get x K.op hil) hvs;refine Z10 ?_;refine CW.cutJ (λst=>st=⟨[(15,.i (kidV x K.op i (K.kids.getD i default)).sz),(14,.i i),(13,.ptr (ndA K)),(6,.ptr (progC p)),(2,.i x.sz),(3,.i x.dp),(4,.b next),(5,.val (.slice (some ⟨nb,0,none⟩) p.nodes.length cap))],.blk nb 3 (o.map AV.i++more)::H⟩) ?_ ?_
    ·refine Z11 ?_;refine CW.cond rfl (λh3=>?_) (λh3=>?_)
     ·have hif:K.op=9/\i=1:=by simp only[Bool.cond_false_right,Bool.and_eq_true,beq_iff_eq] at h3;omega
      refine Z5 ?_;refine Done.le 15 (y:=.i (kidV x K.op i (K.kids.getD i default)).sz) rfl (AVle.eqI (by simp only[kidV];rw[if_pos hif])) ?_;exact cj rfl
     ·have hif: ¬(K.op=9/\i=1):=by simp only[Bool.cond_false_right,Bool.and_eq_false_iff,beq_eq_false_iff_ne] at h3;omega
      refine Z1 ?_;refine Done.le 15 (y:=.i (kidV x K.op i (K.kids.getD i default)).sz) rfl (AVle.eqI (by simp only[kidV];rw[if_neg hif])) ?_;exact cj rfl
    ·rintro _ rfl;refine Z1 ?_;rcases hv:(visit p next f' (kidV x K.op i (K.kids.getD i default)) o).2 with _ | o'
     ·have hn:=(hR1 hv).2;refine CW.dp mixed ?_;refine DP.anyC 0 11 98 rfl Yf rfl rfl Yf ?_;refine Z13 ?_;refine bC .k ((ACall.weak (ih f' rfl (kidV x K.op i (K.kids.getD i default)) o nb cap more H Y1 Y1 Yat hol) (λy H1 h=>by rw[walkQ,hv] at h;exact h) (λ_ _ h=>h)).b) ?_;rintro _ _ ⟨rfl,o2,rfl⟩;refine Z3 ?_;refine CW.cond rfl (λh4=>?_) (λh4=>?_)
      ·replace h4:=nm h4;refine Z11 ?_;refine r1 12 (.blk nb 3 (o2.map AV.i++more)::H) ?_;exact walkQ_no (by rw[hvy];exact hn) o2
      ·cases h4
     ·have hs1:=(hR2 o' hv).1;have hol1:=visit_lenR Y1 hv;refine CW.dp mixed ?_;refine DP.anyC 0 11 98 rfl Yf rfl rfl Yf ?_;refine Z13 ?_;refine bC .k ((ACall.weak (ih f' rfl (kidV x K.op i (K.kids.getD i default)) o nb cap more H Y1 Y1 Yat hol) (λy H1 h=>by rw[walkQ,hv] at h;exact h) (λ_ _ h=>h)).b) ?_;rintro _ _ ⟨rfl,rfl⟩;refine Z3 ?_;refine CW.cond rfl (λh5=>?_) (λh5=>?_)
      ·cases h5
      ·replace h5:=nm h5;refine Z8 ?_;exact ag (⟨i+1,_,o',rfl,rfl,hil,hs1,Yb⟩)
   ·obtain rfl:i=K.kids.length:=by omega
    have hvs2:visitsW (visit p next f') (kidsV x K.op 0 K.kids) (setV out x)=(l,some o):=by rwa [List.take_of_length_le (by rw[kidsV_len];omega)] at hvs
    refine Z11 ?_;refine r1 12 (.blk nb 3 (o.map AV.i++more)::H) ?_;exact walkQ_yes (by rw[hvy,hvs2])
theorem rWalk{p:Prog}(hs:p.classes.length<=4000000){next:Bool}:∀(f:Nat) (x:Vis) (out:List Int) (nb cap:Nat) (more:List AV) (H:List Ent),x.dp+f=14->1<=x.dp->-1000<=x.sz/\x.sz<=1000+x.dp->out.length=p.nodes.length->
  ACall Tryz.prog 184 [AV.prog p,.i x.n,.i x.sz,.i x.dp,.b next,.val (.slice (some ⟨nb,0,none⟩) p.nodes.length cap)] (.blk nb 3 (out.map AV.i++more)::H) (walkQ p next f x out nb more H) (λ_ _=>False)
 | 0=>rWalk_step hs (λf' h=>by omega)
 | f+1=>rWalk_step hs (λf' h=>by(obtain rfl:f'=f:=by omega);exact rWalk hs f')
theorem visitsW_all{v:Vis->List Int->List Vis×Option (List Int)}{Q:Vis->Prop}:∀(l:List Vis) (o:List Int),(∀z∈l,∀o',∀y∈(v z o').1,Q y)->∀y∈(visitsW v l o).1,Q y
 | [],o,_,y,hy=>by simp[visitsW] at hy
 | z::r,o,h,y,hy=>by
  simp only[visitsW] at hy;rcases hv:v z o with⟨l1,_ | o1⟩
  ·rw[hv] at hy;exact h z (.head _) o y (by rw[hv];exact hy)
  ·rw[hv] at hy;rcases List.mem_append.1 hy with hy | hy
   ·exact h z (.head _) o y (by rw[hv];exact hy)
   ·exact visitsW_all r o1 (λw hw=>h w (.tail _ hw)) y hy
theorem kidsV_ge{x:Vis}{op:Int}(h:0<=x.sz):∀(i:Nat) (l:List Int),∀y∈kidsV x op i l,0<=y.sz
 | _,[],y,hy=>by cases hy
 | i,k::r,y,hy=>by
  rw[kidsV] at hy;rcases List.mem_cons.1 hy with rfl | hy
  ·simp only[kidV];split <;> omega
  ·exact kidsV_ge h (i+1) r y hy
theorem visit_ge{p:Prog}{next:Bool}:∀(f:Nat) (x:Vis) (out:List Int),0<=x.sz->∀y∈(visit p next f x out).1,0<=y.sz
 | 0,x,out,h,y,hy=>by rw[show (visit p next 0 x out).1= [x] from rfl,List.mem_singleton] at hy;rw[hy];exact h
 | f+1,x,out,h,y,hy=>by
  cases hk:okV p next x out with
  | false=>rw[visit_no hk,List.mem_singleton] at hy;rw[hy];exact h
  | true=>
   rw[visit_yes hk] at hy;rcases List.mem_cons.1 hy with rfl | hy
   ·exact h
   ·exact visitsW_all _ _ (λz hz o' y hy=>visit_ge f z o' (kidsV_ge h _ _ z hz) y hy) y hy
def OutGe(o:List Int):Prop:=∀y∈o,-1<=y
theorem outsV_ge:∀(L:List Vis) (o:List Int),(∀x∈L,0<=x.sz)->OutGe o->OutGe (outsV L o)
 | [],o,_,h=>h
 | x::r,o,hL,h=>outsV_ge r _ (λy hy=>hL y (.tail _ hy)) (λy hy=>by
  rcases List.mem_or_eq_of_mem_set hy with h1 | h1
  ·exact h y h1
  ·have:=hL x (.head _);omega)
theorem visit_outGe{p:Prog}{o o':List Int}(hd:x.dp=1)(hs:0<=x.sz)(h:(visit p next 13 x o).2=some o')(hg:OutGe o):OutGe o':=by
 rw[(visit_vp (p:=p) (next:=next) 13 x o Yb).end_ o' h];exact outsV_ge _ _ (visit_ge 13 x o hs) hg
theorem out0_ge(p:Prog):OutGe (out0 p):=λy hy=>by rw[(List.mem_replicate.1 hy).2];omega
theorem ints_flatR(l:List Int):(l.map λn=>[AV.i n]).flatten=l.map AV.i:=by
 induction l with
 | nil=>rfl
 | cons x r ih=>rw[List.map_cons,List.flatten_cons,ih];rfl
theorem meth_bif{p:Prog}{m:Mth}(hw:worldP (worldOf p)=true):(bif bif bif bif bif decide (m.kind<1) then true else decide (m.kind>4) then true else decide (m.gen<0) then true else decide (m.gen>=p.gens.length) then true else !formedP (worldOf p) m.fact then true else decide (speaksP m.fact>p.gens.getD m.gen.toNat default))= !(mth1 p m && mth2 p m):=by
 unfold mth1 mth2;rw[hw];simp only[Bool.cond_true_left,Bool.true_and];cases formedP (worldOf p) m.fact
 ·simp
 ·rw[Bool.eq_iff_iff];simp only[Bool.or_eq_true,decide_eq_true_eq,Bool.not_eq_true', <-Bool.not_eq_true,Bool.and_eq_true,Bool.not_true,Bool.false_eq_true,or_false,true_and];omega
theorem gen_bif(n:Int):(bif decide (n<1) then true else decide (n>3))= !genP n:=by
 unfold genP;rw[Bool.cond_true_left,Bool.eq_iff_iff];simp only[Bool.or_eq_true,decide_eq_true_eq,Bool.not_eq_true', <-Bool.not_eq_true,Bool.and_eq_true];omega
theorem head_bif(p:Prog)(b:Bool):(bif bif bif bif !b then true else decide ((p.gens.length:Int)>8) then true else decide ((p.methods.length:Int)>16) then true else decide ((p.nodes.length:Int)<1) then true else decide ((p.nodes.length:Int)>120))= !(b && headP p):=by
 unfold headP;cases b
 ·simp
 ·simp only[Bool.cond_true_left,Bool.true_and,Bool.not_true];rw[Bool.eq_iff_iff];simp only[Bool.or_eq_true,decide_eq_true_eq,Bool.not_eq_true', <-Bool.not_eq_true,Bool.and_eq_true,Bool.false_eq_true,false_or];omega
theorem rLook{p:Prog}(hp:p.Small):PCall Tryz.prog 101 [AV.prog p] (.tup [AV.ints ((sizesP p).getD []),.b (sizesP p).isSome]):=by
 intro H;refine aC (n:=156) Tryz.func101 λB I w0=>?_;have hpc:=hp.classes;have hpp:=hp.parents;have hb1:0=0:=rfl;refine Z11 ?_;refine oP (POp.call .k (rClasses hp)) ?_;refine Z27 ?_;refine CW.cond rfl (λh0=>?_) (λh0=>?_)
 ·rw[head_bif,Bool.not_eq_true',Bool.and_eq_false_iff] at h0;have hno:sizesP p=none:=by
   rcases h0 with h0 | h0
   ·exact szs_no1 h0
   ·exact szs_no2 h0
  refine Z8 ?_;refine Done.retR (rs:=[.tmp 2,.tmp 3]) (H':=H) rfl (.tmp rfl (.tmp rfl (.nil))) (.cons (AVle.nil 1) (.cons (.refl _) .nil)) Yd ?_;exact⟨YaG,rfl⟩
 ·rw[head_bif,Bool.not_eq_false',Bool.and_eq_true] at h0;obtain⟨hcl,hhd⟩:=h0;have hH:=Heads.of hcl;have h10:=hH.cl;have hw:=hH.world;have hpl:=world_pl p;have hhd2:=hhd;simp only[headP,Bool.and_eq_true,decide_eq_true_eq] at hhd2;have hsl:=slotsA_mem _ _ hH.sl;refine Z9 ?_;refine lj (λm st=>∃i:Nat,st=⟨[(4,.i i),(1,.ptr (progC p))],H⟩/\m=p.gens.length - i/\i<=p.gens.length/\(p.gens.take i).all genP=true) (⟨0,rfl,rfl,Yb,rfl⟩) ?_;rintro m _ ⟨i,rfl,rfl,hi,ha⟩;refine Z10 ?_;refine cd (λh1=>?_) λh1=>?_
  ·have hil:i<p.gens.length:=by omega
   refine Z22 ?_;refine CW.cond rfl (λh2=>?_) (λh2=>?_)
   ·rw[gen_bif,Bool.not_eq_true'] at h2;have hno:sizesP p=none:=szs_no3 (all_no hil h2);refine Z12 ?_;refine Done.retR (rs:=[.tmp 2,.tmp 3]) (H':=H) rfl (.tmp rfl (.tmp rfl (.nil))) (.cons (AVle.nil 1) (.cons (.refl _) .nil)) Yd ?_;exact⟨YaG,rfl⟩
   ·rw[gen_bif,Bool.not_eq_false'] at h2;refine Z8 ?_;exact ag (⟨i+1,rfl,rfl,hil,all_step hil ha h2⟩)
  ·obtain rfl:i=p.gens.length:=by omega
   rw[List.take_length] at ha;refine Z17 ?_;refine CW.rowNil 3 1 ?_;refine lj (λm st=>∃(i:Nat) (v:Value),st=⟨[(6,.i i),(5,.val v),(1,.ptr (progC p))],rowE v (List.replicate i (-1))::H⟩/\m=p.nodes.length - i/\i<=p.nodes.length) (⟨0,_,rfl,rfl,Yb⟩) ?_;rintro m _ ⟨i,v,rfl,rfl,hi⟩;refine Z10 ?_;refine cd (λh3=>?_) λh3=>?_
   ·have hil:i<p.nodes.length:=by omega
    refine Z6 ?_;refine OL.popC (x:=.sl 1 [[.i (-1)]]) rfl rfl rfl (POp.row rfl rfl Yj rfl rfl rfl rfl rfl rfl) ?_;refine OL.appendRowAny (intEls [-1]) rfl rfl rfl rfl rfl rfl rfl rfl (AVle.refl _) rfl (λv=>.head _ _ _) (by simp only[intEls_len,List.length_replicate,List.length_singleton];omega) (by simp only[intEls_len,List.length_replicate,List.length_singleton];omega) (λv68=>?_);refine Z4 ?_;refine CW.eqH (H':=rowE v68 (List.replicate i (-1)++[-1])::H) (congrArg (· ::_) (rowE_append _ _ _)) ?_;refine Z5 ?_;exact ag (⟨i+1,v68,by rw[List.replicate_succ'],rfl,hil⟩)
   ·obtain rfl:i=p.nodes.length:=by omega
    refine Z6 ?_;refine CW.rowBlk (t:=3) (by rw[intEls_len,List.length_replicate];omega) (λb cap more=>.head _ _ _) (λnb cap more e1 e2 e3 e4 e5=>?_);rw[intEls_len,List.length_replicate] at e1 e2;subst e1;refine CW.eqH (H':=.blk nb 3 ((out0 p).map AV.i++more)::H) (by rw[intEls,ints_flatR];rfl) ?_;refine Z2 ?_;refine oP (POp.call .k (rWorld p Yb (λc h=>⟨hpp c h,by have:=(hsl c h).1;omega⟩))) ?_;refine OL.alC rfl rfl rfl rfl (λwb=>?_);refine Z5 ?_;refine CW.freezeP (d:=7) rfl Yr ?_;refine Z5 ?_;refine lj (λm st=>∃(i:Nat) (o:List Int),st=⟨[(8,.i i),(7,.ptr (Wcells (worldOf p))),(5,.val (.slice (some ⟨nb,0,none⟩) p.nodes.length cap)),(1,.ptr (progC p))],.blk nb 3 (o.map AV.i++more)::H⟩/\m=p.methods.length - i/\i<=p.methods.length/\methodsN p (p.methods.drop i) o=methodsN p p.methods (out0 p)/\o.length=p.nodes.length/\OutGe o) (⟨0,out0 p,rfl,rfl,Yb,rfl,by simp[out0],out0_ge p⟩) ?_;rintro m _ ⟨i,o,rfl,rfl,hi,hmn,hol,hge⟩;refine Z10 ?_;refine cd (λh4=>?_) λh4=>?_
    ·have hil:i<p.methods.length:=by omega
     obtain⟨M,hM⟩:∃M,M=(p.methods.getD i default):=⟨_,rfl⟩;refine Z11 ?_;refine OL.alC rfl rfl rfl rfl (λmb=>?_);refine Z5 ?_;rw[<-hM];refine CW.freezeP (d:=9) rfl Yr ?_;refine CW.dp mixed ?_;refine Z56 ?_;refine DP.anyC 14 19 156 rfl Yf rfl rfl Yf ?_;refine Z18 ?_;refine DP.anyC 22 25 156 rfl Yf rfl rfl Yf ?_;refine Z5 ?_;refine OL.guardC rfl rfl rfl rfl rfl rfl (λhg=>POp.call (.mk' rfl rfl rfl rfl Yc) (rFormed Yb M.fact)) ?_;refine Z14 ?_;refine DP.anyC 29 38 156 rfl Yf rfl rfl Yf ?_;refine Z2 ?_;refine AD.guardC rfl rfl rfl rfl rfl (λhg=>POp.call (.mk' rfl rfl rfl rfl Yc) (rSpeaks M.fact (formed_smallA (w:=worldOf p) (by revert hg;cases formedP (worldOf p) M.fact <;> simp)))) ?_;refine Z4 ?_;refine AD.guardC rfl rfl rfl rfl rfl (λhg=>(by first | exact POp.ixM rfl rfl (gd hg) rfl (gd hg) Y4 | exact POp.ixI rfl rfl (gd hg) rfl (gd hg) Y4)) ?_;refine Z7 ?_;refine CW.cond rfl (λh5=>?_) (λh5=>?_)
     ·rw[meth_bif hw,Bool.not_eq_true'] at h5;have hno:sizesP p=none:=szs_no4 (by rw[<-hmn];exact mths_no hil hM h5);refine Z13 ?_;refine Done.retR (rs:=[.tmp 2,.tmp 3]) (H':=H) rfl (.tmp rfl (.tmp rfl (.nil))) (.cons (AVle.nil 1) (.cons (.refl _) .nil)) Yd ?_;exact⟨YaG,rfl⟩
     ·rw[meth_bif hw,Bool.not_eq_false'] at h5;have hm1:=h5;simp only[mth1,Bool.and_eq_true,decide_eq_true_eq] at hm1;have hgp:=List.all_eq_true.1 ha _ (getD_memB (l:=p.gens) (k:=M.gen.toNat) Yb);simp only[genP,Bool.and_eq_true,decide_eq_true_eq] at hgp;refine Z3 ?_;rcases hv:(visit p (nextM M) 13 (bodyV p M) o).2 with _ | o1
      ·have hno:sizesP p=none:=szs_no4 (by rw[<-hmn];exact mths_stop hil hM hv);refine CW.dp mixed ?_;refine DP.anyC 0 13 156 rfl Yf rfl rfl Yf ?_;refine Z11 ?_;refine AD.popC rfl rfl rfl (POp.call .k (rNext M.kind)) ?_;refine Z3 ?_;refine bC (.mk' rfl rfl rfl rfl rfl) ((ACall.weak (rWalk (next:=nextM M) Yb 13 (bodyV p M) o nb cap more H Yav YaA YR hol) (λy H1 h=>by rw[walkQ,hv] at h;exact h) (λ_ _ h=>h)).b) ?_;rintro _ _ ⟨rfl,o2,rfl⟩;refine Z3 ?_;refine CW.cond rfl (λh6=>?_) (λh6=>?_)
       ·replace h6:=nm h6;refine Z12 ?_;refine Done.retR (rs:=[.tmp 2,.tmp 3]) (H':=H) rfl (.tmp rfl (.tmp rfl (.nil))) (.cons (AVle.nil 1) (.cons (.refl _) .nil)) Yd ?_;exact⟨YaG,rfl⟩
       ·cases h6
      ·have hol1:=visit_lenR Yav hv;have hge1:=visit_outGe Yav (by simp only[bodyV];omega) hv hge;have hmg:=mths_go hil hM h5 hv;refine CW.dp mixed ?_;refine DP.anyC 0 13 156 rfl Yf rfl rfl Yf ?_;refine Z11 ?_;refine AD.popC rfl rfl rfl (POp.call .k (rNext M.kind)) ?_;refine Z3 ?_;refine bC (.mk' rfl rfl rfl rfl rfl) ((ACall.weak (rWalk (next:=nextM M) Yb 13 (bodyV p M) o nb cap more H Yav YaA YR hol) (λy H1 h=>by rw[walkQ,hv] at h;exact h) (λ_ _ h=>h)).b) ?_;rintro _ _ ⟨rfl,rfl⟩;refine Z3 ?_;refine CW.cond rfl (λh7=>?_) (λh7=>?_)
       ·cases h7
       ·replace h7:=nm h7;refine Z8 ?_;exact ag (⟨i+1,o1,rfl,rfl,hil,by rw[<-hmn,hmg],Yb,hge1⟩)
    ·obtain rfl:i=p.methods.length:=by omega
     rw[List.drop_length,methodsN] at hmn;have hmn:=hmn.symm;refine Z7 ?_;rcases hv:(visit p false 13 ⟨p.main,0,1⟩ o).2 with _ | o1
     ·have hno:sizesP p=none:=szs_no5 hmn hv;refine Z5 ?_;refine bC (.mk' rfl rfl rfl rfl rfl) ((ACall.weak (rWalk (next:=false) Yb 13 (⟨p.main,0,1⟩:Vis) o nb cap more H Yav YaA YR hol) (λy H1 h=>by rw[walkQ,hv] at h;exact h) (λ_ _ h=>h)).b) ?_;rintro _ _ ⟨rfl,o2,rfl⟩;refine Z3 ?_;refine CW.cond rfl (λh8=>?_) (λh8=>?_)
      ·replace h8:=nm h8;refine Z8 ?_;refine Done.retR (rs:=[.tmp 2,.tmp 3]) (H':=H) rfl (.tmp rfl (.tmp rfl (.nil))) (.cons (AVle.nil 1) (.cons (.refl _) .nil)) Yd ?_;exact⟨YaG,rfl⟩
      ·cases h8
     ·have hol1:=visit_lenR Yav hv;have hge1:=visit_outGe Yav (by show (0:Int)<=0;omega) hv hge;refine Z5 ?_;refine bC (.mk' rfl rfl rfl rfl rfl) ((ACall.weak (rWalk (next:=false) Yb 13 (⟨p.main,0,1⟩:Vis) o nb cap more H Yav YaA YR hol) (λy H1 h=>by rw[walkQ,hv] at h;exact h) (λ_ _ h=>h)).b) ?_;rintro _ _ ⟨rfl,rfl⟩;refine Z3 ?_;refine CW.cond rfl (λh9=>?_) (λh9=>?_)
      ·cases h9
      ·replace h9:=nm h9;refine Z9 ?_;refine lj (λm st=>∃i:Nat,st=⟨[(10,.i i),(5,.val (.slice (some ⟨nb,0,none⟩) p.nodes.length cap))],.blk nb 3 (o1.map AV.i++more)::H⟩/\m=p.nodes.length - i/\i<=p.nodes.length/\∀y∈o1.take i,0<=y) (⟨0,rfl,rfl,Yb,Yn⟩) ?_;rintro m _ ⟨i,rfl,rfl,hi,hpos⟩;refine Z5 ?_;refine oP (POp.lenV rfl rfl rfl) ?_;refine Z3 ?_;refine cd (λh10=>?_) λh10=>?_
       ·have hil:i<p.nodes.length:=by omega
        refine Z8 ?_;refine oP (POp.ixC rfl rfl rfl rfl rfl Yb) ?_;refine oP ((by first | exact POp.ld1 rfl rfl rfl rfl | (apply POp.ld1H rfl rfl rfl;(case hm=>repeat (first | exact .head _ | refine .tail _ ?_));(case hy=>exact cellM_get Yb)))) ?_;refine Z3 ?_;refine cd (λh11=>?_) λh11=>?_
        ·have hm1:o1.getD i default= -1:=by have:=hge1 _ (getD_memB (l:=o1) (k:=i) Yb);rw[Int.toNat_natCast] at h11;omega
         have hno:sizesP p=none:=szs_no6 hmn hv (by rw[<-hm1];exact List.contains_iff_mem.2 (getD_memB Yb));refine Z12 ?_;refine Done.retR (rs:=[.tmp 2,.tmp 3]) (H':=H) rfl (.tmp rfl (.tmp rfl (.nil))) (.cons (AVle.nil 1) (.cons (.refl _) .nil)) Yd ?_;exact⟨YaG,rfl⟩
        ·refine Z8 ?_;exact ag (⟨i+1,rfl,rfl,hil,λy hy=>by rw[<-take_getD Yb,List.mem_append,List.mem_singleton] at hy;rw[Int.toNat_natCast] at h11;rcases hy with hy | rfl;exact hpos y hy;omega⟩)
       ·obtain rfl:i=p.nodes.length:=by omega
        rw[<-hol, <-hol1,List.take_length] at hpos;have hyes:sizesP p=some o1:=szs_yes hcl hhd ha hmn hv (by rw[List.contains_eq_mem,decide_eq_false_iff_not];intro h;have:=hpos _ h;omega);refine Z6 ?_;refine CW.eqH (H':=.blk nb 3 ((o1.map λn=>[AV.i n]).flatten++more)::H) (by rw[ints_flatR]) ?_;refine CW.freezeS (k:=1) (d:=5) rfl (.head _ _) YP (λe he=>by obtain⟨y,_,rfl⟩:=List.mem_map.1 he;rfl) e2 e3 ?_;refine Z7 ?_;refine rR [.tmp 2,.tmp 3] (H) ?_;exact⟨by rw[hyes];rfl,rfl⟩
theorem rProg{p:Prog}(hp:p.Small):PCall Tryz.prog 35 [AV.prog p] (.b (sizesP p).isSome):=by
 intro H;refine aC (n:=11) Tryz.func35 λB I w0=>?_;refine Z9 ?_;refine oP (POp.call .k (rLook hp)) ?_;refine Z14 ?_;refine r1 2 (H) ?_;exact⟨Yav,rfl⟩
theorem heads_of{p:Prog}(hz:(sizesP p).isSome=true):Heads p:=by
 obtain⟨o,ho⟩:=Option.isSome_iff_exists.1 hz;exact Heads.of (sizes_parts ho).1
theorem world_of{p:Prog}(hp:p.Small)(hz:(sizesP p).isSome=true):PCall Tryz.prog 85 [AV.prog p] (AV.world (worldOf p)):=by
 have hH:=heads_of hz;have h10:=hH.cl;have hsl:=slotsA_mem _ _ hH.sl;exact rWorld p Yb (λc h=>⟨hp.parents c h,by have:=(hsl c h).1;omega⟩)
theorem speaksC:∀{f:Fact},smallA f=true->PCall Tryz.prog 248 [AV.fact f] (.i (speaksP f)):=λ{f}=>by
 refine Fact.ind1 (P:=λf=>smallA f=true->PCall Tryz.prog 248 [AV.fact f] (.i (speaksP f))) (λf ih hf=>speaks_step f hf λk hk=>ih k hk ((smallA_iff hf).2.2 k hk)) f
theorem factFormedC(W:Fc.FW)(f:Fact):PCall Tryz.prog 114 [AV.world W,AV.fact f] (.i (if worldP W && formedP W f then 0 else 2)):=by
 cases h:worldP W with
 | true=>simpa using factFormedT h f
 | false=>simpa using factFormedF h f
theorem sizes1{p:Prog}(hp:p.Small)(ob:Nat)(H:List Ent):ACall Tryz.prog 240 [.ptr (progC p),.p ob 0] (.blk ob 23 [(.val (.slice none 0 0))]::H) (λ_ H'=>∃nb o,sizesP p=some o/\H'=outH ob nb p.nodes.length o++H) (λy H'=>y=unfA/\sizesP p=none/\∃v,H'= .blk ob 23 [.val v]::H):=by
 refine aC (n:=130) Tryz.func240 λB I w0=>?_;refine Z3 ?_;refine OL.bcall rfl rfl .k (classesC hp _).b ?_ ?_
 ·rintro y H1 ⟨hcl,rfl⟩;obtain⟨hc10,hcs⟩:=classes_small hcl;refine Z26 ?_;rcases bool_or (headP p) with hh | hh
  ·refine OL.rcallN rfl rfl (.mk' rfl rfl rfl rfl rfl) (needF (by simp only[Bool.cond_false_right];exact hh) _) unf_c ?_;intro a w s;exact outP (P:=Tryz.prog) (fn:=Tryz.f240) unf_c (.refl _) ⟨rfl,szs_no2 hh,_,rfl⟩ a w s
  ·refine OL.rcallS rfl rfl rfl (.mk' rfl rfl rfl rfl rfl) (needT (by simp only[Bool.cond_false_right];exact hh) _) ?_;have hh2:=hh;simp only[headP,Bool.and_eq_true,decide_eq_true_eq] at hh2;refine Z12 ?_;refine lj (λm st=>∃i:Nat,st=⟨[(36,.i i),(35,.i p.gens.length),(34,AV.ints p.gens),(0,.ptr (progC p)),(1,.p ob 0)],.blk ob 23 [(.val (.slice none 0 0))]::H⟩/\m=p.gens.length - i/\i<=p.gens.length/\(p.gens.take i).all genP=true) (⟨0,rfl,rfl,Yb,rfl⟩) ?_;rintro m _ ⟨i,rfl,rfl,hi,hga⟩;refine Z6 ?_;refine cd (λh0=>?_) λh0=>?_
   ·have hil:i<p.gens.length:=by omega
    refine Z18 ?_;rcases bool_or (genP (p.gens.getD i default)) with h1 | h1
    ·refine OL.rcallN rfl rfl (.mk' rfl rfl rfl rfl rfl) (needF Yai _) unf_c ?_;intro a w s;exact outP (P:=Tryz.prog) (fn:=Tryz.f240) unf_c (.refl _) ⟨rfl,szs_no3 (all_noG hil h1),_,rfl⟩ a w s
    ·refine OL.rcallS rfl rfl rfl (.mk' rfl rfl rfl rfl rfl) (needT Yai _) ?_;refine Z7 ?_;exact ag (⟨i+1,rfl,rfl,hil,by rw[<-take_getD hil,List.all_append,hga,List.all_cons,h1];rfl⟩)
   ·obtain rfl:i=p.gens.length:=by omega
    rw[List.take_length] at hga;refine Z7 ?_;refine OL.popC (x:=.sl 1 [[.i (-1)]]) rfl rfl rfl (POp.row rfl rfl Yj rfl rfl rfl rfl rfl rfl) ?_;refine Z3 ?_;refine bC .k (repeatI p.nodes.length Yb _).b ?_
    ·rintro _ _ ⟨nb,rfl,rfl⟩;refine Z4 ?_;refine CW.perm (H':=.blk ob 23 [(.val (.slice (some ⟨nb,0,none⟩) p.nodes.length p.nodes.length))]::.blk nb 3 (List.replicate p.nodes.length (.i (-1)))::H) (.swap _ _ _) ?_;refine CW.eqH (H':=outH ob nb p.nodes.length (out0 p)++H) (by rw[<-out0_map];rfl) ?_;refine Z8 ?_;refine oP (POp.call .k (worldB p Yb hcs)) ?_;refine OL.alC rfl rfl rfl rfl (λwb=>?_);refine Z5 ?_;refine CW.freezeP (d:=5) rfl Yr ?_;refine Z8 ?_;refine lj (λm st=>∃(i:Nat) (o:List Int),st=⟨[(59,.i i),(58,.i p.methods.length),(57,.sl 9 (p.methods.map mthA)),(5,.ptr (Wcells (worldOf p))),(4,(.fn (.func 244) [] [.ptr (progC p),.p ob 0])),(0,.ptr (progC p)),(1,.p ob 0)],outH ob nb p.nodes.length o++H⟩/\m=p.methods.length - i/\i<=p.methods.length/\methodsN p p.methods (out0 p)=methodsN p (p.methods.drop i) o/\o.length=p.nodes.length) (⟨0,out0 p,rfl,rfl,Yb,rfl,by simp[out0]⟩) ?_;rintro m _ ⟨i,o,rfl,rfl,hi,hmN,hol⟩;refine Z6 ?_;refine cd (λh1=>?_) λh1=>?_
     ·have hil:i<p.methods.length:=by omega
      obtain⟨M,hM⟩:∃M,M=(p.methods.getD i default):=⟨_,rfl⟩;refine Z8 ?_;refine OL.alC rfl rfl rfl rfl (λb1=>?_);refine Z4 ?_;rw[<-hM];refine CW.freezeP (d:=7) rfl Yr ?_;refine Z22 ?_;rcases bool_or (mth1 p M) with h1 | h1
      ·refine OL.rcallN rfl rfl (.mk' rfl rfl rfl rfl rfl) (needF Yai _) unf_c ?_;intro a w s;exact outP (P:=Tryz.prog) (fn:=Tryz.f240) unf_c (.cons_cons _ (.cons _ (.refl _))) ⟨rfl,szs_no4 (by rw[hmN];exact mths_no hil hM (by rw[h1];rfl)),_,rfl⟩ a w s
      ·refine OL.rcallS rfl rfl rfl (.mk' rfl rfl rfl rfl rfl) (needT Yai _) ?_;have hm1:=h1;simp only[mth1,Bool.and_eq_true,decide_eq_true_eq] at hm1;have hgm:M.gen.toNat<p.gens.length:=by omega
       have hgn:=gens_in hga (getD_memB hgm);refine Z3 ?_;refine CW.dp mixed ?_;refine DP.anyC 0 3 130 rfl Yf rfl rfl Yf ?_;refine Z5 ?_;refine oP (POp.call .k (factFormedC (worldOf p) M.fact)) ?_;refine Z10 ?_;refine DP.anyC 6 15 130 rfl Yf rfl rfl Yf ?_;refine Z2 ?_;refine AD.guardC rfl rfl rfl rfl rfl (λhg=>POp.call (.mk' rfl rfl rfl rfl Yc) (speaksC (formed_smallA (w:=worldOf p) (by have:=zero_of_if hg;rw[Bool.and_eq_true] at this;exact this.2)))) ?_;refine Z4 ?_;refine AD.guardC rfl rfl rfl rfl rfl (λhg=>(by first | exact POp.ixM rfl rfl (gd hg) rfl (gd hg) ⟨Yb,Yb⟩ | exact POp.ixI rfl rfl (gd hg) rfl (gd hg) ⟨Yb,Yb⟩)) ?_;refine Z5 ?_;rcases bool_or (mth2 p M) with h2 | h2
       ·refine OL.rcallN rfl rfl (.mk' rfl rfl rfl rfl rfl) (needF (by rw[Bool.cond_false_right,if_zero];exact h2) _) unf_c ?_;intro a w s;exact outP (P:=Tryz.prog) (fn:=Tryz.f240) unf_c (.cons_cons _ (.cons _ (.refl _))) ⟨rfl,szs_no4 (by rw[hmN];exact mths_no hil hM (by rw[h2,Bool.and_false])),_,rfl⟩ a w s
       ·refine OL.rcallS rfl rfl rfl (.mk' rfl rfl rfl rfl rfl) (needT (by rw[Bool.cond_false_right,if_zero];exact h2) _) ?_;refine Z2 ?_;refine CW.dp mixed ?_;refine DP.anyC 0 17 130 rfl Yf rfl rfl Yf ?_;refine Z7 ?_;refine AD.popC rfl rfl rfl (YW) ?_;refine Z11 ?_;have hnx:(bif (M.kind==1) then true else (M.kind==4))=nextM M:=by unfold nextM;rw[Bool.cond_true_left]
        refine OL.bcall rfl rfl .k (bodyS rfl M.node (p.gens.getD M.gen.toNat default) _ Yb o hol Yb ob nb H).b ?_ ?_
        ·rintro y H1 ⟨hv,rfl⟩;rw[hnx] at hv ⊢;have hgo:=visit_end (p:=p) (next:=nextM M) (x:=bodyV p M) rfl hv;refine Z7 ?_;exact ag (⟨i+1,outsV (visit p (nextM M) 13 (bodyV p M) o).1 o,rfl,rfl,hil,by rw[hmN,mths_go hil hM (by rw[h1,h2];rfl) hgo],by rw[outsV_len,hol]⟩)
        ·rintro y H1 ⟨rfl,hv,o1,rfl⟩ a w s I v hv2;rw[unf_c.is _ _ _ hv2];rw[hnx] at hv;exact outP (P:=Tryz.prog) (fn:=Tryz.f240) unf_c (.cons_cons _ (.cons _ (.refl _))) ⟨rfl,szs_no4 (by rw[hmN];exact mths_stop hil hM (Option.isNone_iff_eq_none.1 hv)),_,rfl⟩ a w s
     ·obtain rfl:i=p.methods.length:=by omega
      rw[List.drop_length] at hmN;replace hmN:methodsN p p.methods (out0 p)=some o:=hmN;refine Z10 ?_;refine OL.bcall rfl rfl .k (bodyS rfl p.main 0 false Yb o hol Yb ob nb H).b ?_ ?_
      ·rintro y H1 ⟨hv,rfl⟩;have hgo:=visit_end (p:=p) (next:=false) (x:=⟨p.main,0,1⟩) rfl hv;obtain⟨o2,ho2⟩:∃o2,o2=outsV (visit p false 13 ⟨p.main,0,1⟩ o).1 o:=⟨_,rfl⟩;rw[<-ho2] at hgo ⊢;have hol2:o2.length=p.nodes.length:=by rw[ho2,outsV_len,hol]
       refine Z4 ?_;refine oP (POp.callB .k (Borrow.outs (pre:=[]) (.tail _ (.head _)) hol2 Yb) (sContains o2 (-1))) ?_;refine Z1 ?_;rcases bool_or (o2.contains (-1)) with h3 | h3
       ·refine OL.rcallS rfl rfl rfl (.mk' rfl rfl rfl rfl rfl) (needT (by rw[h3];rfl) _) ?_;refine Z1 ?_;refine nR [] (outH ob nb p.nodes.length o2++H) ?_;exact⟨nb,o2,szs_yes hcl hh hga hmN hgo h3,rfl⟩
       ·refine OL.rcallN rfl rfl (.mk' rfl rfl rfl rfl rfl) (needF (by rw[h3];rfl) _) unf_c ?_;intro a w s;exact outP (P:=Tryz.prog) (fn:=Tryz.f240) unf_c (.cons_cons _ (.cons _ (.refl _))) ⟨rfl,szs_no6 hmN hgo h3,_,rfl⟩ a w s
      ·rintro y H1 ⟨rfl,hv,o1,rfl⟩ a w s I v hv2;rw[unf_c.is _ _ _ hv2];exact outP (P:=Tryz.prog) (fn:=Tryz.f240) unf_c (.cons_cons _ (.cons _ (.refl _))) ⟨rfl,szs_no5 hmN (Option.isNone_iff_eq_none.1 hv),_,rfl⟩ a w s
 ·rintro y H1 ⟨rfl,hcl,rfl⟩ a w s I v hv;rw[unf_c.is _ _ _ hv];exact outP (P:=Tryz.prog) (fn:=Tryz.f240) unf_c (.refl _) ⟨rfl,szs_no1 hcl,_,rfl⟩ a w s
theorem assert_unf(w:World):(Instr.typeAssert unfV 20 370 true).run Tryz.prog w= .ok (.tuple #[.agg #[],.bool true]) w:=by
 simp[Instr.typeAssert,run_underlying (show Tryz.prog.underlying 370=some (.struct #[]) by kernel_rfl)]
theorem catch_panicking(b:Nat)(x:Bool)(w:World)(hc:w.cell? ⟨b,0,none⟩=some (.bool x))(hz:w.frozen? ⟨b,0,none⟩=false)(hb:b<w.heap.size):
  CallsDIn (Eng.FW none) 0 Tryz.prog 294 #[.pointer (some ⟨b,0,none⟩)] (.panicking [{v:=unfV,recovered:=false}]) w λe u' w'=>
   e= .returned (.tuple #[])/\u'= .panicking [{v:=unfV,recovered:=true}]/\w'=(w.alloc (.cells #[] 370)).setCell ⟨b,0,none⟩ (.bool false):=by
 have hc2:(w.alloc (.cells #[] 370)).cell? ⟨b,0,none⟩=some (.bool x):=by rw[World.cell?_alloc_lt w _ ⟨b,0,none⟩ hb];exact hc
 have hz2:(w.alloc (.cells #[] 370)).frozen? ⟨b,0,none⟩=false:=by rw[World.frozen?_of_block (Go.RowKit.Below.heap_alloc w _ b hb)];exact hz
 refine callsDIn_of_wpSIn Tryz.func294 rfl trivial λc₀ cs hu=>?_;apply wpSIn_seq;apply wpSIn_region;have hta:=λw=>assert_unf w;simp[wpOpsSIn,go_sem,recoverD,hu,Tryz.ntmps294,Exit.thenS,Eng.FW,hta];apply wpSIn_seq;apply wpSIn_region;simp[wpOpsSIn,go_sem,Exit.thenS];refine wpSIn_cond (t:=true) (by simp[Act.eval,Array.replicate]) ?_;simp only[if_true];apply wpSIn_seq;apply wpSIn_seq;apply wpSIn_region;simp[wpOpsSIn,go_sem,Exit.thenS,hta];apply wpSIn_seq;apply wpSIn_region;simp[wpOpsSIn,go_sem,Exit.thenS];refine wpSIn_cond (t:=false) (by simp[Act.eval,Array.replicate]) ?_;simp only[Bool.false_eq_true,if_false];refine wpSIn_of_wpIn rfl (wpIn_skip ?_);simp only[Exit.thenS];apply wpSIn_region;simp[wpOpsSIn,go_sem,hc2,hz2,bodyPostS,results,Tryz.results294]
theorem catch_idle(b:Nat)(w:World):
  CallsDIn (Eng.FW none) 0 Tryz.prog 294 #[.pointer (some ⟨b,0,none⟩)] .returning w λe u' w'=>e= .returned (.tuple #[])/\u'= .returning/\w'=w:=by
 refine callsDIn_of_wpSIn Tryz.func294 rfl trivial λc₀ cs hu=>?_;apply wpSIn_seq;apply wpSIn_region;simp[wpOpsSIn,go_sem,recoverD,hu,Tryz.ntmps294,Exit.thenS,Eng.FW];apply wpSIn_seq;apply wpSIn_region;simp[wpOpsSIn,go_sem,Exit.thenS];refine wpSIn_cond (t:=false) (by simp[Act.eval,Array.replicate]) ?_;simp only[Bool.false_eq_true,if_false];refine wpSIn_of_wpIn rfl (wpIn_skip ?_);cases c₀;simp_all [bodyPostS,results,Tryz.results294]
def dfr(tb:Nat):Deferred:={target:=.fn (.func 294) #[.pointer (some ⟨tb,0,none⟩)],args:=#[]}
theorem leave_formed{x:Bool}{a:Act}{w:World}(hΦ:Φ (.b x) H)(hs:∃I,WOk B I w/\Ext B I0 w0 I w/\HeapOk B I w (.blk tb 4 [.b x]::H)/\EnvOk I w (envGet env) a)(ht:envGet env 2=some (.p tb 0)):
  LeavesIn (Eng.FW none) 0 Tryz.prog Tryz.f239 a.tmps (RetP B I0 w0 Φ E) [] .returning w:=by
 obtain⟨I,hw,he,hh,hv⟩:=hs;obtain⟨v,h1,h2⟩:=ResOk.res (P:=Tryz.prog) (c:=⟨B,I0,w0,0,[]⟩) (st:=⟨env,.blk tb 4 [.b x]::H⟩) hh hv (fn:=Tryz.f239) (rs:=[.cell 2 4]) rfl (.cell1 inferInstance ht (.head _) rfl .nil);exact⟨v,h1,I,H,hw,he,hh.tail,.inl ⟨v,_,rfl,h2,hΦ⟩⟩
theorem invoke_dfr(tb:Nat)(w:World):(invoke (.fn (.func 294) #[.pointer (some ⟨tb,0,none⟩)]) #[]).run Tryz.prog w= .ok (.enter 294 #[.pointer (some ⟨tb,0,none⟩)]) w:=by
 have:fnOk Tryz.prog 294=true:=by kernel_rfl
 have h:=run_callFunc this #[.pointer (some ⟨tb,0,none⟩)] w;simp[invoke]
theorem ret_formed{x:Bool}{a:Act}{w:World}{n:Nat}(hΦ:Φ (.b x) H)(s:Sat ⟨B,I0,w0,n,[dfr tb]⟩ ⟨env,.blk tb 4 [.b x]::H⟩ a w)(ht:envGet env 2=some (.p tb 0)):
  bodyPostDIn (Eng.FW none) 0 Tryz.prog Tryz.f239 (RetP B I0 w0 Φ E) .ret a w:=by
 show LeavesIn _ _ _ _ _ _ a.defers .returning w;rw[s.ds];refine leavesIn_cons (f:=294) (args:=#[.pointer (some ⟨tb,0,none⟩)]) Yn (by simp[Eng.FW]) (invoke_dfr tb w) (λ_ _=>trivial) ?_;refine (catch_idle tb w).mono ?_;rintro e u' w' ⟨rfl,rfl,rfl⟩;exact leave_formed hΦ s.mem ht
theorem pan_formed{x:Bool}{a:Act}{w:World}{n:Nat}(hΦ:Φ (.b false) H)(s:Sat ⟨B,I0,w0,n,[dfr tb]⟩ ⟨env,.blk tb 4 [.b x]::H⟩ a w)(ht:envGet env 2=some (.p tb 0)):
  bodyPostDIn (Eng.FW none) 0 Tryz.prog Tryz.f239 (RetP B I0 w0 Φ E) (.panic [{v:=unfV,recovered:=false}]) a w:=by
 show LeavesIn _ _ _ _ _ _ a.defers (.panicking [{v:=unfV,recovered:=false}]) w;rw[s.ds];obtain⟨I,hw,he,hh,hv⟩:=s.mem;obtain⟨hB,vs,hb,hr,hni⟩:=hh.ok _ (.head _);have hvs:vs= #[.bool x]:=by
  have h1:=rel_vals (vs:=[.bool x]) hr;exact Array.toList_inj.1 h1
 subst hvs;have hlt:tb<w.heap.size:=(Array.getElem?_eq_some_iff.1 hb).1;refine leavesIn_cons (f:=294) (args:=#[.pointer (some ⟨tb,0,none⟩)]) Yn (by simp[Eng.FW]) (invoke_dfr tb w) (λ_ _=>trivial) ?_;refine (catch_panicking tb x w (by rw[cell_of_blk hb];rfl) (by simp[World.frozen?,hb]) hlt).mono ?_;rintro e u' w' ⟨rfl,rfl,rfl⟩;have hw1:=hw.alloc (.cells #[] 370);have hh1:=hh.alloc hw (.cells #[] 370);have hb1:(w.alloc (.cells #[] 370)).heap[tb]? =some (.cells #[.bool x] 4 (0,0)):=by rw[Go.RowKit.Below.heap_alloc w _ tb hlt];exact hb
 have hk1:=keeps_alloc hw (.cells #[] 370);have he1:=he.trans (ext_alloc hw (.cells #[] 370));have hv1:=hv.keep hk1;generalize w.alloc (.cells #[] 370)=w1 at*;have hset:(w1.setCell ⟨tb,0,none⟩ (.bool false)).heap[tb]? =some (.cells #[.bool false] 4 (0,0)):=one_setCell hb1;have hcell:∀b i,I b i->(w1.setCell ⟨tb,0,none⟩ (.bool false)).cell? ⟨b,i,none⟩=w1.cell? ⟨b,i,none⟩:=λb i hI=>
  World.cell?_of_block (a:=⟨b,i,none⟩) (Go.RowKit.Below.heap_setCell _ _ _ _ (λe=>hni i (by rw[<-(show b=tb from e)];exact hI)))
 have hk2:Keeps I w1 I (w1.setCell ⟨tb,0,none⟩ (.bool false)):=⟨λ_ _ h=>h,hcell⟩;have hbel:=(Go.RowKit.Below.refl B w1).setCell (p:=⟨tb,0,none⟩) hB (.bool false);exact leave_formed (x:=false) (env:=env) hΦ ⟨I,⟨Nat.le_trans hw1.base hbel.size,λb i hI=>by rw[hcell b i hI];exact hw1.there b i hI⟩,he1.trans ⟨λ_ _ h=>h,hcell,hbel⟩,
  hh1.upd (.head _ _ _) hk2 (λb _ hne=>Go.RowKit.Below.heap_setCell _ _ _ _ (λe=>hne (by rw[show b=tb from e];rfl))) (λ_ _ h=>.inl h) ⟨hB,#[.bool false],hset,.cons _ _ _ _ (.val _) .nil,hni⟩ (λ_ h=>.inl h),hv1.keep hk2⟩ ht
theorem formedC{g:Fn}{gs gc:List AV}{A Bp:List Ent->Prop}(hdo:∀B Hy,VCall B Tryz.prog (.fn g gs gc) [] (H++Hy) (λ_ H'=>∃H1,H'=H1++Hy/\A H1) (λy H'=>y=unfA/\∃Hf,H'=Hf++Hy/\Bp Hf)):
  ACall Tryz.prog 239 [.fn g gs gc] H (λx H'=>(x= .b true/\A H')\/(x= .b false/\Bp H')) (λ_ _=>False):=by
 refine ACall.mkD (n:=6) Tryz.func239 rfl Ya rfl rfl (λB I w0=>?_);refine Z2 ?_;refine OL.alC rfl rfl rfl rfl (λtb=>?_);refine Z5 ?_;refine OL.deferC (vs:=[.pointer (some ⟨tb,0,none⟩)]) rfl rfl rfl rfl rfl rfl ?_;refine Z3 ?_;refine CW.perm (List.perm_append_singleton _ _).symm ?_;refine Z2 ?_;refine OL.vcall rfl rfl rfl rfl rfl rfl rfl (AVleL.refl _) (hdo B [.blk tb 4 [.b false]]) ?_ ?_
 ·rintro y _ ⟨H1,rfl,hA⟩;refine Z3 ?_;refine CW.perm (List.perm_append_singleton _ _) ?_;refine Z5 ?_;intro a w s;exact ret_formed (.inl ⟨rfl,hA⟩) s rfl
 ·rintro y H2 ⟨rfl,Hf,rfl,hB⟩ a w s I v hv;rw[unf_c.is _ _ _ hv];exact pan_formed (.inr ⟨rfl,hB⟩) (s.perm (List.perm_append_singleton _ _)) rfl
theorem sizesC{p:Prog}(hp:p.Small)(H:List Ent):ACall Tryz.prog 176 [AV.prog p] H (λy H'=>H'=H/\((∃o,sizesP p=some o/\y= .tup [AV.ints o,.b true])\/(sizesP p=none/\∃v,y= .tup [.val v,.b false]))) (λ_ _=>False):=by
 refine aC (n:=10) Tryz.func176 λB I w0=>?_;refine Z9 ?_;refine OL.alC rfl rfl rfl rfl (λob=>?_);refine Z5 ?_;refine bC .k (formedC (H:=.blk ob 23 [.val (.slice none 0 0)]::H) (A:=λH1=>∃nb o,sizesP p=some o/\H1=outH ob nb p.nodes.length o++H) (Bp:=λHf=>sizesP p=none/\∃v,Hf= .blk ob 23 [.val v]::H)
  (λB Hy=>VCall.fn ((sizes1 hp ob (H++Hy)).imp (λy H'=>?_) (λy H'=>?_)))).b ?_
 ·rintro⟨nb,o,h1,rfl⟩;exact⟨outH ob nb p.nodes.length o++H,by rw[List.append_assoc],nb,o,h1,rfl⟩
 ·rintro⟨rfl,h1,v,rfl⟩;exact⟨rfl,.blk ob 23 [.val v]::H,rfl,h1,v,rfl⟩
 rintro y H1 (⟨rfl,nb,o,hs,rfl⟩ | ⟨rfl,hs,v,rfl⟩)
 ·have hol:=sizes_len hs;refine Z6 ?_
  first | (refine OL.eqH (H':=.blk ob 23 [(.val (.slice (some ⟨nb,0,none⟩) p.nodes.length p.nodes.length))]::.blk nb 3 ((o.map λn=>[AV.i n]).flatten++[])::H) (by rw[<-ints_flat];rfl) ?_;refine OL.freezeS (k:=1) (d:=8) rfl (.tail _ _ _ _ (.head _ _)) (by rw[List.length_map];exact hol.1) (λe he=>by obtain⟨y,_,rfl⟩:=List.mem_map.1 he;rfl) (Nat.le_refl _) Yy ?_) | skip
  refine Z6 ?_;refine rR [.tmp 2,.tmp 3] (H) ?_;exact⟨rfl,.inl ⟨o,hs,rfl⟩⟩
 ·refine Z6 ?_
  first | (refine OL.eqH (H':=.blk ob 23 [(.val (.slice (some ⟨nb,0,none⟩) p.nodes.length p.nodes.length))]::.blk nb 3 ((o.map λn=>[AV.i n]).flatten++[])::H) (by rw[<-ints_flat];rfl) ?_;refine OL.freezeS (k:=1) (d:=8) rfl (.tail _ _ _ _ (.head _ _)) (by rw[List.length_map];exact hol.1) (λe he=>by obtain⟨y,_,rfl⟩:=List.mem_map.1 he;rfl) (Nat.le_refl _) Yy ?_) | skip
  refine Z6 ?_;refine rR [.tmp 2,.tmp 3] (H) ?_;exact⟨rfl,.inr ⟨hs,v,rfl⟩⟩
theorem checkB{p:Prog}(hp:p.Small):PCall Tryz.prog 98 [AV.prog p] (.i (if(sizesP p).isSome then 0 else 2)):=by
 intro H;refine aC (n:=12) Tryz.func98 λB I w0=>?_;refine Z10 ?_;refine bC .k (sizesC hp H).b ?_;rintro y H1 ⟨e,⟨o,hs,rfl⟩ | ⟨hs,v,rfl⟩⟩
 ·replace e:=e.symm;subst e;refine Z13 ?_;refine CW.cond rfl (λh0=>?_) (λh0=>?_)
  ·simp at h0
  ·replace h0:=nm h0;refine Z8 ?_;refine r1 2 (H) ?_;exact⟨by rw[hs];rfl,rfl⟩
 ·replace e:=e.symm;subst e;refine Z13 ?_;refine CW.cond rfl (λh1=>?_) (λh1=>?_)
  ·replace h1:=nm h1;refine Z7 ?_;refine r1 2 (H) ?_;exact⟨by rw[hs];rfl,rfl⟩
  ·simp at h1
theorem idxMV{f:Fn}(hg:PredOk Tryz.prog (.fn f fs cs) AV.mv q)(l:List (Int×Int)):PCall Tryz.prog 326 [AV.mvs l,.fn f fs cs] (.i (idxG l q)):=by
 intro H;refine aC (n:=19) Tryz.func326 λB I w0=>?_;refine CW.boundM (t:=0) rfl (λhb0=>?_);refine Z14 ?_;refine lj (λm st=>∃k:Nat,st=⟨[(8,.i k),(7,.i l.length),(0,AV.mvs l),(1,.fn f fs cs)],H⟩/\m=l.length - k/\k<=l.length/\∀x∈l.take k,q x=false) (⟨0,rfl,rfl,Yn,Yn⟩) ?_;rintro m _ ⟨k,rfl,rfl,hk,hp⟩;refine Z6 ?_;refine cd (λh0=>?_) λh0=>?_
 ·have hkl:k<l.length:=by omega
  refine Z17 ?_;refine OL.vcallC rfl rfl rfl rfl rfl rfl rfl rfl (AVleL.refl _) (hg B _ _) ?_;rintro _ H1 ⟨rfl,e⟩;replace e:=e.symm;subst e;refine Z2 ?_;refine cd (λh1=>?_) λh1=>?_
  ·refine Z12 ?_;refine r1 4 (H) ?_;exact⟨retI (idxG_at hkl hp h1),rfl⟩
  ·refine Z7 ?_;exact ag (⟨k+1,rfl,rfl,hkl,λx hx=>by rw[<-take_getD hkl,List.mem_append,List.mem_singleton] at hx;rcases hx with hx | rfl;exact hp x hx;exact h1⟩)
 ·refine Z11 ?_;refine r1 4 (H) ?_;exact⟨retI (idxG_none YG),rfl⟩
theorem hasMV{f:Fn}(hg:PredOk Tryz.prog (.fn f fs cs) AV.mv q)(l:List (Int×Int)):PCall Tryz.prog 273 [AV.mvs l,.fn f fs cs] (.b (l.any q)):=by
 intro H;refine aC (n:=9) Tryz.func273 λB I w0=>?_;refine Z9 ?_;refine oP (POp.call .k (idxMV hg l)) ?_;refine Z5 ?_;refine r1 4 (H) ?_;exact⟨retB (idxG_any _ _),rfl⟩
end Go.Proofs.YtogjaoodkaahoaaGreat

namespace Go.Eng.Bd
open Go.Eng.Fc
structure VC where
 whn:Fact
 thn:Fact
structure Vw where
 of:Int
 before:Fact
 cases:List VC
structure Bk where
 gens:List Vw
 methods:List Vw
instance:Inhabited VC:=⟨⟨default,default⟩⟩
instance:Inhabited Vw:=⟨⟨0,default,[]⟩⟩
abbrev vcA(c:VC):List AV:=Fcells c.whn++Fcells c.thn
abbrev AV.vcs(l:List VC):AV:=.sl 12 (l.map vcA)
abbrev vwA(v:Vw):List AV:=[.i v.of]++Fcells v.before++[AV.vcs v.cases]
abbrev AV.vow(v:Vw):AV:=.agg (vwA v)
theorem speaksL_le(a:Int):∀(l:List Fact) (n:Int),speaksL l n<=a↔n<=a/\∀k∈l,speaksP k<=a
 | [],n=>by simp[speaksL]
 | k::r,n=>by
  rw[speaksL,speaksL_le a r,List.forall_mem_cons];constructor
  ·rintro⟨h1,h2⟩;exact⟨Yb,Yb,h2⟩
  ·rintro⟨h1,h2,h3⟩;exact⟨Yb,h3⟩
theorem argB_le{f:Fact}{a:Int}(ha:0<=a):decide (argB f<=a)=(!leafP f || decide (f.arg<a)):=by
 unfold argB leafP;rw[Bool.eq_iff_iff];simp only[Bool.or_eq_true,Bool.not_eq_true',Bool.and_eq_false_iff,decide_eq_true_eq,decide_eq_false_iff_not];split <;> omega
def spkP(f:Fact)(a:Int):Bool:=decide (speaksP f<=a)
theorem spkP_eq(f:Fact){a:Int}(ha:0<=a):spkP f a=((!leafP f || decide (f.arg<a)) && !f.kids.any λk=>!spkP k a):=by
 rw[<-argB_le ha];unfold spkP;rw[speaksP_eq,Bool.eq_iff_iff];simp only[decide_eq_true_eq,speaksL_le,Bool.and_eq_true,Bool.not_eq_true',List.any_eq_false,decide_eq_false_iff_not,Int.not_le,Int.not_lt]
def goodF(W:Fc.FW)(f:Fact)(a:Int):Bool:=formedP W f && spkP f a
def caseT(W:Fc.FW)(a:Int)(c:VC):Bool:=goodF W c.whn a && goodF W c.thn 1
def vowT(W:Fc.FW)(v:Vw)(a:Int):Bool:=decide (v.cases.length<=3) && goodF W v.before a && v.cases.all (caseT W a)
def isGen(p:Prog)(n:Int):Bool:=decide (n>=0) && decide (n<p.gens.length)
def argsG(p:Prog)(n:Int):Int:=p.gens.getD n.toNat default
end Go.Eng.Bd

namespace Go.Proofs.YtogjaoodkaahoaaGreat
open Go.Eng
open Go.Eng.Fc
open Go.Eng.Bd
variable{f:Fn}{fs cs:List AV}{q:Fact->Bool}{l:List Fact}
abbrev pgA(p:Prog)(W:Fc.FW):List AV:=progC p++Wcells W
abbrev AV.pg(p:Prog)(W:Fc.FW):AV:=.agg (pgA p W)
def wOf(p:Prog):Fc.FW:=if(sizesP p).isSome then worldOf p else⟨[],[]⟩
theorem wOf_yes{p:Prog}(h:(sizesP p).isSome=true):wOf p=worldOf p:=if_pos h
theorem good_bif(F S:Bool):(bif (if F=true then (0:Int) else 2)==0 then S else false)=(F && S):=by cases F <;> cases S <;> rfl
theorem leafV(f:Fact):PCall Tryz.prog 269 [AV.fact f] (.b (leafP f)):=by
 intro H;refine aC (n:=11) Tryz.func269 λB I w0=>?_;refine Z20 ?_;refine r1 2 (H) ?_;exact⟨retB (by unfold leafP;rw[Bool.cond_false_right]),rfl⟩
theorem idxFV(hg:∀x∈l,∀B H,VCall B Tryz.prog (.fn f fs cs) [AV.fact x] H (λy H'=>y= .b (q x)/\H'=H) (λ_ _=>False)):PCall Tryz.prog 190 [AV.facts l,.fn f fs cs] (.i (idxG l q)):=by
 intro H;refine aC (n:=19) Tryz.func190 λB I w0=>?_;refine CW.boundM (t:=0) rfl (λhb0=>?_);refine Z14 ?_;refine lj (λm st=>∃k:Nat,st=⟨[(8,.i k),(7,.i l.length),(0,AV.facts l),(1,.fn f fs cs)],H⟩/\m=l.length - k/\k<=l.length/\∀x∈l.take k,q x=false) (⟨0,rfl,rfl,Yn,Yn⟩) ?_;rintro m _ ⟨k,rfl,rfl,hk,hp⟩;refine Z6 ?_;refine cd (λh0=>?_) λh0=>?_
 ·have hkl:k<l.length:=by omega
  refine Z17 ?_;refine OL.vcallC rfl rfl rfl rfl rfl rfl rfl rfl (AVleL.refl _) (hg _ (getD_memB hkl) B _) ?_;rintro _ H1 ⟨rfl,e⟩;replace e:=e.symm;subst e;refine Z2 ?_;refine cd (λh1=>?_) λh1=>?_
  ·refine Z12 ?_;refine r1 4 (H) ?_;exact⟨retI (idxG_at hkl hp h1),rfl⟩
  ·refine Z7 ?_;exact ag (⟨k+1,rfl,rfl,hkl,λx hx=>by rw[<-take_getD hkl,List.mem_append,List.mem_singleton] at hx;rcases hx with hx | rfl;exact hp x hx;exact h1⟩)
 ·refine Z11 ?_;refine r1 4 (H) ?_;exact⟨retI (idxG_none YG),rfl⟩
theorem hasFV(hg:∀x∈l,∀B H,VCall B Tryz.prog (.fn f fs cs) [AV.fact x] H (λy H'=>y= .b (q x)/\H'=H) (λ_ _=>False)):PCall Tryz.prog 112 [AV.facts l,.fn f fs cs] (.b (l.any q)):=by
 intro H;refine aC (n:=9) Tryz.func112 λB I w0=>?_;refine Z9 ?_;refine oP (POp.call .k (idxFV hg)) ?_;refine Z5 ?_;refine r1 4 (H) ?_;exact⟨retB (idxG_any _ _),rfl⟩
theorem speaks1(k:Fact)(a:Int)(ih:PCall Tryz.prog 215 [AV.fact k,.i a] (.b (spkP k a))):PCall Tryz.prog 285 [AV.fact k,.ptr [.i a]] (.b (!spkP k a)):=by
 intro H;refine aC (n:=8) Tryz.func285 λB I w0=>?_;refine Z10 ?_;refine oP (POp.call .k (ih)) ?_;refine Z5 ?_;refine r1 3 (H) ?_;exact⟨Yav,rfl⟩
theorem speaks_stepV{a:Int}(ha:0<=a)(f:Fact)(ih:∀k∈f.kids,PCall Tryz.prog 215 [AV.fact k,.i a] (.b (spkP k a))):PCall Tryz.prog 215 [AV.fact f,.i a] (.b (spkP f a)):=by
 intro H;refine aC (n:=21) Tryz.func215 λB I w0=>?_;refine Z10 ?_;refine oP (POp.call .k (leafV f)) ?_;refine Z11 ?_;refine OL.guardC rfl rfl rfl rfl rfl rfl (λhg=>POp.call (.mk' rfl rfl rfl rfl Yc) (hasFV (q:=λk=>!spkP k a) (λk hk B H=>VCall.fn (speaks1 k a (ih k hk) H)))) ?_;refine Z6 ?_;refine r1 4 (H) ?_;exact⟨retB (by rw[spkP_eq f ha];cases leafP f <;> simp),rfl⟩
theorem speaksV{a:Int}(ha:0<=a):∀f:Fact,PCall Tryz.prog 215 [AV.fact f,.i a] (.b (spkP f a)):=Fact.ind1 λf ih=>speaks_stepV ha f ih
theorem factV(p:Prog){W:Fc.FW}(hw:worldP W=true)(f:Fact){a:Int}(ha:0<=a):PCall Tryz.prog 132 [AV.pg p W,AV.fact f,.i a] (.b (goodF W f a)):=by
 intro H;refine aC (n:=17) Tryz.func132 λB I w0=>?_;refine Z12 ?_;refine oP (POp.call .k (factFormedT hw f)) ?_;refine Z4 ?_;refine OL.guardC rfl rfl rfl rfl rfl rfl (λhg=>POp.call (.mk' rfl rfl rfl rfl Yc) (speaksV ha f)) ?_;refine Z5 ?_;refine r1 6 (H) ?_;exact⟨retB (by rw[good_bif];rfl),rfl⟩
theorem vow1(p:Prog){W:Fc.FW}(hw:worldP W=true){a:Int}(ha:0<=a)(c:VC):PCall Tryz.prog 134 [.agg (vcA c),.ptr (pgA p W),.ptr [.i a]] (.b (!caseT W a c)):=by
 intro H;refine aC (n:=18) Tryz.func134 λB I w0=>?_;refine Z12 ?_;refine oP (POp.call .k (factV p hw c.whn ha)) ?_;refine Z5 ?_;refine OL.guardC rfl rfl rfl rfl rfl rfl (λhg=>POp.call (.mk' rfl rfl rfl rfl Yc) (factV p hw c.thn Yb)) ?_;refine Z6 ?_;refine r1 4 (H) ?_;exact⟨retB (by unfold caseT;cases goodF W c.whn a <;> simp),rfl⟩
theorem idxVC{q:VC->Bool}(hg:PredOk Tryz.prog (.fn f fs cs) (λc:VC=>.agg (vcA c)) q)(l:List VC):PCall Tryz.prog 216 [AV.vcs l,.fn f fs cs] (.i (idxG l q)):=by
 intro H;refine aC (n:=19) Tryz.func216 λB I w0=>?_;refine CW.boundM (t:=0) rfl (λhb0=>?_);refine Z14 ?_;refine lj (λm st=>∃k:Nat,st=⟨[(8,.i k),(7,.i l.length),(0,AV.vcs l),(1,.fn f fs cs)],H⟩/\m=l.length - k/\k<=l.length/\∀x∈l.take k,q x=false) (⟨0,rfl,rfl,Yn,Yn⟩) ?_;rintro m _ ⟨k,rfl,rfl,hk,hp⟩;refine Z6 ?_;refine cd (λh0=>?_) λh0=>?_
 ·have hkl:k<l.length:=by omega
  refine Z17 ?_;refine OL.vcallC rfl rfl rfl rfl rfl rfl rfl rfl (AVleL.refl _) (hg B _ _) ?_;rintro _ H1 ⟨rfl,e⟩;replace e:=e.symm;subst e;refine Z2 ?_;refine cd (λh1=>?_) λh1=>?_
  ·refine Z12 ?_;refine r1 4 (H) ?_;exact⟨retI (idxG_at hkl hp h1),rfl⟩
  ·refine Z7 ?_;exact ag (⟨k+1,rfl,rfl,hkl,λx hx=>by rw[<-take_getD hkl,List.mem_append,List.mem_singleton] at hx;rcases hx with hx | rfl;exact hp x hx;exact h1⟩)
 ·refine Z11 ?_;refine r1 4 (H) ?_;exact⟨retI (idxG_none YG),rfl⟩
theorem hasVC{q:VC->Bool}(hg:PredOk Tryz.prog (.fn f fs cs) (λc:VC=>.agg (vcA c)) q)(l:List VC):PCall Tryz.prog 133 [AV.vcs l,.fn f fs cs] (.b (l.any q)):=by
 intro H;refine aC (n:=9) Tryz.func133 λB I w0=>?_;refine Z9 ?_;refine oP (POp.call .k (idxVC hg l)) ?_;refine Z5 ?_;refine r1 4 (H) ?_;exact⟨retB (idxG_any _ _),rfl⟩
theorem vow_cases(W:Fc.FW)(v:Vw)(a:Int):(bif bif decide ((v.cases.length:Int)<=3) then goodF W v.before a else false then !(v.cases.any λc=>!caseT W a c) else false)=vowT W v a:=by
 unfold vowT;rw[show decide ((v.cases.length:Int)<=3)=decide (v.cases.length<=3) by simp;omega];have e:(!(v.cases.any λc=>!caseT W a c))=v.cases.all (caseT W a):=by
  induction v.cases with
  | nil=>rfl
  | cons x r ih=>rw[List.any_cons,List.all_cons, <-ih,Bool.not_or,Bool.not_not]
 rw[e,Bool.cond_false_right,Bool.cond_false_right]
theorem vowC(p:Prog){W:Fc.FW}(hw:worldP W=true)(v:Vw){a:Int}(ha:0<=a):PCall Tryz.prog 69 [AV.pg p W,AV.vow v,.i a] (.b (vowT W v a)):=by
 intro H;refine aC (n:=25) Tryz.func69 λB I w0=>?_;refine Z19 ?_;refine OL.guardC rfl rfl rfl rfl rfl rfl (λhg=>POp.call (.mk' rfl rfl rfl rfl Yc) (factV p hw v.before ha)) ?_;refine Z5 ?_;refine OL.guardC rfl rfl rfl rfl rfl rfl (λhg=>POp.call (.mk' rfl rfl rfl rfl Yc) (hasVC (.of (vow1 p hw ha)) v.cases)) ?_;refine Z6 ?_;refine r1 6 (H) ?_;exact⟨retB (vow_cases W v a),rfl⟩
theorem genV(p:Prog)(W:Fc.FW)(n:Int):PCall Tryz.prog 68 [AV.pg p W,.i n] (.b (isGen p n)):=by
 intro H;refine aC (n:=15) Tryz.func68 λB I w0=>?_;refine Z22 ?_;refine r1 4 (H) ?_;exact⟨retB (by unfold isGen;rw[Bool.cond_false_right]),rfl⟩
theorem argsV{p:Prog}(W:Fc.FW){n:Int}(hn:isGen p n=true):PCall Tryz.prog 70 [AV.pg p W,.i n] (.i (argsG p n)):=by
 intro H;refine aC (n:=11) Tryz.func70 λB I w0=>?_;simp only[isGen,Bool.and_eq_true,decide_eq_true_eq] at hn;refine Z12 ?_;refine oP (YW) ?_;refine Z5 ?_;refine r1 4 (H) ?_;exact⟨Yav,rfl⟩
theorem worldV{p:Prog}(hp:p.Small):PCall Tryz.prog 131 [AV.prog p] (.tup [AV.world (wOf p),.i (if(sizesP p).isSome then 0 else 2)]):=by
 intro H;refine aC (n:=10) Tryz.func131 λB I w0=>?_;refine Z3 ?_;refine OL.alC rfl rfl rfl rfl (λb0=>?_);refine Z7 ?_;refine oP (POp.call .k (checkB hp)) ?_;refine Z3 ?_;refine CW.cond rfl (λh0=>?_) (λh0=>?_)
 ·have hz:(sizesP p).isSome=false:=by cases h:(sizesP p).isSome with
   | false=>rfl
   | true=>rw[h] at h0;simp at h0
  have hw0:wOf p=⟨[],[]⟩:=if_neg (by rw[hz];simp);rw[hz,hw0];refine Z9 ?_;refine Done.retR (rs:=[.cell 2 101,.tmp 3]) (H':=H) rfl (Yx) (.cons (AVle.agg (.cons (AVle.nil 1) (.cons (AVle.nil 1) .nil))) (.cons (.refl _) .nil)) Yd ?_;exact⟨Yav,rfl⟩
 ·have hz:(sizesP p).isSome=true:=by cases h:(sizesP p).isSome with
   | true=>rfl
   | false=>rw[h] at h0;simp at h0
  have hH:=heads_of hz;have h10:=hH.cl;obtain⟨o,ho⟩:=Option.isSome_iff_exists.1 hz;have hcs:=(classes_small (sizes_parts ho).1).2;rw[wOf_yes hz,hz];refine Z5 ?_;refine oP (POp.call .k (worldB p Yb hcs)) ?_;refine Z5 ?_;refine Done.retR (rs:=[.cell 2 101,.tmp 3]) (H':=H) rfl (Yx) (AVleL.refl _) Yd ?_;exact⟨Yav,rfl⟩
theorem readV{p:Prog}(hp:p.Small):PCall Tryz.prog 67 [AV.prog p] (.tup [AV.pg p (wOf p),.b (sizesP p).isSome]):=by
 intro H;refine aC (n:=16) Tryz.func67 λB I w0=>?_;refine Z3 ?_;refine OL.alC rfl rfl rfl rfl (λb0=>?_);refine Z6 ?_;refine oP (POp.call .k (worldV hp)) ?_;refine Z3 ?_;refine OL.alC rfl rfl rfl rfl (λb1=>?_);refine Z16 ?_;refine Done.retR (rs:=[.cell 2 103,.tmp 3]) (H':=H) rfl (Yx) (AVleL.refl _) Yd ?_;exact⟨by rw[if_zero];rfl,rfl⟩
structure Gw where
 p:Prog
 b:Bk
 gen:Int
 method:Int
 objs:List Th
 args:List (Int×Int)
 fuel:Int
theorem formed_bif(v:Vw)(G:Bool):(bif decide ((v.cases.length:Int)>3) then true else !G)= !(decide (v.cases.length<=3) && G):=by
 rw[show decide ((v.cases.length:Int)>3)= !decide (v.cases.length<=3) by rw[Bool.eq_iff_iff];simp;omega];cases decide (v.cases.length<=3) <;> rfl
theorem gen_in2{p:Prog}{n:Int}(h:isGen p n=true):0<=n/\n<p.gens.length:=by simpa only[isGen,Bool.and_eq_true,decide_eq_true_eq] using h
theorem case_bif(A B:Bool):(bif !A then true else !B)= !(A && B):=by cases A <;> rfl
theorem rGood04{W:Fc.FW}(hW:W.parents.length<=60)(f:Fact)(a:Int):PCall Tryz.prog 217 [AV.world W,AV.fact f,.i a] (.b (goodF W f a)):=by
 intro H;refine aC (n:=16) Tryz.func217 λB I w0=>?_;refine Z11 ?_;refine oP (POp.call .k (rFormed hW f)) ?_;refine Z2 ?_;refine OL.guardC rfl rfl rfl rfl rfl rfl (λhg=>POp.call (.mk' rfl rfl rfl rfl Yc) (rSpeaks f (formed_smallA (w:=W) hg))) ?_;refine Z7 ?_;refine r1 6 (H) ?_;exact⟨retB (by rw[Bool.cond_false_right];rfl),rfl⟩
theorem rFormedV{W:Fc.FW}(hW:W.parents.length<=60)(v:Vw)(a:Int):PCall Tryz.prog 135 [AV.world W,AV.vow v,.i a] (.b (vowT W v a)):=by
 intro H;refine aC (n:=42) Tryz.func135 λB I w0=>?_;refine Z19 ?_;refine OL.guardC rfl rfl rfl rfl rfl rfl (λhg=>POp.call (.mk' rfl rfl rfl rfl Yc) (rGood04 hW v.before a)) ?_;refine Z4 ?_;refine CW.cond rfl (λh0=>?_) (λh0=>?_)
 ·rw[formed_bif,Bool.not_eq_true'] at h0;refine Z7 ?_;refine r1 6 (H) ?_;exact⟨retB (by unfold vowT;rw[h0];rfl),rfl⟩
 ·rw[formed_bif,Bool.not_eq_false'] at h0;refine Z12 ?_;refine CW.boundM (t:=22) rfl (λhb22=>?_);refine lj (λm st=>∃i:Nat,st=⟨[(24,.i i),(23,.i v.cases.length),(22,AV.vcs v.cases),(3,.ptr (Wcells W)),(2,.i a)],H⟩/\m=v.cases.length - i/\i<=v.cases.length/\(v.cases.take i).all (caseT W a)=true) (⟨0,rfl,rfl,Yb,rfl⟩) ?_;rintro m _ ⟨i,rfl,rfl,hi,hA⟩;refine Z6 ?_;refine cd (λh1=>?_) λh1=>?_
  ·have hil:i<v.cases.length:=by omega
   obtain⟨c,hc⟩:∃c,c=v.cases.getD i default:=⟨_,rfl⟩;refine Z8 ?_;refine OL.alC rfl rfl rfl rfl (λcb=>?_);refine Z4 ?_;rw[<-hc];refine CW.freezeP (d:=8) rfl Yr ?_;refine Z5 ?_;refine oP (POp.call .k (rGood04 hW c.whn a)) ?_;refine Z5 ?_;refine OL.guardC rfl rfl rfl rfl rfl rfl (λhg=>POp.call (.mk' rfl rfl rfl rfl Yc) (rGood04 hW c.thn 1)) ?_;refine Z4 ?_;rw[case_bif,show (goodF W c.whn a && goodF W c.thn 1)=caseT W a c from rfl];refine CW.cond rfl (λh2=>?_) (λh2=>?_)
   ·rw[Bool.not_eq_true'] at h2;refine Z11 ?_;refine r1 6 (H) ?_;exact⟨retB (by unfold vowT;rw[all_no hil (by rw[<-hc];exact h2),Bool.and_false]),rfl⟩
   ·rw[Bool.not_eq_false'] at h2;refine Z7 ?_;exact ag (⟨i+1,rfl,rfl,hil,all_step hil hA (by rw[<-hc];exact h2)⟩)
  ·obtain rfl:i=v.cases.length:=by omega
   rw[List.take_length] at hA;refine Z11 ?_;refine r1 6 (H) ?_;exact⟨retB (by unfold vowT;rw[h0,hA];rfl),rfl⟩
theorem rGenV(p:Prog)(n:Int):PCall Tryz.prog 88 [AV.prog p,.i n] (.b (isGen p n)):=by
 intro H;refine aC (n:=14) Tryz.func88 λB I w0=>?_;refine Z21 ?_;refine r1 4 (H) ?_;exact⟨retB (by unfold isGen;rw[Bool.cond_false_right]),rfl⟩
theorem rVow{p:Prog}(hp:p.Small)(hz:(sizesP p).isSome=true)(v:Vw):PCall Tryz.prog 72 [AV.prog p,AV.vow v] (.b (isGen p v.of && vowT (worldOf p) v (argsG p v.of))):=by
 intro H;refine aC (n:=21) Tryz.func72 λB I w0=>?_;have hH:=heads_of hz;have hw60:(worldOf p).parents.length<=60:=by have:=hH.cl;rw[world_pl];omega
 refine Z8 ?_;refine CW.dp mixed ?_;refine DP.anyC 0 3 21 rfl Yf rfl rfl Yf ?_;refine Z5 ?_;refine oP (POp.call .k (rGenV p v.of)) ?_;refine Z6 ?_;refine DP.anyC 5 14 21 rfl Yf rfl rfl Yf ?_;refine Z1 ?_;refine AD.guardC rfl rfl rfl rfl rfl (λhg=>POp.call (.mk' rfl rfl rfl rfl Yc) (world_of hp hz)) ?_;refine Z5 ?_;refine AD.guardC rfl rfl rfl rfl rfl (λhg=>(by first | exact POp.ixM rfl rfl (gd hg) rfl (gd hg) Yan | exact POp.ixI rfl rfl (gd hg) rfl (gd hg) Yan)) ?_;refine Z3 ?_;refine OL.guardC rfl rfl rfl rfl rfl rfl (λhg=>POp.call (.mk' rfl rfl rfl rfl Yc) (rFormedV hw60 v (argsG p v.of))) ?_;refine Z5 ?_;refine r1 4 (H) ?_;exact⟨retB (by rw[Bool.cond_false_right]),rfl⟩
end Go.Proofs.YtogjaoodkaahoaaGreat

namespace Go.Eng.Bd
open Go.Eng.Fc
variable{v:Int×Int}
structure Vc where
 args:List (Int×Int)
 objs:List Th
 val:Int×Int
 after:List Th
abbrev callA(c:Vc):List AV:=[AV.mvs c.args,AV.ths c.objs]++initA c.val++[AV.ths c.after]
abbrev AV.vcall(c:Vc):AV:=.agg (callA c)
abbrev AV.bl(b:Int×Int):AV:=.agg [.i b.1,.i b.2]
def hasH(W:Fc.FW)(c:Int)(s:Nat):Bool:=belowP W c (W.owner.getD s default)
def thingH(W:Fc.FW)(n:Int)(t:Th):Bool:=ownP W t.cls && ((slotsR W t.cls).length==t.slots.length) && t.slots.all (valueP n)
def objsH(W:Fc.FW)(objs:List Th):Bool:=decide (objs.length<=40) && objs.all (thingH W objs.length)
def argsH(args:List (Int×Int))(n:Int):Bool:=decide (1<=args.length) && decide (args.length<=3) && args.all (valueP n)
def handedH(W:Fc.FW)(objs:List Th)(args:List (Int×Int)):Bool:=objsH W objs && argsH args objs.length
def clsH(objs:List Th)(v:Int×Int):Int:=(objs.getD v.2.toNat default).cls
def stepH(W:Fc.FW)(objs:List Th)(v:Int×Int)(s:Int):Int×Int:=(objs.getD v.2.toNat default).slots.getD (idxG (slotsR W (clsH objs v)) (λx=>x==s)).toNat default
def okH(W:Fc.FW)(objs:List Th)(v:Int×Int)(s:Int):Bool:=(v.1==3) && hasH W (clsH objs v) s.toNat
def atH(W:Fc.FW)(objs:List Th):Int×Int->List Int->(Int×Int)×Bool
 | v,[]=>(v,true)
 | v,s::r=>if okH W objs v s=true then atH W objs (stepH W objs v s) r else ((0,0),false)
structure ObjsH(W:Fc.FW)(objs:List Th):Prop where
 w:worldP W=true
 len:objs.length<=40
 own:∀o∈objs,ownP W o.cls=true
 slots:∀o∈objs,o.slots.length=(slotsR W o.cls).length
 vals:∀o∈objs,∀v∈o.slots,valueP objs.length v=true
theorem objs_h{W:Fc.FW}(hw:worldP W=true){objs:List Th}(h:objsH W objs=true):ObjsH W objs:=by
 simp only[objsH,thingH,Bool.and_eq_true,decide_eq_true_eq,List.all_eq_true,beq_iff_eq] at h;exact⟨hw,h.1,λo ho=>(h.2 o ho).1.1,λo ho=>(h.2 o ho).1.2.symm,λo ho v hv=>(h.2 o ho).2 v hv⟩
theorem value_kind{n:Int}(h:valueP n v=true):v.1=1\/v.1=2\/v.1=3:=by
 unfold valueP at h;by_cases h1:v.1=1
 ·exact .inl h1
 ·rw[if_neg h1] at h;by_cases h2:v.1=2
  ·exact .inr (.inl h2)
  ·rw[if_neg h2] at h;by_cases h3:v.1=3
   ·exact .inr (.inr h3)
   ·rw[if_neg h3] at h;cases h
theorem value_obj{n:Nat}(h:valueP n v=true)(h3:v.1=3):0<=v.2/\v.2<n:=by
 rw[valueP,if_neg Yb,if_neg Yb,if_pos h3,Bool.and_eq_true,decide_eq_true_eq,decide_eq_true_eq] at h;exact h
section
variable{W:Fc.FW}{objs:List Th}
theorem cls_h(h:ObjsH W objs){v:Int×Int}(hv:valueP objs.length v=true)(h3:v.1=3):3<=clsH objs v/\clsH objs v<3+W.parents.length:=by
 have h1:=value_obj hv h3;have:=h.own _ (Bd.getD_memB (l:=objs) (k:=v.2.toNat) Yb);simp only[ownP,Bool.and_eq_true,decide_eq_true_eq] at this;exact this
theorem idx_h{l:List Int}{s:Int}(h:s∈l):∃k:Nat,idxG l (λx=>x==s)=k/\k<l.length/\l.getD k default=s/\∀j,j<k->l.getD j default≠s:=by
 unfold idxG;cases hi:l.findIdx? (λx=>x==s) with
 | none=>
  rw[List.findIdx?_eq_none_iff] at hi;exact absurd (hi s h) Yn
 | some k=>
  obtain⟨h1,h2,h3⟩:=List.findIdx?_eq_some_iff_getElem.1 hi;refine⟨k,rfl,h1,?_,λj hj=>?_⟩
  ·rw[List.getD_eq_getElem?_getD,List.getElem?_eq_getElem h1];simpa using h2
  ·rw[List.getD_eq_getElem?_getD,List.getElem?_eq_getElem Yb];simpa using h3 j hj
theorem slot_mem{c:Int}{s:Nat}(hs:s<W.owner.length)(h:hasH W c s=true):(s:Int)∈slotsR W c:=by
 rw[slotsR,List.mem_map];exact⟨s,List.mem_filter.2 ⟨List.mem_range.2 hs,h⟩,rfl⟩
theorem ok_h(h:ObjsH W objs){v:Int×Int}(hv:valueP objs.length v=true){s:Int}(hs:0<=s/\s<W.owner.length)(hk:okH W objs v s=true):∃k:Nat,idxG (slotsR W (clsH objs v)) (λx=>x==s)=k/\k<(slotsR W (clsH objs v)).length/\k<(objs.getD v.2.toNat default).slots.length/\(slotsR W (clsH objs v)).getD k default=s/\(∀j,j<k->(slotsR W (clsH objs v)).getD j default≠s)/\stepH W objs v s=(objs.getD v.2.toNat default).slots.getD k default/\valueP objs.length (stepH W objs v s)=true:=by
 rw[okH,Bool.and_eq_true,beq_iff_eq] at hk;have h1:=value_obj hv hk.1;have hm:=Bd.getD_memB (l:=objs) (k:=v.2.toNat) Yb;have hmem:=slot_mem (s:=s.toNat) Yb hk.2;rw[show ((s.toNat:Nat):Int)=s by omega] at hmem;obtain⟨k,hk1,hk2,hk3,hk4⟩:=idx_h hmem;have hl:=h.slots _ hm;have hk5:k<(objs.getD v.2.toNat default).slots.length:=by rw[hl];exact hk2
 have e:stepH W objs v s=(objs.getD v.2.toNat default).slots.getD k default:=by rw[stepH,hk1];rfl
 exact⟨k,hk1,hk2,hk5,hk3,hk4,e,e▸h.vals _ hm _ (Bd.getD_memB hk5)⟩
theorem at_value(h:ObjsH W objs):∀(r:List Int) (v:Int×Int),valueP objs.length v=true->(∀s∈r,0<=s/\s<W.owner.length)->(atH W objs v r).2=true->valueP objs.length (atH W objs v r).1=true
 | [],v,hv,_,_=>hv
 | s::r,v,hv,hr,h2=>by
  rw[atH] at h2 ⊢;by_cases hk:okH W objs v s=true
  ·rw[if_pos hk] at h2 ⊢;obtain⟨k,_,_,_,_,_,_,hst⟩:=ok_h h hv (hr s Yn) hk;exact at_value h r _ hst (λx hx=>hr x (List.mem_cons_of_mem _ hx)) h2
  ·rw[if_neg hk] at h2;cases h2
end
def leafH(W:Fc.FW)(objs:List Th)(op cls n:Int)(r:(Int×Int)×Bool):Bool:=
 if op=2 then r.2 && belowP W (if r.1.1=1 then 1 else if r.1.1=2 then 2 else clsH objs r.1) cls
 else if op=3 then r.2 && (r.1.1==1) && decide (r.1.2<n) else r.2 && (r.1.1==1) && (r.1.2==n)
section
variable(W:Fc.FW)(objs:List Th)(args:List (Int×Int))
mutual
def holdH:Fact->Bool
 | .mk op arg path cls n kids=>
  if op=1 then true else if op=5 then !((holdHs kids).getD 0 false) else if op=6 then (holdHs kids).getD 0 false && (holdHs kids).getD 1 false
  else if op=7 then (holdHs kids).getD 0 false || (holdHs kids).getD 1 false else leafH W objs op cls n (atH W objs (args.getD arg.toNat default) path)
def holdHs:List Fact->List Bool
 | []=>[]
 | k::r=>holdH k::holdHs r
end
end
section
variable{W:Fc.FW}{objs:List Th}{args:List (Int×Int)}{f:Fact}
theorem holdHs_map:∀l:List Fact,holdHs W objs args l=l.map (holdH W objs args)
 | []=>by rw[holdHs];rfl
 | k::r=>by rw[holdHs,holdHs_map r];rfl
theorem holdHs_at{i:Nat}{r:List Fact}(h:i<r.length):(holdHs W objs args r).getD i false=holdH W objs args (r.getD i default):=by
 rw[holdHs_map,List.getD_eq_getElem?_getD,List.getElem?_map,List.getD_eq_getElem?_getD,List.getElem?_eq_getElem h];rfl
theorem holdH_one(h:f.op=1):holdH W objs args f=true:=by
 obtain⟨op,arg,path,cls,n,kids⟩:=f;change op=1 at h;subst h;rw[holdH,if_pos rfl]
theorem holdH_five(h:f.op=5)(hk:f.kids.length=1):holdH W objs args f= !holdH W objs args (f.kids.getD 0 default):=by
 obtain⟨op,arg,path,cls,n,kids⟩:=f;change op=5 at h;change kids.length=1 at hk;subst h;rw[holdH,if_neg (by decide),if_pos rfl,holdHs_at Yb];rfl
theorem holdH_six(h:f.op=6)(hk:f.kids.length=2):holdH W objs args f=(holdH W objs args (f.kids.getD 0 default) && holdH W objs args (f.kids.getD 1 default)):=by
 obtain⟨op,arg,path,cls,n,kids⟩:=f;change op=6 at h;change kids.length=2 at hk;subst h;rw[holdH,if_neg (by decide),if_neg (by decide),if_pos rfl,holdHs_at Yb,holdHs_at Yb];rfl
theorem holdH_seven(h:f.op=7)(hk:f.kids.length=2):holdH W objs args f=(holdH W objs args (f.kids.getD 0 default) || holdH W objs args (f.kids.getD 1 default)):=by
 obtain⟨op,arg,path,cls,n,kids⟩:=f;change op=7 at h;change kids.length=2 at hk;subst h;rw[holdH,if_neg (by decide),if_neg (by decide),if_neg (by decide),if_pos rfl,holdHs_at Yb,holdHs_at Yb];rfl
theorem holdH_leaf(h1:f.op≠1)(h5:f.op≠5)(h6:f.op≠6)(h7:f.op≠7):holdH W objs args f=leafH W objs f.op f.cls f.n (atH W objs (args.getD f.arg.toNat default) f.path):=by
 obtain⟨op,arg,path,cls,n,kids⟩:=f;change op≠1 at h1;change op≠5 at h5;change op≠6 at h6;change op≠7 at h7;rw[holdH,if_neg h1,if_neg h5,if_neg h6,if_neg h7];rfl
structure HOk(W:Fc.FW)(objs:List Th)(args:List (Int×Int))(f:Fact):Prop where
 o:ObjsH W objs
 a:∀v∈args,valueP objs.length v=true
 wf:wfB W f=true
 sp:speaksP f<=args.length
theorem HOk.kid(h:HOk W objs args f):∀k∈f.kids,HOk W objs args k:=λk hk=>
 ⟨h.o,h.a,(wfB_iff.1 h.wf).2 k hk,((speaksL_le _ _ _).1 (speaksP_eq f▸h.sp)).2 k hk⟩
theorem HOk.leaf(h:HOk W objs args f)(hl:leafP f=true):(0<=f.arg/\f.arg<args.length)/\(∀s∈f.path,0<=s/\s<W.owner.length)/\(f.op=2->classP W f.cls=true):=by
 have h1:=(wfB_iff.1 h.wf).1;simp only[nodeOkB,Bool.and_eq_true] at h1;have h2:=h1.2;rw[hl,if_pos rfl,Bool.and_eq_true] at h2;have h3:=h2.1;simp only[argP,pathP,Bool.not_eq_true',Bool.or_eq_false_iff,Bool.not_eq_false',Bool.and_eq_true,decide_eq_false_iff_not,decide_eq_true_eq] at h3;have h4:=((speaksL_le _ _ _).1 (speaksP_eq f▸h.sp)).1;simp only[leafP,Bool.and_eq_true,decide_eq_true_eq] at hl;rw[argB,if_pos Yb] at h4;refine⟨⟨Yb,Yb⟩,λs hs=>?_,λho=>?_⟩
 ·have:=List.all_eq_true.1 h3.2.2 s hs;simpa only[Fc.slotP,Bool.and_eq_true,decide_eq_true_eq] using this
 ·have h5:=h2.2;rw[leafOkP,if_pos ho,Bool.and_eq_true] at h5;exact h5.2
theorem HOk.ops(h:HOk W objs args f):(f.op=5->f.kids.length=1)/\(f.op=6\/f.op=7->f.kids.length=2)/\(f.op≠1->f.op≠5->f.op≠6->f.op≠7->leafP f=true):=by
 have h1:=(wfB_iff.1 h.wf).1;simp only[nodeOkB,Bool.and_eq_true,decide_eq_true_eq,beq_iff_eq] at h1;obtain⟨⟨⟨h2,h3⟩,h4⟩,_⟩:=h1;refine⟨λh=>?_,λh=>?_,λa b c d=>?_⟩
 ·rw[h] at h4;simp[kidsP] at h4;omega
 ·rcases h with h | h <;> rw[h] at h4 <;> simp[kidsP] at h4 <;> omega
 ·simp only[leafP,Bool.and_eq_true,decide_eq_true_eq];omega
def takesH(W:Fc.FW)(objs:List Th)(args:List (Int×Int))(f:Fact):Bool:=formedP W f && handedH W objs args && decide (speaksP f<=args.length)
theorem takes_ok(hw:worldP W=true)(h:takesH W objs args f=true):HOk W objs args f:=by
 simp only[takesH,handedH,argsH,Bool.and_eq_true,decide_eq_true_eq,List.all_eq_true] at h;exact⟨objs_h hw h.1.2.1,h.1.2.2.2,(formed_wf h.1.1).1,h.2⟩
end
def callT(W:Fc.FW)(a:Int)(c:Vc):Bool:=((c.args.length:Int)==a) && objsH W c.objs && c.args.all (valueP c.objs.length) && objsH W c.after && valueP c.after.length c.val
def judgeL(W:Fc.FW)(c:Vc):List VC->Int->Int×Int
 | [],_=>(1,0)
 | x::r,k=>if(holdH W c.objs c.args x.whn && !holdH W c.after [c.val] x.thn)=true then (3,k) else judgeL W c r (k+1)
def judgeT(W:Fc.FW)(v:Vw)(c:Vc):Int×Int:=if holdH W c.objs c.args v.before=true then judgeL W c v.cases 0 else (2,0)
section
variable{W:Fc.FW}{v:Vw}{a:Int}{c:Vc}
theorem call_hand(h:callT W a c=true)(ha:1<=a/\a<=3):handedH W c.objs c.args=true/\handedH W c.after [c.val]=true:=by
 simp only[callT,Bool.and_eq_true,beq_iff_eq] at h;obtain⟨⟨⟨⟨h1,h2⟩,h3⟩,h4⟩,h5⟩:=h;refine⟨?_,?_⟩
 ·rw[handedH,h2,argsH,h3,decide_eq_true Yb,decide_eq_true Yb];rfl
 ·rw[handedH,h4,argsH,List.all_cons,h5];rfl
theorem hand_call(h:callT W a c=false)(ha:1<=a/\a<=3):handedH W c.objs c.args=false\/handedH W c.after [c.val]=false\/(c.args.length:Int)≠a:=by
 by_cases h1:(c.args.length:Int)=a
 ·simp only[callT,h1,beq_self_eq_true,Bool.true_and] at h;simp only[handedH,argsH,List.all_cons,List.all_nil,Bool.and_true];rw[decide_eq_true (show 1<=c.args.length by omega),decide_eq_true (show c.args.length<=3 by omega)];revert h;cases objsH W c.objs <;> cases c.args.all (valueP c.objs.length) <;> cases objsH W c.after <;> cases valueP c.after.length c.val <;> simp
  all_goals simp_all
 ·exact .inr (.inr h1)
theorem takes_of(hc:callT W a c=true)(ha:1<=a/\a<=3){f:Fact}(hf:goodF W f a=true):takesH W c.objs c.args f=true:=by
 have hh:=(call_hand hc ha).1;rw[goodF,spkP,Bool.and_eq_true,decide_eq_true_eq] at hf;simp only[callT,Bool.and_eq_true,beq_iff_eq] at hc;rw[takesH,hf.1,hh,decide_eq_true Yb];rfl
theorem takes_after(hc:callT W a c=true)(ha:1<=a/\a<=3){f:Fact}(hf:goodF W f 1=true):takesH W c.after [c.val] f=true:=by
 have hh:=(call_hand hc ha).2;rw[goodF,spkP,Bool.and_eq_true,decide_eq_true_eq] at hf;rw[takesH,hf.1,hh,decide_eq_true (by simpa using hf.2)];rfl
theorem judgeL_step{l:List VC}{i:Nat}(h:i<l.length):judgeL W c (l.drop i) i=if(holdH W c.objs c.args (l.getD i default).whn && !holdH W c.after [c.val] (l.getD i default).thn)=true then (3,(i:Int)) else judgeL W c (l.drop (i+1)) ((i:Int)+1):=by
 rw[List.drop_eq_getElem_cons h,judgeL,List.getD_eq_getElem?_getD,List.getElem?_eq_getElem h];rfl
end
structure Tbl where
 reached:List Bool
 params:List (List Int)
 nodes:List Int
 slots:List Int
abbrev AV.bools(l:List Bool):AV:=.sl 1 (l.map λb=>[AV.b b])
def manyC(p:Prog):Nat:=3+p.classes.length
end Go.Eng.Bd

namespace Go.Proofs.YtogjaoodkaahoaaGreat
open Go.Eng
open Go.Eng.Fc
open Go.Eng.Bd
open Go.ChangeShapes Go.WideShapes
section
variable{H:Type}{enc:TypeId×Value->H}{w:World}{base:Nat}{spare:Nat->Bool}{held:Bool}{sz:DataW H->Nat}
theorem rd_int(hB:Bulk sz)(n:Nat):ReadsB enc Tryz.prog w base spare held sz n 3 (λq:Int=>[AV.i q]) (λ_ _=>True):=(reads_int Tryz.underlying3).b
theorem rd_ints(hB:Bulk sz)(n:Nat):ReadsB enc Tryz.prog w base spare held sz n 23 (λl:List Int=>[AV.ints l]) (λ(l:List _) (b:Nat)=>l.length<=b):=λfuel hf cs x h=>by
 obtain⟨l,hl,hq⟩:=readsB_slice (n:=n) hB (k:=1) (Q:=λ_ _=>True) (λy a b=>λ_ _=>trivial) Tryz.underlying23 Ya Yb (λ_=>rfl) (rd_int hB n) fuel Yb cs x h;exact⟨l,hl,hq.1⟩
theorem rd_FormOp(hB:Bulk sz)(n:Nat):ReadsB enc Tryz.prog w base spare held sz n 87 (λq:Int=>[AV.i q]) (λ_ _=>True):=(reads_int Tryz.underlying87).b
theorem rd_FormKind(hB:Bulk sz)(n:Nat):ReadsB enc Tryz.prog w base spare held sz n 93 (λq:Int=>[AV.i q]) (λ_ _=>True):=(reads_int Tryz.underlying93).b
theorem rd_MeanKind(hB:Bulk sz)(n:Nat):ReadsB enc Tryz.prog w base spare held sz n 48 (λq:Int=>[AV.i q]) (λ_ _=>True):=(reads_int Tryz.underlying48).b
theorem rd_init(hB:Bulk sz)(n:Nat):ReadsB enc Tryz.prog w base spare held sz n 215 (initA) (λ_ _=>True):=λfuel hf cs x h=>by
 obtain⟨xs,m,rfl,hx,hl,hn,hg⟩:=DataW.trod_struct Tryz.underlying215 h;have hl:cs.length=2:=hl.trans Ya;have h0:=hg 0 _ rfl;have h1:=hg 1 _ rfl;rw[List.getElem?_eq_getElem YV] at h0 h1;obtain⟨y0,r0,q0⟩:=rd_int hB m m (Nat.le_refl _) _ _ h0;obtain⟨y1,r1,q1⟩:=rd_int hB m m (Nat.le_refl _) _ _ h1;refine⟨⟨y0,y1⟩,?_,trivial⟩;have:=(relL_join (a:=0) (n:=1) (m:=1) r0 r1);rwa [List.drop_zero,List.take_of_length_le Yb] at this
theorem rd_inits(hB:Bulk sz)(n:Nat):ReadsB enc Tryz.prog w base spare held sz n 90 (λl:List (Int×Int)=>[AV.sl 2 (l.map initA)]) (λ_ _=>True):=λfuel hf cs x h=>by
 obtain⟨l,hl,_⟩:=readsB_slice (n:=n) hB (k:=2) (Q:=λ_ _=>True) (λy a b=>λ_ _=>trivial) Tryz.underlying90 Ya Yb (λ_=>rfl) (rd_init hB n) fuel Yb cs x h;exact⟨l,hl,trivial⟩
theorem rd_cls(hB:Bulk sz)(n:Nat):ReadsB enc Tryz.prog w base spare held sz n 92 (clsA) (λ(c:Cls) (b:Nat)=>c.parents.length<=b):=λfuel hf cs x h=>by
 obtain⟨xs,m,rfl,hx,hl,hn,hg⟩:=DataW.trod_struct Tryz.underlying92 h;have hl:cs.length=3:=hl.trans Ya;have h0:=hg 0 _ rfl;have h1:=hg 1 _ rfl;have h2:=hg 2 _ rfl;rw[List.getElem?_eq_getElem YV] at h0 h1 h2;obtain⟨y0,r0,q0⟩:=rd_ints hB m m (Nat.le_refl _) _ _ h0;obtain⟨y1,r1,q1⟩:=rd_ints hB m m (Nat.le_refl _) _ _ h1;obtain⟨y2,r2,q2⟩:=rd_inits hB m m (Nat.le_refl _) _ _ h2;have hz0:sz (xs[0]'YV).1<=sz x.1:=by rw[hx];exact hB.ag _ _ (List.mem_map.2 ⟨_,List.getElem_mem _,rfl⟩)
 replace q0:(λ(l:List _) (b:Nat)=>l.length<=b) y0 (sz x.1):=(λh1 h2=>Nat.le_trans h2 h1) hz0 q0;have hz1:sz (xs[1]'YV).1<=sz x.1:=by rw[hx];exact hB.ag _ _ (List.mem_map.2 ⟨_,List.getElem_mem _,rfl⟩)
 replace q1:(λ(l:List _) (b:Nat)=>l.length<=b) y1 (sz x.1):=(λh1 h2=>Nat.le_trans h2 h1) hz1 q1;refine⟨⟨y0,y1,y2⟩,?_,q0⟩;have:=(relL_join (a:=0) (n:=2) (m:=1) (relL_join (a:=0) (n:=1) (m:=1) r0 r1) r2);rwa [List.drop_zero,List.take_of_length_le Yb] at this
theorem rd_clss(hB:Bulk sz)(n:Nat):ReadsB enc Tryz.prog w base spare held sz n 22 (λl:List Cls=>[AV.sl 3 (l.map clsA)]) (λ(l:List Cls) (b:Nat)=>l.length<=b/\∀c∈l,c.parents.length<=b):=λfuel hf cs x h=>by
 obtain⟨l,hl,hq⟩:=readsB_slice (n:=n) hB (k:=3) (Q:=λ(c:Cls) (b:Nat)=>c.parents.length<=b) (λy a b=>λh1 h2=>Nat.le_trans h2 h1) Tryz.underlying22 Ya Yb (λ_=>rfl) (rd_cls hB n) fuel Yb cs x h;exact⟨l,hl,hq⟩
theorem rd_factN:∀n:Nat,Reads enc Tryz.prog w base spare held n 38 Fcells
 | 0,fuel,hf,cs,x,h=>by
  obtain⟨xs,m,rfl,_⟩:=DataW.trod_struct Tryz.underlying38 h;omega
 | n+1,fuel,hf,cs,x,h=>by
  obtain⟨xs,m,rfl,_,hl,hn,hg⟩:=DataW.trod_struct Tryz.underlying38 h;have hl:cs.length=6:=hl.trans Ya;have h0:=hg 0 _ rfl;have h1:=hg 1 _ rfl;have h2:=hg 2 _ rfl;have h3:=hg 3 _ rfl;have h4:=hg 4 _ rfl;have h5:=hg 5 _ rfl;rw[List.getElem?_eq_getElem YV] at h0 h1 h2 h3 h4 h5;have hi:Reads enc Tryz.prog w base spare held m 3 (λq:Int=>[AV.i q]):=reads_int Tryz.underlying3;obtain⟨y0,r0⟩:=reads_int (n:=m) Tryz.underlying35 m (Nat.le_refl _) _ _ h0;obtain⟨y1,r1⟩:=hi m (Nat.le_refl _) _ _ h1;obtain⟨y2,r2⟩:=reads_slice (n:=m) (k:=1) Tryz.underlying23 Ya Yb (λ_=>rfl) hi m Yb _ _ h2;obtain⟨y3,r3⟩:=hi m (Nat.le_refl _) _ _ h3;obtain⟨y4,r4⟩:=hi m (Nat.le_refl _) _ _ h4;obtain⟨y5,r5⟩:=reads_slice (n:=n) (k:=6) Tryz.underlying36 Ya Yb (λ_=>rfl) (rd_factN n) m Yb _ _ h5;refine⟨.mk y0 y1 y2 y3 y4 y5,?_⟩;have r5:RelL (allI w) w [AV.sl 6 (y5.map Fcells)] _:=r5;rw[<-encFs_map] at r5;have:=relL_join (a:=0) (n:=5) (m:=1) (relL_join (a:=0) (n:=4) (m:=1) (relL_join (a:=0) (n:=3) (m:=1) (relL_join (a:=0) (n:=2) (m:=1) (relL_join (a:=0) (n:=1) (m:=1) r0 r1) r2) r3) r4) r5;rwa [List.drop_zero,List.take_of_length_le Yb] at this
theorem rd_fact(hB:Bulk sz)(n:Nat):ReadsB enc Tryz.prog w base spare held sz n 38 Fcells (λ_ _=>True):=(rd_factN n).b
theorem rd_mth(hB:Bulk sz)(n:Nat):ReadsB enc Tryz.prog w base spare held sz n 95 (mthA) (λ_ _=>True):=λfuel hf cs x h=>by
 obtain⟨xs,m,rfl,hx,hl,hn,hg⟩:=DataW.trod_struct Tryz.underlying95 h;have hl:cs.length=9:=hl.trans Ya;have h0:=hg 0 _ rfl;have h1:=hg 1 _ rfl;have h2:=hg 2 _ rfl;have h3:=hg 3 _ rfl;rw[List.getElem?_eq_getElem YV] at h0 h1 h2 h3;obtain⟨y0,r0,q0⟩:=rd_FormKind hB m m (Nat.le_refl _) _ _ h0;obtain⟨y1,r1,q1⟩:=rd_int hB m m (Nat.le_refl _) _ _ h1;obtain⟨y2,r2,q2⟩:=rd_fact hB m m (Nat.le_refl _) _ _ h2;obtain⟨y3,r3,q3⟩:=rd_int hB m m (Nat.le_refl _) _ _ h3;refine⟨⟨y0,y1,y2,y3⟩,?_,trivial⟩;have:=(relL_join (a:=0) (n:=8) (m:=1) (relL_join (a:=0) (n:=2) (m:=6) (relL_join (a:=0) (n:=1) (m:=1) r0 r1) r2) r3);rwa [List.drop_zero,List.take_of_length_le Yb] at this
theorem rd_mths(hB:Bulk sz)(n:Nat):ReadsB enc Tryz.prog w base spare held sz n 24 (λl:List Mth=>[AV.sl 9 (l.map mthA)]) (λ_ _=>True):=λfuel hf cs x h=>by
 obtain⟨l,hl,_⟩:=readsB_slice (n:=n) hB (k:=9) (Q:=λ_ _=>True) (λy a b=>λ_ _=>trivial) Tryz.underlying24 Ya Yb (λ_=>rfl) (rd_mth hB n) fuel Yb cs x h;exact⟨l,hl,trivial⟩
theorem rd_nd(hB:Bulk sz)(n:Nat):ReadsB enc Tryz.prog w base spare held sz n 89 (ndA) (λ_ _=>True):=λfuel hf cs x h=>by
 obtain⟨xs,m,rfl,hx,hl,hn,hg⟩:=DataW.trod_struct Tryz.underlying89 h;have hl:cs.length=3:=hl.trans Ya;have h0:=hg 0 _ rfl;have h1:=hg 1 _ rfl;have h2:=hg 2 _ rfl;rw[List.getElem?_eq_getElem YV] at h0 h1 h2;obtain⟨y0,r0,q0⟩:=rd_FormOp hB m m (Nat.le_refl _) _ _ h0;obtain⟨y1,r1,q1⟩:=rd_int hB m m (Nat.le_refl _) _ _ h1;obtain⟨y2,r2,q2⟩:=rd_ints hB m m (Nat.le_refl _) _ _ h2;have hz2:sz (xs[2]'YV).1<=sz x.1:=by rw[hx];exact hB.ag _ _ (List.mem_map.2 ⟨_,List.getElem_mem _,rfl⟩)
 replace q2:(λ(l:List _) (b:Nat)=>l.length<=b) y2 (sz x.1):=(λh1 h2=>Nat.le_trans h2 h1) hz2 q2;refine⟨⟨y0,y1,y2⟩,?_,trivial⟩;have:=(relL_join (a:=0) (n:=2) (m:=1) (relL_join (a:=0) (n:=1) (m:=1) r0 r1) r2);rwa [List.drop_zero,List.take_of_length_le Yb] at this
theorem rd_nds(hB:Bulk sz)(n:Nat):ReadsB enc Tryz.prog w base spare held sz n 25 (λl:List Nd=>[AV.sl 3 (l.map ndA)]) (λ_ _=>True):=λfuel hf cs x h=>by
 obtain⟨l,hl,_⟩:=readsB_slice (n:=n) hB (k:=3) (Q:=λ_ _=>True) (λy a b=>λ_ _=>trivial) Tryz.underlying25 Ya Yb (λ_=>rfl) (rd_nd hB n) fuel Yb cs x h;exact⟨l,hl,trivial⟩
theorem rd_prog(hB:Bulk sz)(n:Nat):ReadsB enc Tryz.prog w base spare held sz n 27 (progC) (λ(p:Prog) (b:Nat)=>p.classes.length<=b/\∀c∈p.classes,c.parents.length<=b):=λfuel hf cs x h=>by
 obtain⟨xs,m,rfl,hx,hl,hn,hg⟩:=DataW.trod_struct Tryz.underlying27 h;have hl:cs.length=6:=hl.trans Ya;have h0:=hg 0 _ rfl;have h1:=hg 1 _ rfl;have h2:=hg 2 _ rfl;have h3:=hg 3 _ rfl;have h4:=hg 4 _ rfl;have h5:=hg 5 _ rfl;rw[List.getElem?_eq_getElem YV] at h0 h1 h2 h3 h4 h5;obtain⟨y0,r0,q0⟩:=rd_clss hB m m (Nat.le_refl _) _ _ h0;obtain⟨y1,r1,q1⟩:=rd_int hB m m (Nat.le_refl _) _ _ h1;obtain⟨y2,r2,q2⟩:=rd_ints hB m m (Nat.le_refl _) _ _ h2;obtain⟨y3,r3,q3⟩:=rd_mths hB m m (Nat.le_refl _) _ _ h3;obtain⟨y4,r4,q4⟩:=rd_nds hB m m (Nat.le_refl _) _ _ h4;obtain⟨y5,r5,q5⟩:=rd_int hB m m (Nat.le_refl _) _ _ h5;have hz0:sz (xs[0]'YV).1<=sz x.1:=by rw[hx];exact hB.ag _ _ (List.mem_map.2 ⟨_,List.getElem_mem _,rfl⟩)
 replace q0:(λ(l:List Cls) (b:Nat)=>l.length<=b/\∀c∈l,c.parents.length<=b) y0 (sz x.1):=(λh1 h2=>⟨Nat.le_trans h2.1 h1,λc hc=>Nat.le_trans (h2.2 c hc) h1⟩) hz0 q0;have hz2:sz (xs[2]'YV).1<=sz x.1:=by rw[hx];exact hB.ag _ _ (List.mem_map.2 ⟨_,List.getElem_mem _,rfl⟩)
 replace q2:(λ(l:List _) (b:Nat)=>l.length<=b) y2 (sz x.1):=(λh1 h2=>Nat.le_trans h2 h1) hz2 q2;refine⟨⟨y0,y1,y2,y3,y4,y5⟩,?_,q0⟩;have:=(relL_join (a:=0) (n:=5) (m:=1) (relL_join (a:=0) (n:=4) (m:=1) (relL_join (a:=0) (n:=3) (m:=1) (relL_join (a:=0) (n:=2) (m:=1) (relL_join (a:=0) (n:=1) (m:=1) r0 r1) r2) r3) r4) r5);rwa [List.drop_zero,List.take_of_length_le Yb] at this
theorem rd_val(hB:Bulk sz)(n:Nat):ReadsB enc Tryz.prog w base spare held sz n 50 (initA) (λ_ _=>True):=λfuel hf cs x h=>by
 obtain⟨xs,m,rfl,hx,hl,hn,hg⟩:=DataW.trod_struct Tryz.underlying50 h;have hl:cs.length=2:=hl.trans Ya;have h0:=hg 0 _ rfl;have h1:=hg 1 _ rfl;rw[List.getElem?_eq_getElem YV] at h0 h1;obtain⟨y0,r0,q0⟩:=rd_MeanKind hB m m (Nat.le_refl _) _ _ h0;obtain⟨y1,r1,q1⟩:=rd_int hB m m (Nat.le_refl _) _ _ h1;refine⟨⟨y0,y1⟩,?_,trivial⟩;have:=(relL_join (a:=0) (n:=1) (m:=1) r0 r1);rwa [List.drop_zero,List.take_of_length_le Yb] at this
theorem rd_vals(hB:Bulk sz)(n:Nat):ReadsB enc Tryz.prog w base spare held sz n 32 (λl:List (Int×Int)=>[AV.mvs l]) (λ_ _=>True):=λfuel hf cs x h=>by
 obtain⟨l,hl,_⟩:=readsB_slice (n:=n) hB (k:=2) (Q:=λ_ _=>True) (λy a b=>λ_ _=>trivial) Tryz.underlying32 Ya Yb (λ_=>rfl) (rd_val hB n) fuel Yb cs x h;exact⟨l,hl,trivial⟩
theorem rd_th(hB:Bulk sz)(n:Nat):ReadsB enc Tryz.prog w base spare held sz n 282 (thA) (λ_ _=>True):=λfuel hf cs x h=>by
 obtain⟨xs,m,rfl,hx,hl,hn,hg⟩:=DataW.trod_struct Tryz.underlying282 h;have hl:cs.length=2:=hl.trans Ya;have h0:=hg 0 _ rfl;have h1:=hg 1 _ rfl;rw[List.getElem?_eq_getElem YV] at h0 h1;obtain⟨y0,r0,q0⟩:=rd_int hB m m (Nat.le_refl _) _ _ h0;obtain⟨y1,r1,q1⟩:=rd_vals hB m m (Nat.le_refl _) _ _ h1;refine⟨⟨y0,y1⟩,?_,trivial⟩;have:=(relL_join (a:=0) (n:=1) (m:=1) r0 r1);rwa [List.drop_zero,List.take_of_length_le Yb] at this
theorem rd_ths(hB:Bulk sz)(n:Nat):ReadsB enc Tryz.prog w base spare held sz n 31 (λl:List Th=>[AV.ths l]) (λ_ _=>True):=λfuel hf cs x h=>by
 obtain⟨l,hl,_⟩:=readsB_slice (n:=n) hB (k:=2) (Q:=λ_ _=>True) (λy a b=>λ_ _=>trivial) Tryz.underlying31 Ya Yb (λ_=>rfl) (rd_th hB n) fuel Yb cs x h;exact⟨l,hl,trivial⟩
theorem rd_vc(hB:Bulk sz)(n:Nat):ReadsB enc Tryz.prog w base spare held sz n 112 (vcA) (λ_ _=>True):=λfuel hf cs x h=>by
 obtain⟨xs,m,rfl,hx,hl,hn,hg⟩:=DataW.trod_struct Tryz.underlying112 h;have hl:cs.length=12:=hl.trans Ya;have h0:=hg 0 _ rfl;have h1:=hg 1 _ rfl;rw[List.getElem?_eq_getElem YV] at h0 h1;obtain⟨y0,r0,q0⟩:=rd_fact hB m m (Nat.le_refl _) _ _ h0;obtain⟨y1,r1,q1⟩:=rd_fact hB m m (Nat.le_refl _) _ _ h1;refine⟨⟨y0,y1⟩,?_,trivial⟩;have:=(relL_join (a:=0) (n:=6) (m:=6) r0 r1);rwa [List.drop_zero,List.take_of_length_le Yb] at this
theorem rd_vcs(hB:Bulk sz)(n:Nat):ReadsB enc Tryz.prog w base spare held sz n 39 (λl:List VC=>[AV.vcs l]) (λ_ _=>True):=λfuel hf cs x h=>by
 obtain⟨l,hl,_⟩:=readsB_slice (n:=n) hB (k:=12) (Q:=λ_ _=>True) (λy a b=>λ_ _=>trivial) Tryz.underlying39 Ya Yb (λ_=>rfl) (rd_vc hB n) fuel Yb cs x h;exact⟨l,hl,trivial⟩
theorem rd_vw(hB:Bulk sz)(n:Nat):ReadsB enc Tryz.prog w base spare held sz n 41 (vwA) (λ_ _=>True):=λfuel hf cs x h=>by
 obtain⟨xs,m,rfl,hx,hl,hn,hg⟩:=DataW.trod_struct Tryz.underlying41 h;have hl:cs.length=8:=hl.trans Ya;have h0:=hg 0 _ rfl;have h1:=hg 1 _ rfl;have h2:=hg 2 _ rfl;rw[List.getElem?_eq_getElem YV] at h0 h1 h2;obtain⟨y0,r0,q0⟩:=rd_int hB m m (Nat.le_refl _) _ _ h0;obtain⟨y1,r1,q1⟩:=rd_fact hB m m (Nat.le_refl _) _ _ h1;obtain⟨y2,r2,q2⟩:=rd_vcs hB m m (Nat.le_refl _) _ _ h2;refine⟨⟨y0,y1,y2⟩,?_,trivial⟩;have:=(relL_join (a:=0) (n:=7) (m:=1) (relL_join (a:=0) (n:=1) (m:=6) r0 r1) r2);rwa [List.drop_zero,List.take_of_length_le Yb] at this
theorem rd_call(hB:Bulk sz)(n:Nat):ReadsB enc Tryz.prog w base spare held sz n 52 (callA) (λ_ _=>True):=λfuel hf cs x h=>by
 obtain⟨xs,m,rfl,hx,hl,hn,hg⟩:=DataW.trod_struct Tryz.underlying52 h;have hl:cs.length=5:=hl.trans Ya;have h0:=hg 0 _ rfl;have h1:=hg 1 _ rfl;have h2:=hg 2 _ rfl;have h3:=hg 3 _ rfl;rw[List.getElem?_eq_getElem YV] at h0 h1 h2 h3;obtain⟨y0,r0,q0⟩:=rd_vals hB m m (Nat.le_refl _) _ _ h0;obtain⟨y1,r1,q1⟩:=rd_ths hB m m (Nat.le_refl _) _ _ h1;obtain⟨y2,r2,q2⟩:=rd_val hB m m (Nat.le_refl _) _ _ h2;obtain⟨y3,r3,q3⟩:=rd_ths hB m m (Nat.le_refl _) _ _ h3;refine⟨⟨y0,y1,y2,y3⟩,?_,trivial⟩;have:=(relL_join (a:=0) (n:=4) (m:=1) (relL_join (a:=0) (n:=2) (m:=2) (relL_join (a:=0) (n:=1) (m:=1) r0 r1) r2) r3);rwa [List.drop_zero,List.take_of_length_le Yb] at this
end
section
variable{H:Type}{enc:TypeId×Value->H}{w:World}{v:Value}{d:DataW H}{ps:List MemPlace}{base base':Nat}{r:Reach}{sz:DataW H->Nat}
theorem prog_of(hB:Bulk sz)(h:DataW.Trod enc Tryz.prog w base (λ_=>true) true 27 v d ps):∃g:Prog,Rel (allI w) w (AV.prog g) v/\(g.classes.length<=sz d/\∀c∈g.classes,c.parents.length<=sz d):=by
 obtain⟨fuel,h⟩:=h;obtain⟨g,hg,hq⟩:=rd_prog hB fuel fuel (Nat.le_refl _) _ _ h;exact⟨g,rel_agg hg Yn,hq⟩
theorem small_of{p:Prog}{n:Nat}(hn:n<=1048576)(h:p.classes.length<=n/\∀c∈p.classes,c.parents.length<=n):p.Small:=⟨Yb,λc hc=>by have:=h.2 c hc;omega⟩
theorem vow_of(hB:Bulk sz)(h:DataW.Trod enc Tryz.prog w base (λ_=>true) true 41 v d ps):∃g:Vw,Rel (allI w) w (AV.vow g) v:=by
 obtain⟨fuel,h⟩:=h;obtain⟨g,hg,_⟩:=rd_vw hB fuel fuel (Nat.le_refl _) _ _ h;exact⟨g,rel_agg hg Yn⟩
theorem call_of(hB:Bulk sz)(h:DataW.Trod enc Tryz.prog w base (λ_=>true) true 52 v d ps):∃g:Vc,Rel (allI w) w (AV.vcall g) v:=by
 obtain⟨fuel,h⟩:=h;obtain⟨g,hg,_⟩:=rd_call hB fuel fuel (Nat.le_refl _) _ _ h;exact⟨g,rel_agg hg Yn⟩
end
theorem bulk_pos{H:Type}(d:DataW H):1<=Rows.uptoBulk d:=by
 cases d with
 | lit l=>cases l <;> simp[Rows.uptoBulk]
 | _=>simp[Rows.uptoBulk]
theorem bulk_len{H:Type}:∀l:List (DataW H),l.length<=Rows.uptoBulkAll l
 | []=>by simp
 | d::r=>by
  have h1:=bulk_pos d;have h2:=bulk_len r;simp only[Rows.uptoBulkAll,List.length_cons];omega
theorem bulk_el{H:Type}:∀l:List (DataW H),∀e∈l,Rows.uptoBulk e<=Rows.uptoBulkAll l
 | d::r,e,he=>by
  simp only[Rows.uptoBulkAll];rcases List.mem_cons.1 he with rfl | he
  ·omega
  ·have:=bulk_el r e he;omega
theorem bulk{H:Type}:Bulk (Rows.uptoBulk (H:=H)):=
 ⟨λes sp=>by have:=bulk_len es;simp only[Rows.uptoBulk];omega,λes sp e he=>by have:=bulk_el es e he;simp only[Rows.uptoBulk];omega,λps e he=>by have:=bulk_el ps e he;simp only[Rows.uptoBulk];omega⟩
end Go.Proofs.YtogjaoodkaahoaaGreat
