/- Part 15 of the proof: contracts of functions of the program and what they need. No condition beyond those that each theorem names. -/
import Derived.Test.YtogjaoodkaahoaaGreatVowJudgesP14
set_option maxHeartbeats 1000000
set_option linter.unusedVariables false
set_option linter.unusedSimpArgs false
set_option maxRecDepth 10000
namespace Go.Proofs.YtogjaoodkaahoaaGreat
open Go.Eng
open Go.Eng.Fc
open Go.Eng.Bd
variable{fs cs:List AV}{J:List Vis->List Ent->Prop}{Jp:AV->List Ent->Prop}
theorem mergeC(all:List (List Int))(ht:total all<=1000)(hl:all.length<=1000):PCall Tryz.prog 418 [AV.intss all] (.tup [AV.ints (mergeP all).1,.b (mergeP all).2]):=by
 intro H;refine aC (n:=66) Tryz.func418 λB I w0=>?_;refine Z6 ?_;refine CW.scope ?_;refine Z6 ?_;refine CW.label ?_;refine Z2 ?_;refine CW.ownNil 4 3 1 rfl ?_;refine lj (λm st=>∃(A:List (List Int)) (out:List Int) (n:Nat) (v:Value),st=⟨[(0,AV.intss A),(4,.as (AV.ints out) v)],.own 3 1 v::H⟩/\m=n/\total A<n/\mergeN n A out=mergeP all/\total A+out.length<=total all/\A.length=all.length) (⟨all,[],total all+1,_,rfl,rfl,Yb,rfl,Yn,rfl⟩) ?_;rintro m _ ⟨A,out,n,v,rfl,rfl,hn,hm,hto,hA⟩;obtain⟨n,rfl⟩:∃q,m=q+1:=⟨m - 1,Yb⟩;refine Z1 ?_;refine CW.scope ?_;refine Z6 ?_;refine CW.label ?_;refine Z10 ?_;refine lj (λm st=>∃(i:Nat) (lf:Bool),st=⟨[(16,.i i),(15,.i A.length),(14,AV.intss A),(5,.b lf),(0,AV.intss A),(4,.as (AV.ints out) v)],.own 3 1 v::H⟩/\m=A.length - i/\i<=A.length/\lf= !((A.take i).all List.isEmpty)/\nextH A A=nextH A (A.drop i)) (⟨0,false,rfl,rfl,Yb,rfl,rfl⟩) ?_;rintro m _ ⟨i,lf,rfl,rfl,hi,hlf,hnx⟩;refine Z6 ?_;refine cd (λh0=>?_) λh0=>?_
 ·have hil:i<A.length:=by omega
  obtain⟨L,hL⟩:∃L,L=A.getD i default:=⟨_,rfl⟩;have hdr:=drop_getD hil;rw[<-hL] at hdr;have hLt:=len_total A i hil;rw[<-hL] at hLt;refine Z13 ?_;rw[<-hL];refine Z6 ?_;refine cd (λh1=>?_) λh1=>?_
  ·have hLe:L= []:=List.eq_nil_of_length_eq_zero Yb;refine Z8 ?_;exact ag (⟨i+1,lf,rfl,rfl,hil,by rw[all_takeB hil, <-hL,hLe,hlf];simp,by rw[hnx,hdr,next_nil hLe]⟩)
  ·have hLn:0<L.length:=by omega
   refine Z16 ?_;refine lj (λm st=>∃j:Nat,st=⟨[(25,.i j),(24,.i A.length),(23,AV.intss A),(7,AV.ints L),(16,.i i),(15,.i A.length),(14,AV.intss A),(5,.b true),(0,AV.intss A),(4,.as (AV.ints out) v)],.own 3 1 v::H⟩/\m=A.length - j/\j<=A.length/\((A.take j).any λm=>m.tail.contains (L.getD 0 default))=false) (⟨0,rfl,rfl,Yb,rfl⟩) ?_;rintro m _ ⟨j,rfl,rfl,hj,hany⟩;refine Z6 ?_;refine cd (λh2=>?_) λh2=>?_
   ·have hjl:j<A.length:=by omega
    obtain⟨M,hM⟩:∃M,M=A.getD j default:=⟨_,rfl⟩;refine Z12 ?_;rw[<-hM];refine CW.dp mixed ?_;refine Z16 ?_;refine DP.anyC 4 9 66 rfl Yf rfl rfl Yf ?_;refine Z1 ?_;refine AD.guardC rfl rfl rfl rfl rfl (λhg=>POp.slFrom (n:=1) rfl rfl YT rfl YT (by have:=of_decide_eq_true hg;omega)) ?_;refine Z5 ?_;refine OL.guardC rfl rfl rfl rfl rfl rfl (λhg=>POp.call (.mk' rfl rfl rfl rfl Yc) ((sContains _ _))) ?_;refine Z3 ?_;refine cd (λh3=>?_) λh3=>?_
    ·refine Z12 ?_;exact ag (⟨i+1,true,rfl,rfl,hil,by rw[all_takeB hil, <-hL,len_empty hLn,Bool.and_false];rfl,by rw[hnx,hdr,next_no hLn (by rw[headOk_any,any_getD hjl (by rw[<-hM];exact head_in h3)];rfl)]⟩)
    ·refine Z7 ?_;exact ag (⟨j+1,rfl,rfl,hjl,by rw[any_takeB hjl,hany, <-hM,head_out h3];rfl⟩)
   ·obtain rfl:j=A.length:=by omega
    rw[List.take_length] at hany;obtain⟨h,hh⟩:∃h,h=L.getD 0 default:=⟨_,rfl⟩;rw[<-hh] at hany;have hsome:nextH A A=some h:=by rw[hnx,hdr,next_yes hLn (by rw[headOk_any, <-hh,hany];rfl),hh]
    have hlt:=total_lt h A i hil (by rw[<-hL,hh];exact getD_memB hLn);have hle:=total_dropH h A;refine Z10 ?_;refine OL.alC rfl rfl rfl rfl (λb0=>?_);refine Z4 ?_;refine CW.freezeP (d:=10) rfl Yr ?_;rw[<-hh];refine Z3 ?_;refine OL.popC (x:=.sl 1 [[.i h]]) rfl rfl rfl (POp.row rfl rfl Yj rfl rfl rfl rfl rfl rfl) ?_;refine OL.appendC rfl rfl rfl rfl rfl rfl rfl rfl (AVle.refl _) (rfl) (λv=>by repeat (first | exact Upd.head _ _ _ | apply Upd.tail)) Yg Yg (λv47=>?_);refine Z10 ?_;refine CW.ownNil 11 23 1 rfl ?_;refine Z7 ?_;refine lj (λm st=>∃(k:Nat) (w:Value),st=⟨[(50,.i k),(49,.i A.length),(48,AV.intss A),(11,.as (AV.intss (dropH h (A.take k))) w),(10,.ptr [.i h]),(4,.as (.sl 1 ((out.map λn=>[AV.i n])++[[AV.i h]])) v47)],.own 23 1 w::.own 3 1 v47::H⟩/\m=A.length - k/\k<=A.length) (⟨0,_,rfl,rfl,Yb⟩) ?_;rintro m _ ⟨k,w,rfl,rfl,hk⟩;refine Z6 ?_;refine cd (λh4=>?_) λh4=>?_
    ·have hkl:k<A.length:=by omega
     have hkt:=len_total A k hkl;refine Z15 ?_;refine oP (POp.call .k (keepI (.of (merge1 h)) (A.getD k default) Yb)) ?_;refine OL.popC (x:=.sl 1 [[AV.ints ((A.getD k default).filter (· !=h))]]) rfl rfl rfl (POp.row rfl rfl Yj rfl rfl rfl rfl rfl rfl) ?_;refine OL.appendC rfl rfl rfl rfl rfl rfl rfl rfl (AVle.refl _) (rfl) (λv=>by repeat (first | exact Upd.head _ _ _ | apply Upd.tail)) Yt Yt (λv59=>?_);refine Z8 ?_;exact ag (⟨k+1,v59,by rw[dropH_snoc _ hkl],rfl,hkl⟩)
    ·obtain rfl:k=A.length:=by omega
     rw[List.take_length];refine Z6 ?_;refine CW.le 11 (y:=AV.intss (dropH h A)) rfl (AVle.asL _ _) ?_;refine Z11 ?_;refine Done.scopeX ?_;refine Z1 ?_;exact ag (⟨dropH h A,out++[h],n,v47,by rw[ints_snoc],rfl,Yb,by rw[<-hm,merge_some hsome],Y5,by rw[dropH_len,hA]⟩)
 ·obtain rfl:i=A.length:=by omega
  rw[List.drop_length] at hnx;rw[List.take_length] at hlf;refine Z15 ?_;refine Done.scopeR ?_;refine Z3 ?_;refine Done.scopeR ?_;refine Done.retR (rs:=[.tmp 2,.tmp 3]) (H':=H) rfl (.tmp rfl (.tmp rfl (.nil))) (.cons (AVle.asL _ _) (.cons (.refl _) .nil)) Yd ?_;exact⟨by rw[<-hm,merge_none hnx,hlf,Bool.not_not];rfl,rfl⟩
theorem lsWith(s:Nat)(c:Int)(hc:0<=c/\c<64)(hs:s<18446744073709551616):PCall Tryz.prog 366 [.agg [AV.set s],.i c] (.agg [AV.set (s ||| 2^c.toNat)]):=by
 intro H;refine aC (n:=12) Tryz.func366 λB I w0=>?_;refine Z2 ?_;refine OL.boxC rfl rfl rfl rfl rfl rfl rfl (λb0=>?_);refine OL.alC rfl rfl rfl rfl (λb1=>?_);refine Z3 ?_;refine CW.dp mixed ?_;refine DP.anyC 0 4 12 rfl Yf rfl rfl Yf ?_;refine Z3 ?_;refine AD.popC rfl rfl rfl (POp.shift rfl rfl rfl rfl rfl hc.1 (sh_left _ hc)) ?_;refine Z2 ?_;refine oP (POp.bits rfl rfl rfl rfl rfl (bit_or _ _ hs (Nat.pow_lt_pow_right (a:=2) (n:=64) Yb Yb))) ?_;refine Z11 ?_;refine rR [.cell 4 422] (H) ?_;exact⟨Ye,rfl⟩
theorem lsOr(s t:Nat)(hs:s<18446744073709551616)(ht:t<18446744073709551616):PCall Tryz.prog 367 [.agg [AV.set s],.agg [AV.set t]] (.agg [AV.set (s ||| t)]):=by
 intro H;refine aC (n:=12) Tryz.func367 λB I w0=>?_;refine Z2 ?_;refine OL.boxC rfl rfl rfl rfl rfl rfl rfl (λb0=>?_);refine Z1 ?_;refine OL.alC rfl rfl rfl rfl (λb1=>?_);refine Z8 ?_;refine oP (POp.bits rfl rfl rfl rfl rfl (bit_or _ _ hs ht)) ?_;refine Z11 ?_;refine rR [.cell 4 422] (H) ?_;exact⟨Ye,rfl⟩
abbrev walkF(wb:Nat)(G:AV)(p:Prog):AV:=.fn (.func 299) [] [.ptr [G],.ptr (progC p),.p wb 0]
abbrev walkE(wb:Nat)(G:AV)(p:Prog):Ent:=.blk wb 376 [walkF wb G p]
def WalkC(B:Nat)(p:Prog)(next:Bool)(G:AV)(L:List Vis)(fails:Bool)(J:List Vis->List Ent->Prop)(Jp:AV->List Ent->Prop)(wb:Nat)(f:Nat):Prop:=
 ∀(x:Vis) (out:List Int) (pre rest:List Vis) (H0 Hx:List Ent),x.dp+f=14->1<=x.dp->-1000<=x.sz/\x.sz<=1000+x.dp->pre++(visit p next f x out).1++rest=L->((visit p next f x out).2=none->rest= []/\fails=true)->((visit p next f x out).2≠none->fails=true->rest≠ [])->J pre H0->
  BCall B Tryz.prog 299 [.i x.n,plcA x,.ptr [G],.ptr (progC p),.p wb 0] (H0++(walkE wb G p::Hx)) (λy H'=>y= .b true/\(visit p next f x out).2≠none/\∃H1,H'=H1++(walkE wb G p::Hx)/\J (pre++(visit p next f x out).1) H1)
   (λy H'=>(visit p next f x out).2=none/\∃H1,H'=H1++(walkE wb G p::Hx)/\Jp y H1)
theorem walk_step{B:Nat}{p:Prog}{next:Bool}{g:Fn}{L:List Vis}{fails:Bool}(hcb:CbP B Tryz.prog (.fn g fs cs) (λx=>.i x.n) plcA L fails J Jp)(hcon:∀y H,Jp y H->∃v,y.Const v)
  {wb f:Nat} (ih:∀f',f=f'+1->WalkC B p next (.fn g fs cs) L fails J Jp wb f'):WalkC B p next (.fn g fs cs) L fails J Jp wb f:=by
 intro x out pre rest H0 Hx hdf hdp hsz hL hn1 hn2 hJ;refine BCall.of (n:=55) Tryz.func299 rfl Ya rfl rfl (λI w0=>?_);refine Z12 ?_;refine OL.vcall rfl rfl rfl rfl rfl rfl rfl (AVleL.refl _) (hcb pre x H0 (walkE wb (.fn g fs cs) p::Hx) (visit_pre hL) hJ) ?_ ?_
 ·rintro _ _ ⟨H1,rfl,rfl,hlast,hJ1⟩;obtain⟨hok,f',rfl⟩:=visit_ok hdf hL hn1 hlast;obtain⟨hp0,hp1⟩:=okV_place hok;obtain⟨K,hK⟩:∃K,K=ndOf p x:=⟨_,rfl⟩;have hvy:=visit_yes (f:=f') hok;rw[<-hK] at hvy;refine Z3 ?_;refine CW.cond rfl (λh0=>?_) (λh0=>?_)
  ·simp at h0
  ·replace h0:=nm h0;refine Z8 ?_;refine oP (YC) ?_;refine Z7 ?_;rw[show p.nodes.getD x.n.toNat default=K from hK.symm];refine CW.boundM (t:=21) rfl (λhb21=>?_);refine lj (λm st=>∃(i:Nat) (l:List Vis) (o:List Int) (H1:List Ent),st=⟨[(23,.i i),(22,.i K.kids.length),(21,AV.ints K.kids),(6,.ptr [.i x.sz,.i x.dp]),(0,.i x.n),(2,.ptr [.fn g fs cs]),(3,.ptr (progC p)),(4,.p wb 0)],H1++(walkE wb (.fn g fs cs) p::Hx)⟩/\m=K.kids.length - i/\i<=K.kids.length/\visitsW (visit p next f') ((kidsV x K.op 0 K.kids).take i) (setV out x)=(l,some o)/\J (pre++x::l) H1) (⟨0,[],setV out x,H1,rfl,rfl,Yb,rfl,hJ1⟩) ?_;rintro m _ ⟨i,l,o,H1,rfl,rfl,hi,hvs,hJ1⟩;refine Z6 ?_;refine cd (λh1=>?_) λh1=>?_
   ·have hil:i<K.kids.length:=by omega
    obtain⟨R,hR,hR1,hR2⟩:=kid_step (visit_ne (p:=p) (next:=next) f') (kidsV_get x K.op hil) hvs;obtain⟨hA1,hA2,hA3⟩:=kid_args hvy hL hn1 hn2 hR hR1 (λo' h=>(hR2 o' h).2);refine Z21 ?_;refine OL.alC rfl rfl rfl rfl (λtb=>?_);refine Z9 ?_;refine oP (YC) ?_;refine Z9 ?_;refine cd (λh2=>?_) λh2=>?_
    ·refine Z9 ?_;refine CW.perm (H':=H1++(walkE wb (.fn g fs cs) p::.blk tb 312 [.i (kidV x K.op i (K.kids.getD i default)).sz,.i (kidV x K.op i (K.kids.getD i default)).dp]::Hx)) (by rw[show (kidV x K.op i (K.kids.getD i default)).sz=x.sz+1 from by rw[show (p.nodes.getD x.n.toNat default).op=K.op by rw[hK];rfl] at h2;simp at h2;simp only[kidV];rw[if_pos Yb]];exact perm_kid _ _ _ _) ?_;refine Z1 ?_;refine oP (YD) ?_;refine Z1 ?_;refine oP (YL) ?_;refine OL.bcall rfl rfl .k (ih f' rfl (kidV x K.op i (K.kids.getD i default)) o (pre++x::l) (R++rest) H1 (.blk tb 312 [.i (kidV x K.op i (K.kids.getD i default)).sz,.i (kidV x K.op i (K.kids.getD i default)).dp]::Hx) Y1 Y1 Yat hA1 hA2 hA3 hJ1) ?_ ?_
     ·rintro _ _ ⟨rfl,hne,H2,rfl,hJ2⟩;obtain⟨o',ho⟩:=Option.ne_none_iff_exists'.1 hne;obtain⟨hs',_⟩:=hR2 o' ho;refine Z3 ?_;refine CW.cond rfl (λh3=>?_) (λh3=>?_)
      ·simp at h3
      ·replace h3:=nm h3;refine Z3 ?_;refine CW.subH (drop_kid _ _ _ _) ?_;refine Z4 ?_;exact ag (⟨i+1,l++(visit p next f' (kidV x K.op i (K.kids.getD i default)) o).1,o',H2,Yav,rfl,hil,hs',by simpa using hJ2⟩)
     ·rintro y H3 ⟨hno,H2,rfl,hq⟩ a w s I v hv;obtain⟨v0,hc⟩:=hcon _ _ hq;rw[hc.is _ _ _ hv];exact outP (P:=Tryz.prog) (fn:=Tryz.f299) hc (drop_kid _ _ _ _) ⟨by rw[hvy];exact (hR1 hno).2,H2,rfl,hq⟩ a w s
    ·refine Z3 ?_;refine CW.perm (H':=H1++(walkE wb (.fn g fs cs) p::.blk tb 312 [.i (kidV x K.op i (K.kids.getD i default)).sz,.i (kidV x K.op i (K.kids.getD i default)).dp]::Hx)) (by rw[show (kidV x K.op i (K.kids.getD i default)).sz=x.sz from by rw[show (p.nodes.getD x.n.toNat default).op=K.op by rw[hK];rfl] at h2;simp at h2;simp only[kidV];rw[if_neg Yb]];exact perm_kid _ _ _ _) ?_;refine Z1 ?_;refine oP (YD) ?_;refine Z1 ?_;refine oP (YL) ?_;refine OL.bcall rfl rfl .k (ih f' rfl (kidV x K.op i (K.kids.getD i default)) o (pre++x::l) (R++rest) H1 (.blk tb 312 [.i (kidV x K.op i (K.kids.getD i default)).sz,.i (kidV x K.op i (K.kids.getD i default)).dp]::Hx) Y1 Y1 Yat hA1 hA2 hA3 hJ1) ?_ ?_
     ·rintro _ _ ⟨rfl,hne,H2,rfl,hJ2⟩;obtain⟨o',ho⟩:=Option.ne_none_iff_exists'.1 hne;obtain⟨hs',_⟩:=hR2 o' ho;refine Z3 ?_;refine CW.cond rfl (λh4=>?_) (λh4=>?_)
      ·simp at h4
      ·replace h4:=nm h4;refine Z3 ?_;refine CW.subH (drop_kid _ _ _ _) ?_;refine Z4 ?_;exact ag (⟨i+1,l++(visit p next f' (kidV x K.op i (K.kids.getD i default)) o).1,o',H2,Yav,rfl,hil,hs',by simpa using hJ2⟩)
     ·rintro y H3 ⟨hno,H2,rfl,hq⟩ a w s I v hv;obtain⟨v0,hc⟩:=hcon _ _ hq;rw[hc.is _ _ _ hv];exact outP (P:=Tryz.prog) (fn:=Tryz.f299) hc (drop_kid _ _ _ _) ⟨by rw[hvy];exact (hR1 hno).2,H2,rfl,hq⟩ a w s
   ·obtain rfl:i=K.kids.length:=by omega
    have hvs2:visitsW (visit p next f') (kidsV x K.op 0 K.kids) (setV out x)=(l,some o):=by rwa [List.take_of_length_le (by rw[kidsV_len];omega)] at hvs
    rw[hvs2] at hvy;refine Z11 ?_;refine Done.retR (rs:=[.tmp 7]) rfl (.tmp rfl (.nil)) (AVleL.refl _) Yd ?_;exact⟨Ye,by rw[hvy];simp,H1,rfl,by rw[hvy];exact hJ1⟩
 ·rintro y H2 ⟨H1,rfl,hlast,hf,hq⟩ a w s I v hv;obtain⟨v0,hc⟩:=hcon _ _ hq;rw[hc.is _ _ _ hv];exact outP (P:=Tryz.prog) (fn:=Tryz.f299) hc (.refl _) ⟨visit_last hL hn2 hf hlast,H1,rfl,hq⟩ a w s
theorem walkAll{B:Nat}{p:Prog}{next:Bool}{g:Fn}{fs cs:List AV}{L:List Vis}{fails:Bool}{J:List Vis->List Ent->Prop}{Jp:AV->List Ent->Prop}(hcb:CbP B Tryz.prog (.fn g fs cs) (λx=>.i x.n) plcA L fails J Jp)(hcon:∀y H,Jp y H->∃v,y.Const v)(wb:Nat):
  ∀f,WalkC B p next (.fn g fs cs) L fails J Jp wb f
 | 0=>walk_step hcb hcon (λf' h=>by omega)
 | f+1=>walk_step hcb hcon (λf' h=>by(obtain rfl:f'=f:=by omega);exact walkAll hcb hcon wb f')
theorem below1{B:Nat}{p:Prog}{next:Bool}{g:Fn}{x:Vis}{out:List Int}(hx:x.dp=1)(hsz: -1000<=x.sz/\x.sz<=1001)(hcon:∀y H,Jp y H->∃v,y.Const v)
  (hcb:CbP B Tryz.prog (.fn g fs cs) (λx=>.i x.n) plcA (visit p next 13 x out).1 (visit p next 13 x out).2.isNone J Jp) {H0 Hx:List Ent} (hJ:J [] H0):
  BCall B Tryz.prog 298 [.fn g fs cs,.ptr (progC p),.ptr [.i x.n],.ptr [.i x.sz,.i x.dp]] (H0++Hx) (λ_ H'=>(visit p next 13 x out).2.isNone=false/\∃H1 wb,H'=H1++(walkE wb (.fn g fs cs) p::Hx)/\J (visit p next 13 x out).1 H1)
   (λy H'=>(visit p next 13 x out).2.isNone=true/\∃H1 wb,H'=H1++(walkE wb (.fn g fs cs) p::Hx)/\Jp y H1):=by
 refine BCall.of (n:=11) Tryz.func298 rfl Ya rfl rfl (λI w0=>?_);refine Z7 ?_;refine OL.alC rfl rfl rfl rfl (λwb=>?_);refine Z8 ?_;refine CW.perm (H':=H0++(walkE wb (.fn g fs cs) p::Hx)) List.perm_middle.symm ?_;refine Z1 ?_;refine oP (YD) ?_;refine Z2 ?_;refine OL.bcall rfl rfl .k (walkAll hcb hcon wb 13 x out [] [] H0 Hx Yb Yb Yb Yn (λh=>⟨rfl,by rw[h];rfl⟩) (λh hf=>absurd (Option.isNone_iff_eq_none.1 hf) h) hJ) ?_ ?_
 ·rintro _ _ ⟨rfl,hne,H1,rfl,hJ1⟩;refine Z1 ?_;refine Done.norR (rs:=[]) rfl (.nil) (AVleL.refl _) Yd ?_;exact⟨by cases h:(visit p next 13 x out).2 with
 | none=>exact absurd h hne
 | some o=>rfl,H1,wb,rfl,by simpa using hJ1⟩
 ·rintro y H2 ⟨hno,H1,rfl,hq⟩ a w s I v hv;obtain⟨v0,hc⟩:=hcon _ _ hq;rw[hc.is _ _ _ hv];exact outP (P:=Tryz.prog) (fn:=Tryz.f298) hc (.refl _) ⟨YaG,H1,wb,rfl,hq⟩ a w s
theorem below(p:Prog)(x:Vis):PCall Tryz.prog 245 [AV.prog p,.i x.n,plcA x] (.fn (.func 298) [] [.ptr (progC p),.ptr [.i x.n],.ptr [.i x.sz,.i x.dp]]):=by
 intro H;refine aC (n:=8) Tryz.func245 λB I w0=>?_;refine Z15 ?_;refine r1 6 (H) ?_;exact⟨Ye,rfl⟩
theorem below_seq(B:Nat)(p:Prog)(next:Bool)(x:Vis)(out:List Int)(hx:x.dp=1)(hsz: -1000<=x.sz/\x.sz<=1001):SeqP B Tryz.prog (.fn (.func 298) [] [.ptr (progC p),.ptr [.i x.n],.ptr [.i x.sz,.i x.dp]]) (λx=>.i x.n) plcA (visit p next 13 x out).1 (visit p next 13 x out).2.isNone [] (λ_=>True):=by
 intro J Jp g fs cs hcon hcb H Hx hJ;refine VCall.fnB ((below1 hx hsz hcon hcb hJ).imp ?_ ?_)
 ·rintro y H' ⟨h,H1,wb,rfl,hJ1⟩;exact⟨h,H1,[walkE wb (.fn g fs cs) p],rfl,trivial,hJ1⟩
 ·rintro y H' ⟨h,H1,wb,rfl,hJ1⟩;exact⟨h,H1,[walkE wb (.fn g fs cs) p],rfl,hJ1⟩
end Go.Proofs.YtogjaoodkaahoaaGreat

namespace Go.Eng.Bd
open Go.Eng.Fc
theorem rep_and(n:Nat)(h:n<4294967296):bitI .and .u64 (n:Int) 4294967295=some (n:Int):=by
 rw[show (4294967295:Int)=((4294967295:Nat):Int) from rfl,bit_and n 4294967295 Yb Yb];rw[show (4294967295:Nat)=2^32 - 1 from rfl,Nat.and_two_pow_sub_one_eq_mod,Nat.mod_eq_of_lt Yb]
theorem rep_shr(n:Nat)(h:n<4294967296):shI .shr .u64 (n:Int) 32=some 0:=by
 show some ((n:Int).fdiv (2^(min (32:Int).toNat 64)))=some 0;congr 1;rw[show (2:Int)^(min (32:Int).toNat 64)=4294967296 from rfl,Int.fdiv_eq_ediv_of_nonneg _ Yb];omega
theorem u64_is{a:Int}{n:Nat}(h:a=n)(hn:n<18446744073709551616):IntKind.u64.wrap a=(n:Int):=by rw[h];exact u64_wrap n hn
def repC(x z:AV)(j k:Nat):List AV:=List.replicate j x++List.replicate k z
theorem repC_step(x z:AV)(j k m:Nat)(hj:m<=j)(hk:m<=k):(repC x z j k).take j++((repC x z j k).take j).take m++(repC x z j k).drop (j+m)=repC x z (j+m) (k - m):=by
 have e1:(repC x z j k).take j=List.replicate j x:=by rw[repC,List.take_append_of_le_length Yn,List.take_of_length_le Yn]
 rw[e1,List.take_replicate,Nat.min_eq_left hj,repC,List.drop_append,List.drop_eq_nil_of_le Yn,List.nil_append,List.length_replicate,Nat.add_sub_cancel_left,List.drop_replicate,repC,List.replicate_append_replicate]
theorem repC_first(x z:AV)(k:Nat)(hk:1<=k):(List.replicate k z).take 0++[x].take 1++(List.replicate k z).drop 1=repC x z 1 (k - 1):=by
 simp[repC]
theorem repC_all(x z:AV)(j:Nat):repC x z j 0=List.replicate j x:=by simp[repC]
theorem repC_len(x z:AV)(j k:Nat):(repC x z j k).length=j+k:=by simp[repC]
theorem repC_one(x z:AV)(j k:Nat)(hx:allOne [x]=true)(hz:allOne [z]=true):allOne ((repC x z j k).take j)=true:=by
 rw[repC,List.take_append_of_le_length Yn,List.take_of_length_le Yn];simp only[allOne,List.all_eq_true] at hx ⊢;intro y hy;rw[List.eq_of_mem_replicate hy];exact hx x Yn
end Go.Eng.Bd

namespace Go.Proofs.YtogjaoodkaahoaaGreat
open Go.Eng
open Go.Eng.Fc
open Go.Eng.Bd
variable{p:Prog}
instance:HasMk Tryz.prog 23 (3,8,.int .i64 0):=⟨Ya⟩
theorem mul64(n:Nat)(hn:n<4294967296):PCall Tryz.prog 362 [.val (.int .u64 ((1:Nat):Int)),.val (.int .u64 (n:Int))] (.tup [.val (.int .u64 0),.val (.int .u64 (n:Int))]):=by
 intro H;refine aC (n:=51) Tryz.func362 λB I w0=>?_;refine Z9 ?_;refine oP (POp.bits rfl rfl rfl rfl rfl (rep_and 1 Yb)) ?_;refine Z6 ?_;refine oP (POp.shift rfl rfl rfl rfl rfl Yb (rep_shr 1 Yb)) ?_;refine Z6 ?_;refine oP (POp.bits rfl rfl rfl rfl rfl (rep_and _ Yb)) ?_;refine Z6 ?_;refine oP (POp.shift rfl rfl rfl rfl rfl Yb (rep_shr _ Yb)) ?_;refine Z7 ?_;refine oP (POp.arith rfl rfl rfl rfl rfl rfl (u64_is (n:=n) Yb Yb)) ?_;refine Z7 ?_;refine oP (POp.arith rfl rfl rfl rfl rfl rfl (u64_is (n:=0) Yb Yb)) ?_;refine Z1 ?_;refine oP (POp.shift rfl rfl rfl rfl rfl Yb (rep_shr _ Yb)) ?_;refine oP (POp.arith rfl rfl rfl rfl rfl rfl (u64_is (n:=0) Yb Yb)) ?_;refine Z6 ?_;refine oP (POp.bits rfl rfl rfl rfl rfl (rep_and 0 Yb)) ?_;refine Z6 ?_;refine oP (POp.shift rfl rfl rfl rfl rfl Yb (rep_shr 0 Yb)) ?_;refine Z8 ?_;refine oP (POp.arith rfl rfl rfl rfl rfl rfl (u64_is (n:=0) Yb Yb)) ?_;refine oP (POp.arith rfl rfl rfl rfl rfl rfl (u64_is (n:=0) Yb Yb)) ?_;refine Z7 ?_;refine oP (POp.arith rfl rfl rfl rfl rfl rfl (u64_is (n:=0) Yb Yb)) ?_;refine Z1 ?_;refine oP (POp.arith rfl rfl rfl rfl rfl rfl (u64_is (n:=0) Yb Yb)) ?_;refine Z1 ?_;refine oP (POp.shift rfl rfl rfl rfl rfl Yb (rep_shr 0 Yb)) ?_;refine oP (POp.arith rfl rfl rfl rfl rfl rfl (u64_is (n:=0) Yb Yb)) ?_;refine Z7 ?_;refine oP (POp.arith rfl rfl rfl rfl rfl rfl (u64_is (n:=n) Yb Yb)) ?_;refine Z4 ?_;refine rR [.tmp 4,.tmp 5] (H) ?_;exact⟨Ye,rfl⟩
theorem mulU(n:Nat)(hn:n<4294967296):PCall Tryz.prog 297 [.val (.int .u64 ((1:Nat):Int)),.val (.int .u64 (n:Int))] (.tup [.val (.int .u64 0),.val (.int .u64 (n:Int))]):=by
 intro H;refine aC (n:=30) Tryz.func297 λB I w0=>?_;refine Z7 ?_;refine CW.condKF ?_;refine Z6 ?_;refine oP (POp.call .k (mul64 n hn)) ?_;refine Z16 ?_;refine rR [.tmp 4,.tmp 5] (H) ?_;exact⟨Ye,rfl⟩
theorem repeatI(n:Nat)(hn:1<=n/\n<=1000000)(H:List Ent):ACall Tryz.prog 243 [.sl 1 [[(.i (-1))]],.i n] H (λy H'=>∃nb,y=(.val (.slice (some ⟨nb,0,none⟩) n n))/\H'= .blk nb 3 (List.replicate n (.i (-1)))::H) (λ_ _=>False):=by
 refine aC (n:=48) Tryz.func243 λB I w0=>?_;refine Z12 ?_;refine CW.cond rfl (λh0=>?_) (λh0=>?_)
 ·simp at h0;omega
 ·replace h0:=nm h0;refine Z6 ?_;refine oP (POp.cv rfl rfl rfl (u64_is (n:=1) rfl Yb)) ?_;refine Z1 ?_;refine oP (POp.cv rfl rfl rfl (u64_is (n:=n) rfl Yb)) ?_;refine oP (POp.call .k (mulU n Yb)) ?_;refine Z18 ?_;refine CW.cond rfl (λh1=>?_) (λh1=>?_)
  ·simp at h1;omega
  ·replace h1:=nm h1;refine Z5 ?_;refine oP (POp.cv rfl rfl rfl (wrap64 (n:=(n:Int)) Yb)) ?_;refine OL.mkSlC (n) rfl rfl rfl rfl rfl rfl rfl rfl (rfl) Yb Yy (λnb=>?_);refine Z7 ?_;refine OL.copyC 1 rfl rfl rfl rfl rfl rfl (SlReads.sl (els:=[[(.i (-1))]]) (by simp[Op.operands,Call.operands]) rfl rfl (AVle.refl _) Yn) rfl YB YB (.head _ _ _) ?_;refine Z5 ?_;refine CW.eqH (H':=.blk nb 3 (repC (.i (-1)) (.val (.int .i64 0)) 1 (n - 1))::H) (by rw[show (0:Nat)+1*1=1 from rfl,show 1*1=1 from rfl];rw[<-repC_first _ _ _ hn.1];rfl) ?_;refine lj (λm st=>∃j:Nat,st=⟨[(8,.i j),(7,(.val (.slice (some ⟨nb,0,none⟩) n n))),(0,.sl 1 [[(.i (-1))]])],.blk nb 3 (repC (.i (-1)) (.val (.int .i64 0)) j (n - j))::H⟩/\m=n - j/\1<=j/\j<=n) (⟨1,rfl,rfl,Yb,Yb⟩) ?_;rintro m _ ⟨j,rfl,rfl,hj1,hj⟩;refine Z9 ?_;refine cd (λh2=>?_) λh2=>?_
   ·have hjn:j<n:=by simpa using h2
    refine Z3 ?_;refine CW.dp mixed ?_;refine DP.anyH [⟨7,45,false⟩] (()) (λ(g:Unit) (vs:List (Option Value))=>match vs with | [none]=>.blk nb 3 (repC (.i (-1)) (.val (.int .i64 0)) j (n - j))::H | [some _]=>.blk nb 3 ((repC (.i (-1)) (.val (.int .i64 0)) j (n - j)).take (0+j*1)++(((repC (.i (-1)) (.val (.int .i64 0)) j (n - j)).drop (0+0*1)).take ((j - 0)*1)).take (min j (n - j)*1)++(repC (.i (-1)) (.val (.int .i64 0)) j (n - j)).drop (0+j*1+min j (n - j)*1))::H | _=>[]) 0 8 48 rfl Yf Yf rfl rfl Yf rfl ?_;refine UD.popG [[true],[false]] rfl Yf rfl rfl rfl ⟨λg f=>POp.move rfl rfl rfl,λg f=>POp.move rfl rfl rfl,trivial⟩ ?_;refine UD.popG [[false]] rfl Yf rfl rfl rfl ⟨λg f=>POp.move rfl rfl rfl,trivial⟩ ?_;refine UD.popG [[false]] rfl Yf rfl rfl rfl ⟨λg f=>POp.move rfl rfl rfl,trivial⟩ ?_;refine UD.popG [[false]] rfl Yf rfl rfl rfl ⟨λg f=>POp.slC (kh:=.i64) (l:=j) (m:=n) rfl rfl rfl rfl rfl rfl rfl Yb Yb Yb,trivial⟩ ?_;refine UD.popG [[false]] rfl Yf rfl rfl rfl ⟨λg f=>POp.move rfl rfl rfl,trivial⟩ ?_;refine UD.popG [[false]] rfl Yf rfl rfl rfl ⟨λg f=>POp.move rfl rfl rfl,trivial⟩ ?_;refine UD.popG [[false]] rfl Yf rfl rfl rfl ⟨λg f=>POp.slC (kl:=.i64) (l:=0) (m:=j) rfl rfl rfl rfl rfl rfl rfl Yb Yb Yb,trivial⟩ ?_;refine UD.effG 0 [[false]] rfl rfl rfl Yf rfl rfl rfl ⟨λg f=>FOk.copy () (min j (n - j)) rfl rfl rfl (SlReads.blk (by simp[Op.operands,Call.operands]) rfl rfl (.head _) (by rw[repC_len];omega)) (by rw[Nat.zero_add,Nat.zero_mul,List.drop_zero,Nat.sub_zero,Nat.mul_one];exact repC_one _ _ _ _ rfl rfl) Yb (by rw[repC_len];omega) (λv=>.head _ _ _),trivial⟩ ?_;refine UD.nil (λg f=>?_);simp only[CE.vals,List.map_cons,List.map_nil,List.cons_append,List.nil_append];refine Z5 ?_;refine Done.eqH (H':=.blk nb 3 (repC (.i (-1)) (.val (.int .i64 0)) (j+min j (n - j)) (n - (j+min j (n - j))))::H) (by rw[Nat.zero_add,Nat.zero_add,Nat.zero_mul,Nat.mul_one,Nat.mul_one,Nat.mul_one,List.drop_zero,Nat.sub_zero,repC_step _ _ _ _ _ Yb Yb,Nat.sub_sub]) ?_;refine Done.le 8 (y:=.i (j+min j (n - j):Nat)) rfl (AVle.eqI Yb) ?_;exact ag ⟨j+min j (n - j),rfl,rfl,Yb,Yb⟩
   ·obtain rfl:j=n:=by simp at h2;omega
    refine Z12 ?_;refine r1 4 (.blk nb 3 (repC (.i (-1)) (.val (.int .i64 0)) j (j - j))::H) ?_;exact⟨nb,Ye,by rw[Nat.sub_self,repC_all]⟩
instance:HasTa Tryz.prog 317:=⟨Ya⟩
instance:HasTa Tryz.prog 319:=⟨Ya⟩
abbrev outH(ob nb n:Nat)(o:List Int):List Ent:=[.blk ob 23 [(.val (.slice (some ⟨nb,0,none⟩) n n))],.blk nb 3 ((o).map AV.i)]
theorem round_key{next:Bool}{out:List Int}{x0:Vis}{pre:List Vis}{x:Vis}(hd:x0.dp=1)(h:pre++[x]<+:(visit p next 13 x0 out).1):
  (okV p next x (outsV pre out)=true/\(pre++[x]=(visit p next 13 x0 out).1->(visit p next 13 x0 out).2.isNone=false))\/(okV p next x (outsV pre out)=false/\pre++[x]=(visit p next 13 x0 out).1/\(visit p next 13 x0 out).2.isNone=true):=by
 have hv:=visit_vp (p:=p) (next:=next) 13 x0 out Yb;rcases Classical.em (pre++[x]=(visit p next 13 x0 out).1/\(visit p next 13 x0 out).2=none) with⟨h1,h2⟩ | h1
 ·exact .inr ⟨hv.no pre x h1 h2,h1,by rw[h2];rfl⟩
 ·refine .inl ⟨hv.yes pre x h h1,λe=>?_⟩;cases hr:(visit p next 13 x0 out).2 with
  | none=>exact absurd ⟨e,hr⟩ h1
  | some o=>rfl
theorem kind_arg{x:Nd}{sz:Int}(h:kindOf x.op=some none)(hn:numP p x sz=true):0<=x.n/\x.n<p.gens.length:=by
 have h5:x.op=5:=by
  unfold kindOf at h
  repeat' split at h
  all_goals first | assumption | (simp at h;done)
 unfold numP mostP at hn;rw[if_neg Yb,if_neg Yb,if_neg Yb,if_neg Yb,if_pos h5] at hn;simpa using hn
theorem bodyS{n:Nat}(hn:n=p.nodes.length)(k size:Int)(next:Bool)(hs:0<=size/\size<=1000)(out:List Int)(ho:out.length=n)(hC0:p.classes.length<=100)(ob nb:Nat)(H:List Ent):
  ACall Tryz.prog 244 [.i k,.i size,.b next,.ptr (progC p),.p ob 0] (outH ob nb n out++H) (λ_ H'=>(visit p next 13 (⟨k,size,1⟩:Vis) out).2.isNone=false/\H'=outH ob nb n (outsV (visit p next 13 (⟨k,size,1⟩:Vis) out).1 out)++H) (λy H'=>y=unfA/\(visit p next 13 (⟨k,size,1⟩:Vis) out).2.isNone=true/\∃o',H'=outH ob nb n o'++H):=by
 refine ACall.mkF (n:=86) Tryz.func244 rfl Ya rfl rfl (λB I w0=>?_);refine CWF.seq ?_;refine CW.atF ?_;refine Z3 ?_;refine CWF.done ?_;refine CWF.seq ?_;refine CW.atF ?_;refine Z5 ?_;refine oP (POp.call .k (below p (⟨k,size,1⟩:Vis))) ?_;refine Z1 ?_;refine CWF.done ?_;refine CWF.block ?_;refine CWF.rangeFuncP Tryz.func244 (λx=>.i x.n) (plcA) ((visit p next 13 (⟨k,size,1⟩:Vis) out).1) ((visit p next 13 (⟨k,size,1⟩:Vis) out).2.isNone) (λpre H=>H=outH ob nb n (outsV pre out)) (λy H=>y=unfA/\∃o',H=outH ob nb n o') (outH ob nb n out) ([]) (H) (λ_=>True) (λx=>[(9,.ptr [.i x.sz,.i x.dp]),(8,.i x.n),(7,.ptr [.b next]),(3,.ptr (progC p)),(4,.p ob 0)]) rfl rfl rfl rfl rfl (below_seq B p next (⟨k,size,1⟩:Vis) out rfl (by show _<=size/\size<=_;omega)) (rfl) (λy H h=>⟨unfV,h.1.symm▸unf_c⟩) ?_ ?_ ?_ ?_
 ·intro l0 I1 w1 x Hy;refine Z6 ?_;refine OL.alC rfl rfl rfl rfl (λb0=>?_);refine Z2 ?_;refine Done.freezeP (d:=9) rfl (Del.head _ _) ?_;exact λa w s=>⟨_,rfl,s.weaken (envLe_get (by repeat (first | exact trivial | refine⟨rfl,?_⟩))) (List.Sublist.refl _)⟩
 ·intro l0 D0 lp pre x H1 Hy I1 w1 hpre hJ;obtain rfl:=hJ;obtain⟨C,hC⟩:∃C,C=outsV pre out:=⟨_,rfl⟩;have hCl:C.length=n:=by rw[hC,outsV_len,ho]
  have hkey:=round_key rfl hpre;rw[<-hC] at hkey ⊢;have hsm:=visit_small (p:=p) (next:=next) 13 (⟨k,size,1⟩:Vis) out Yav (by unfold smallV;simp only[];omega) x (hpre.subset Yn);unfold smallV at hsm;refine Z15 ?_;refine OL.guardC rfl rfl rfl rfl rfl rfl (λhg=>POp.ixC rfl rfl (gd hg) rfl (gd hg) (by simp at hg;omega)) ?_;refine OL.guardC rfl rfl rfl rfl rfl rfl (λhg=>(by first | exact POp.ld1 rfl rfl (gd hg) rfl | (apply POp.ld1H rfl rfl (gd hg);(case hm=>exact .tail _ (.tail _ (.tail _ (.head _))));(case hy=>exact cellI_get (by simp at hg;omega))))) ?_;refine Z7 ?_;cases hpl:placeOk p x C
  ·refine OL.rcallN rfl rfl (.mk' rfl rfl rfl rfl rfl) (needF (by simp only[Bool.cond_false_right,ge_iff_le];exact hpl) _) unf_c ?_;rcases hkey with⟨h1,_⟩ | ⟨_,h2,h3⟩
   ·rw[okV_no1 hpl] at h1;cases h1
   ·intro a w s;exact Done.roundPP (J:=λpre H=>H=outH ob nb n (outsV pre out)) (H:=outH ob nb n (C)) Yd unf_c h2 h3 ⟨rfl,_,rfl⟩ a w s
  ·refine OL.rcallS rfl rfl rfl (.mk' rfl rfl rfl rfl rfl) (needT (by simp only[Bool.cond_false_right,ge_iff_le];exact hpl) _) ?_;obtain⟨hp0,hp1⟩:=placeOk_in hpl;refine Z8 ?_;refine oP (POp.ixC rfl rfl rfl rfl rfl Yb) ?_;apply OL.stoC rfl rfl rfl rfl rfl rfl rfl rfl rfl rfl
   (case hu=>repeat (first | exact Upd.head _ _ _ | apply Upd.tail));(case hfit=>exact Nat.ble_eq_true_of_le YP);(case hds=>exact cellI_set Yb)
   refine Z7 ?_;refine oP (YC) ?_;refine Z1 ?_;refine OL.alC rfl rfl rfl rfl (λkb=>?_);refine Z9 ?_;refine oP (POp.call .k (number p hC0 (ndOf p x) x.sz)) ?_;refine Z8 ?_;cases hgd:(numP p (ndOf p x) x.sz && (next || (ndOf p x).op !=18))
   ·refine OL.rcallN rfl rfl (.mk' rfl rfl rfl rfl rfl) (needF (by simp only[Bool.cond_false_right,Bool.cond_true_left];exact hgd) _) unf_c ?_;rcases hkey with⟨h1,_⟩ | ⟨_,h2,h3⟩
    ·rw[okV_no2 hgd] at h1;cases h1
    ·intro a w s;exact Done.roundPP (J:=λpre H=>H=outH ob nb n (outsV pre out)) (H:=outH ob nb n (setV C x)) Yd unf_c h2 h3 ⟨rfl,_,rfl⟩ a w s
   ·refine OL.rcallS rfl rfl rfl (.mk' rfl rfl rfl rfl rfl) (needT (by simp only[Bool.cond_false_right,Bool.cond_true_left];exact hgd) _) ?_;refine Z6 ?_;rcases hkd:kindOf (ndOf p x).op with _ | _ | kk
    ·refine oP (POp.call .k (show PCall Tryz.prog 247 [.i (ndOf p x).op] (.val .nilIface) from by have h:=kidsOf (ndOf p x).op;rw[hkd] at h;exact h)) ?_;refine Z5 ?_;refine oP (Yu) ?_;refine Z2 ?_;refine oP (Yu) ?_;refine Z5 ?_;refine CW.cond rfl (λh0=>?_) (λh0=>?_)
     ·simp at h0
     ·replace h0:=nm h0;refine Z6 ?_
      ·refine OL.rcallN rfl rfl (.mk' rfl rfl rfl rfl rfl) (needF (rfl) _) unf_c ?_;rcases hkey with⟨h1,_⟩ | ⟨_,h2,h3⟩
       ·rw[okV_no3 hkd] at h1;cases h1
       ·intro a w s;exact Done.roundPP (J:=λpre H=>H=outH ob nb n (outsV pre out)) (H:=outH ob nb n (setV C x)) Yd unf_c h2 h3 ⟨rfl,_,rfl⟩ a w s
    ·refine oP (POp.call .k (show PCall Tryz.prog 247 [.i (ndOf p x).op] (.iface 319 (.agg [])) from by have h:=kidsOf (ndOf p x).op;rw[hkd] at h;exact h)) ?_;have hok:=okV_a hpl hgd hkd;obtain⟨hx0,hx1⟩:=kind_arg hkd (Bool.and_eq_true_iff.1 hgd).1;refine Z5 ?_;refine oP (Yu) ?_;refine Z2 ?_;refine oP (Yu) ?_;refine Z5 ?_;refine CW.cond rfl (λh1=>?_) (λh1=>?_)
     ·replace h1:=nm h1;refine Z5 ?_;refine CW.dp mixed ?_;refine DP.anyC 0 7 86 rfl Yf rfl rfl Yf ?_;refine Z6 ?_;refine AD.popC rfl rfl rfl YI ?_;refine Z3 ?_;cases hbb:okV p next x C
      ·refine OL.rcallN rfl rfl (.mk' rfl rfl rfl rfl rfl) (needF YaD _) unf_c ?_;rcases hkey with⟨h1,_⟩ | ⟨_,h2,h3⟩
       ·rw[hbb] at h1;cases h1
       ·intro a w s;exact Done.roundPP (J:=λpre H=>H=outH ob nb n (outsV pre out)) (H:=outH ob nb n (setV C x)) Yd unf_c h2 h3 ⟨rfl,_,rfl⟩ a w s
      ·refine OL.rcallS rfl rfl rfl (.mk' rfl rfl rfl rfl rfl) (needT YaD _) ?_;refine Z3 ?_;exact Done.roundNP (H:=outH ob nb n (setV C x)) Yd Yap (by rw[outsV_snoc, <-hC])
     ·simp at h1
    ·refine oP (POp.call .k (show PCall Tryz.prog 247 [.i (ndOf p x).op] (.iface 317 (.i kk)) from by have h:=kidsOf (ndOf p x).op;rw[hkd] at h;exact h)) ?_;have hok:=okV_k hpl hgd hkd;refine Z5 ?_;refine oP (Yu) ?_;refine Z2 ?_;refine oP (Yu) ?_;refine Z5 ?_;refine CW.cond rfl (λh2=>?_) (λh2=>?_)
     ·replace h2:=nm h2;refine Z5 ?_;refine CW.dp mixed ?_;refine DP.anyC 0 7 86 rfl Yf rfl rfl Yf ?_;refine Z6 ?_;refine AD.popC rfl rfl rfl YI ?_;refine Z3 ?_;cases hbb:okV p next x C
      ·refine OL.rcallN rfl rfl (.mk' rfl rfl rfl rfl rfl) (needF YaD _) unf_c ?_;rcases hkey with⟨h1,_⟩ | ⟨_,h2,h3⟩
       ·rw[hbb] at h1;cases h1
       ·intro a w s;exact Done.roundPP (J:=λpre H=>H=outH ob nb n (outsV pre out)) (H:=outH ob nb n (setV C x)) Yd unf_c h2 h3 ⟨rfl,_,rfl⟩ a w s
      ·refine OL.rcallS rfl rfl rfl (.mk' rfl rfl rfl rfl rfl) (needT YaD _) ?_;refine Z3 ?_;exact Done.roundNP (H:=outH ob nb n (setV C x)) Yd Yap (by rw[outsV_snoc, <-hC])
     ·simp at h2
 ·intro D0 H1 Hs1 hfl hHn hJ;obtain rfl:=hJ;refine Done.subH (H':=.obj D0 (.deferred (some []))::(outH ob nb n (outsV (visit p next 13 (⟨k,size,1⟩:Vis) out).1 out)++H)) (.cons_cons _ (.append_left (List.sublist_append_right _ _) _)) ?_;refine Z1 ?_;refine Done.retM1 (rs:=[]) (H':=outH ob nb n (outsV (visit p next 13 (⟨k,size,1⟩:Vis) out).1 out)++H) rfl Yr (.nil) (AVleL.refl _) Yd ?_;exact⟨hfl,rfl⟩
 ·intro D0 y H1 Hs1 hfl hJp I1 v1 a1 w1 hs1 hv1;obtain⟨rfl,o1,rfl⟩:=hJp;rw[unf_c.is _ _ _ hv1];exact outM unf_c (Del.head _ _) (.append_left (List.sublist_append_right _ _) _) ⟨rfl,hfl,o1,rfl⟩ a1 w1 hs1
instance:HasMapI Tryz.prog 353 (3,23):=⟨Ya,Ya⟩
instance:HasZ Tryz.prog 23 (.slice none 0 0):=⟨Ya⟩
abbrev gphE(gb mb:Nat)(g:List (List Int))(U:AV):Ent:=.blk gb 384 [AV.intss (parsOf g),U,.val (.map (some mb))]
theorem listsC{g:List (List Int)}(hg:fineP g=true){c:Nat}(hc:c<3+g.length){O:List (List Int)}{l:List (Int×AV)}(hO:OrdsOk O)(hOl:O.length=c)(hM:OrdMap l O)(gb mb:Nat)(U:AV):
  PCallIn Tryz.prog [gphE gb mb g U,imapE mb l] 417 [.p gb 0,.i c] (.tup [AV.intss ((listsP O ((parsOf g).getD c default)).getD []),.b (listsP O ((parsOf g).getD c default)).isSome]):=by
 intro H hm;refine aC (n:=50) Tryz.func417 λB I w0=>?_;obtain⟨ps,hps⟩:∃ps,ps=((parsOf g).getD c default):=⟨_,rfl⟩;have hpo:=parsOf_ps hg c;rw[<-hps] at hpo ⊢;have hgl:=fineP_len hg;refine Z17 ?_;refine oP ((by first | exact POp.ld1 rfl rfl rfl rfl | (apply POp.ld1H rfl rfl rfl;(case hm=>exact hm _ (.head _));(case hy=>rfl)))) ?_;refine Z1 ?_;refine oP (YS) ?_;refine Z6 ?_;rw[show (parsOf g).getD c default=ps from hps.symm];have hp3:=hpo.1;refine CW.ownNil 6 23 1 rfl ?_;refine lj (λm st=>∃(i:Nat) (v:Value),st=⟨[(17,.i i),(16,.i ps.length),(15,AV.ints ps),(0,.p gb 0),(1,.i c),(6,.as (AV.intss ((ps.take i).map (λp=>bareL (O.getD p.toNat [])))) v)],.own 23 1 v::H⟩/\m=ps.length - i/\i<=ps.length/\∀p∈ps.take i,O.getD p.toNat []≠ []) (⟨0,_,rfl,rfl,Yb,Yn⟩) ?_;rintro m _ ⟨i,v,rfl,rfl,hi,hne⟩;refine Z6 ?_;refine cd (λh0=>?_) λh0=>?_
 ·have hil:i<ps.length:=by omega
  obtain⟨p,hp⟩:∃p,p=ps.getD i default:=⟨_,rfl⟩;have hpm:p∈ps:=hp▸getD_memB hil;have hpr:=hpo.2 p hpm;have hol:=hO.len p.toNat;refine Z13 ?_;rw[<-hp];refine Z4 ?_;refine oP (YF) ?_;refine Z1 ?_;refine oP (POp.lookupI rfl rfl rfl rfl rfl (.tail _ (hm _ (.tail _ (.head _)))) hM.ok Y6) ?_;refine OL.le 26 (y:=AV.ints (O.getD p.toNat [])) rfl (hM.look p Yb) ?_;refine Z4 ?_;refine cd (λh1=>?_) λh1=>?_
  ·have he:O.getD p.toNat []= []:=List.eq_nil_of_length_eq_zero Yb;refine Z13 ?_;refine Done.retR (rs:=[.tmp 4,.tmp 5]) (H':=H) rfl (.tmp rfl (.tmp rfl (.nil))) (.cons (AVle.nil 1) (.cons (.refl _) .nil)) Yd ?_;exact⟨by rw[lists_none hpm he];rfl,rfl⟩
  ·have he:O.getD p.toNat []≠ []:=λe=>by rw[e] at h1;simp at h1
   refine Z7 ?_;refine oP (YF) ?_;refine Z1 ?_;refine oP (POp.lookupI rfl rfl rfl rfl rfl (.tail _ (hm _ (.tail _ (.head _)))) hM.ok Y6) ?_;refine OL.le 35 (y:=AV.ints (O.getD p.toNat [])) rfl (hM.look p Yb) ?_;refine oP (POp.call .k (bareC _ Yb)) ?_;refine OL.popC (x:=.sl 1 [[AV.ints (bareL (O.getD p.toNat []))]]) rfl rfl rfl (POp.row rfl rfl Yj rfl rfl rfl rfl rfl rfl) ?_;refine OL.appendC rfl rfl rfl rfl rfl rfl rfl rfl (AVle.refl _) (rfl) (λv=>by repeat (first | exact Upd.head _ _ _ | apply Upd.tail)) Yg Yg (λv38=>?_);refine Z8 ?_;exact ag (⟨i+1,v38,by rw[intss_snocF (λp=>bareL (O.getD p.toNat [])) ps hil, <-hp],rfl,hil,λq hq=>by rw[<-take_getD hil,List.mem_append,List.mem_singleton, <-hp] at hq;rcases hq with hq | rfl;exact hne q hq;exact he⟩)
 ·obtain rfl:i=ps.length:=by omega
  rw[List.take_length] at hne ⊢;refine Z11 ?_;refine oP (YF) ?_;refine Z1 ?_;refine oP (YS) ?_;refine Z1 ?_;refine OL.popC (x:=.sl 1 [[AV.ints ((parsOf g).getD c default)]]) rfl rfl rfl (POp.row rfl rfl Yj rfl rfl rfl rfl rfl rfl) ?_;refine OL.appendC rfl rfl rfl rfl rfl rfl rfl rfl (AVle.refl _) (rfl) (λv=>by repeat (first | exact Upd.head _ _ _ | apply Upd.tail)) Yg Yg (λv49=>?_);refine Z5 ?_;refine Done.retR (rs:=[.tmp 4,.tmp 5]) (H':=H) rfl (.tmp rfl (.tmp rfl (.nil))) (.cons (AVle.asL _ _) (.cons (.refl _) .nil)) Yd ?_;exact⟨by rw[lists_some hne, <-hps];show _=AV.tup [AV.sl 1 (List.map _ (_++_)),_];rw[List.map_append];rfl,rfl⟩
theorem orderC{g:List (List Int)}(hg:fineP g=true){O:List (List Int)}(hc:O.length<3+g.length){l:List (Int×AV)}(hO:OrdsOk O)(hM:OrdMap l O)(gb mb:Nat)(U:AV)(H:List Ent):
  ACall Tryz.prog 368 [.p gb 0,.i O.length] (gphE gb mb g U::imapE mb l::H) (λ_ H'=>∃l',OrdMap l' (O++[orderP O O.length ((parsOf g).getD O.length default)])/\H'=gphE gb mb g U::imapE mb l'::H) (λ_ _=>False):=by
 refine aC (n:=40) Tryz.func368 λB I w0=>?_;have hgl:=fineP_len hg;have hpo:=parsOf_ps hg O.length;have hol:=(orderP_ok hO hpo).len;refine Z7 ?_;refine cd (λh0=>?_) λh0=>?_
 ·have h0:O.length=0:=by omega
  refine Z6 ?_;refine oP (POp.row rfl rfl Yj rfl rfl rfl rfl rfl rfl) ?_;refine OL.mapPut (u':=AV.ints [0]) rfl rfl (.inl rfl) rfl rfl rfl rfl rfl rfl (AVle.refl _) (.tail _ _ _ _ _ (.head _ _ _)) hM.ok Y6 ?_;refine Z4 ?_;refine rR [] (gphE gb mb g U::imapE mb (putI l 0 (AV.ints [0]))::H) ?_;exact⟨_,by rw[order_zero h0];have:=hM.put (x:=[0]) Yn Yb;rwa [h0] at this,rfl⟩
 ·have h0:O.length≠0:=by omega
  refine Z3 ?_;rcases hl:listsP O ((parsOf g).getD O.length default) with _ | all
  ·refine Z3 ?_;refine oP (POp.callIn .k (AVleL.refl _) (by have h:=listsC hg hc hO rfl hM gb mb U;rw[hl] at h;exact h) mem_two) ?_;refine Z14 ?_;refine CW.cond rfl (λh1=>?_) (λh1=>?_)
   ·replace h1:=nm h1;refine Z2 ?_;refine rR [] (gphE gb mb g U::imapE mb l::H) ?_;exact⟨l,by rw[order_none h0 hl];exact hM.skip,rfl⟩
   ·simp at h1
  ·obtain⟨ht1,ht2⟩:=lists_total hO hpo.1 hl;refine Z3 ?_;refine oP (POp.callIn .k (AVleL.refl _) (by have h:=listsC hg hc hO rfl hM gb mb U;rw[hl] at h;exact h) mem_two) ?_;refine Z14 ?_;refine CW.cond rfl (λh2=>?_) (λh2=>?_)
   ·simp at h2
   ·replace h2:=nm h2;refine Z5 ?_;refine oP (POp.call .k (mergeC all Yb Yb)) ?_;refine Z12 ?_;refine cd (λh3=>?_) λh3=>?_
    ·have h3:(mergeP all).2=true:=h3;rw[order_yes h0 hl h3] at hol;simp only[List.length_cons,List.length_append,List.length_nil] at hol;refine CW.dp mixed ?_;refine DP.anyK (X:=noX) [⟨6,35,false⟩,⟨8,37,false⟩,⟨10,39,false⟩] (λJ=>match J with | [some v,none,none]=>.own 3 1 v::gphE gb mb g U::imapE mb l::H | [_,some v,none]=>.own 3 1 v::gphE gb mb g U::imapE mb l::H | [_,_,some v]=>.own 3 1 v::gphE gb mb g U::imapE mb l::H | _=>gphE gb mb g U::imapE mb l::H) (λq J=>match q,J with | 0,[some v,_,_]=>.as (.sl 1 [[AV.i (O.length:Int)]]) v | 1,[_,some v,_]=>.as (.sl 1 ([[AV.i (O.length:Int)]]++((mergeP all).1.map λn=>[AV.i n]))) v | 2,[_,_,some v]=>.as (.sl 1 ([[AV.i (O.length:Int)]]++((mergeP all).1.map λn=>[AV.i n])++[[.i 0]])) v | _,_=>.any) 0 11 40 rfl Yf Yf rfl rfl Yf rfl (λ_ _ _ _ _ _ _ _ _ h=>h.elim) ?_;refine UD.popK [[true,true,true],[true,true,false],[true,false,false],[false,false,false]] rfl Yf rfl rfl rfl ⟨λf=>POp.move rfl rfl rfl,λf=>POp.move rfl rfl rfl,λf=>POp.move rfl rfl rfl,λf=>POp.move rfl rfl rfl,trivial⟩ ?_;refine UD.popK [[true,true,true],[true,true,false],[true,false,false],[false,false,false]] rfl Yf rfl rfl rfl ⟨λf=>Yw,λf=>Yw,λf=>Yw,λf=>Yw,trivial⟩ ?_;refine UD.popK [[true,true,true],[true,true,false],[true,false,false],[false,false,false]] rfl Yf rfl rfl rfl ⟨λf=>YJ,λf=>YJ,λf=>YJ,λf=>YJ,trivial⟩ ?_;refine UD.popK [[true,true,true],[true,true,false],[true,false,false],[false,false,false]] rfl Yf rfl rfl rfl ⟨λf=>Yq,λf=>Yq,λf=>Yq,λf=>Yq,trivial⟩ ?_;refine UD.popK [[true,true,true],[true,true,false],[true,false,false],[false,false,false]] rfl Yf rfl rfl rfl ⟨λf=>POp.move rfl rfl rfl,λf=>POp.move rfl rfl rfl,λf=>POp.move rfl rfl rfl,λf=>POp.move rfl rfl rfl,trivial⟩ ?_;refine UD.popK [[false,false,false]] rfl Yf rfl rfl rfl ⟨λf=>POp.move rfl rfl rfl,trivial⟩ ?_;refine UD.effK 0 [[false,false,false]] rfl rfl rfl Yf rfl rfl rfl ⟨λf=>⟨KOk.rowOwn rfl rfl rfl rfl rfl rfl rfl rfl rfl (λ_=>rfl) (λ_=>rfl),YM⟩,trivial⟩ ?_;refine UD.popK [[true,false,false],[false,false,false]] rfl Yf rfl rfl rfl ⟨λf=>POp.move rfl rfl rfl,λf=>POp.move rfl rfl rfl,trivial⟩ ?_;refine UD.effK 1 [[true,false,false]] rfl rfl rfl Yf rfl rfl rfl ⟨λf=>⟨KOk.own rfl rfl rfl (AVle.refl _) rfl rfl (AVle.refl _) (one_ints _) YB YB (λ_=>.head _ _ _) (λ_=>rfl),YM⟩,trivial⟩ ?_;refine UD.popK [[true,true,false],[true,false,false],[false,false,false]] rfl Yf rfl rfl rfl ⟨λf=>POp.row rfl rfl Yj rfl rfl rfl rfl rfl rfl,λf=>POp.row rfl rfl Yj rfl rfl rfl rfl rfl rfl,λf=>POp.row rfl rfl Yj rfl rfl rfl rfl rfl rfl,trivial⟩ ?_;refine UD.effK 2 [[true,true,false]] rfl rfl rfl Yf rfl rfl rfl ⟨λf=>⟨KOk.own (news:=[[.i 0]]) rfl rfl rfl (AVle.refl _) rfl rfl (AVle.refl _) rfl YB YB (λ_=>.head _ _ _) (λ_=>rfl),YM⟩,trivial⟩ ?_;refine UD.nil (λf=>?_);simp only[kvals,List.map_cons,List.map_nil,List.cons_append,List.nil_append];refine Z1 ?_;refine OL.le 39 (y:=AV.ints ((O.length:Int)::((mergeP all).1++[0]))) rfl (by rw[ord_cells];exact AVle.asL _ _) ?_;refine OL.mapPut rfl rfl (.inl rfl) rfl rfl rfl rfl rfl rfl (AVle.refl _) (.tail _ _ _ _ _ (.tail _ _ _ _ _ (.head _ _ _))) hM.ok Y6 ?_;refine Z1 ?_;refine nR [] (gphE gb mb g U::imapE mb (putI l O.length (AV.ints ((O.length:Int)::((mergeP all).1++[0]))))::H) ?_;exact⟨_,by rw[order_yes h0 hl h3];exact hM.put Yn Yb,rfl⟩
    ·have h3:(mergeP all).2=false:=h3;refine Z1 ?_;refine nR [] (gphE gb mb g U::imapE mb l::H) ?_;exact⟨l,by rw[order_no h0 hl h3];exact hM.skip,rfl⟩
instance:HasMk Tryz.prog 60 (23,24,.slice none 0 0):=⟨Ya⟩
theorem openT{g:List (List Int)}(hg:fineP g=true){cs:List Int}(hcs:∀c∈cs,0<=c/\c<3+g.length)(hcl:cs.length<=1000000)(H:List Ent):ACall Tryz.prog 304 [AV.intss g,AV.ints cs] H
  (λy H'=>∃gb mb l U,y= .tup [.p gb 0,.b true]/\OrdMap l (ordersP g)/\H'=gphE gb mb g U::imapE mb l::H) (λ_ _=>False):=by
 refine aC (n:=104) Tryz.func304 λB I w0=>?_;have hgl:=fineP_len hg;refine Z10 ?_;refine oP (POp.call .k (fine g)) ?_;refine Z3 ?_;refine CW.cond rfl (λh0=>?_) (λh0=>?_)
 ·simp[hg] at h0
 ·replace h0:=nm h0;refine Z11 ?_;refine lj (λm st=>∃i:Nat,st=⟨[(20,.i i),(19,.i cs.length),(18,AV.ints cs),(0,AV.intss g)],H⟩/\m=cs.length - i/\i<=cs.length) (⟨0,rfl,rfl,Yb⟩) ?_;rintro m _ ⟨i,rfl,rfl,hi⟩;refine Z6 ?_;refine cd (λh1=>?_) λh1=>?_
  ·have hil:i<cs.length:=by omega
   have hc:=hcs _ (getD_memB hil);refine Z24 ?_;refine CW.cond rfl (λh2=>?_) (λh2=>?_)
   ·rw[Bool.cond_true_left] at h2;simp only[Bool.or_eq_true,decide_eq_true_eq] at h2;omega
   ·replace h2:=nm h2;refine Z7 ?_;exact ag (⟨i+1,rfl,rfl,hil⟩)
  ·refine Z10 ?_;refine OL.mkSlL 3 (3+g.length) rfl rfl rfl rfl rfl rfl rfl rfl rfl Yn Yb Yb Yy (λpb=>?_);refine OL.mkMap rfl rfl rfl rfl (λmb=>?_);refine Z1 ?_;refine OL.boxC rfl rfl rfl rfl rfl rfl rfl (λgb=>?_);refine Z11 ?_;refine OL.appendRoomX (news:=gRows g) rfl rfl rfl rfl rfl rfl rfl rfl (AVle.refl _) YP (one_intss g) (by rw[gRows_flat,List.length_replicate];omega) (.tail _ _ _ _ _ (.tail _ _ _ _ _ (.head _ _ _))) ?_;refine OL.eqH (H':=.blk gb 384 [.val (.slice (some ⟨pb,0,none⟩) 3 (3+g.length)),.val (.slice none 0 0),.val (.map (some mb))]::imapE mb []::.blk pb 23 ((nilRows++gRows g).flatten++[])::H) (by rw[<-rows_cells g _ rfl];rfl) ?_;refine OL.freezeS (k:=1) (d:=47) rfl (.tail _ _ _ _ (.tail _ _ _ _ (.head _ _))) YB (λe he=>?_) YP Yy ?_
   ·rcases List.mem_append.1 he with h | h
    ·simp at h;rw[h];rfl
    ·obtain⟨y,_,rfl⟩:=List.mem_map.1 h;rfl
   refine OL.le 47 (y:=AV.intss (parsOf g)) rfl (rows_le g) ?_;refine Z17 ?_;refine CW.ownNilB (b:=gb) (t:=384) 422 1 1 Yam rfl rfl ?_;refine CW.le 54 (y:=.i ((3+g.length:Nat):Int)) rfl (AVle.eqI (by rw[parsOf_len])) ?_;refine lj (λm st=>∃(i:Nat) (us:List Nat) (v:Value),st=⟨[(55,.i i),(54,.i ((3+g.length:Nat):Int)),(53,AV.intss (parsOf g)),(8,.p gb 0)],.own 422 1 v::gphE gb mb g (.as (AV.sets us) v)::imapE mb []::H⟩/\m=(3+g.length) - i/\i<=(3+g.length)/\us.length=i/\∀x∈us,x<18446744073709551616) (⟨0,[],_,rfl,rfl,Yb,rfl,Yn⟩) ?_;rintro m _ ⟨i,us,v,rfl,rfl,hi,hus,hu64⟩;refine Z6 ?_;refine cd (λh3=>?_) λh3=>?_
   ·have hil:i<3+g.length:=by omega
    obtain⟨ps,hps⟩:∃ps,ps=(parsOf g).getD i default:=⟨_,rfl⟩;have hpo:=parsOf_ps hg i;rw[<-hps] at hpo;have hp3:=hpo.1;refine Z7 ?_;refine oP ((by first | exact POp.ixM rfl rfl rfl rfl rfl (by rw[parsOf_len];exact hil) | exact POp.ixI rfl rfl rfl rfl rfl (by rw[parsOf_len];exact hil))) ?_;refine Z6 ?_;rw[<-hps];refine Z3 ?_;refine oP (POp.call .k (lsWith 0 i Yb Yb)) ?_;refine oP (POp.call .k (lsWith _ 0 Yb (or64 Yb (pow64 Yb)))) ?_;refine OL.alC rfl rfl rfl rfl (λsb=>?_);refine Z12 ?_;obtain⟨s0,hs0⟩:∃s0,s0=0 ||| 2^(i:Int).toNat ||| 2^(0:Int).toNat:=⟨_,rfl⟩
    have hs64:s0<18446744073709551616:=hs0▸or64 (or64 Yb (pow64 Yb)) (by decide);refine lj (λm st=>∃(j s:Nat),st=⟨[(66,.i j),(65,.i ps.length),(64,AV.ints ps),(11,.p sb 0),(55,.i i),(54,.i ((3+g.length:Nat):Int)),(53,AV.intss (parsOf g)),(8,.p gb 0)],.blk sb 422 [AV.set s]::.own 422 1 v::gphE gb mb g (.as (AV.sets us) v)::imapE mb []::H⟩/\m=ps.length - j/\j<=ps.length/\s<18446744073709551616) (⟨0,s0,by rw[hs0],rfl,Yb,hs64⟩) ?_;rintro m _ ⟨j,s,rfl,rfl,hj,hs⟩;refine Z6 ?_;refine cd (λh4=>?_) λh4=>?_
    ·have hjl:j<ps.length:=by omega
     have hpm:=hpo.2 _ (getD_memB hjl);refine Z11 ?_;refine CW.dp mixed ?_;refine DP.anyC 0 8 104 rfl Yf rfl rfl Yf ?_;refine Z6 ?_;refine AD.popC rfl rfl rfl (POp.leC 74 rfl (AVle.asL _ _) (POp.ixI rfl rfl rfl rfl rfl Yb)) ?_;refine Z3 ?_;refine oP (POp.call .k (lsOr s _ hs (lt_get hu64 _))) ?_;refine Z8 ?_;exact ag (⟨j+1,s ||| us.getD (ps.getD j default).toNat default,rfl,rfl,hjl,or64 hs (lt_get hu64 _)⟩)
    ·refine Z5 ?_;refine CW.dp mixed ?_;refine DP.anyK (X:=noX) [⟨7,87,false⟩] (λJ=>match J with | [some v2]=>.blk sb 422 [AV.set s]::.own 422 1 v2::gphE gb mb g (.as (AV.sets us) v)::imapE mb []::H | _=>.blk sb 422 [AV.set s]::.own 422 1 v::gphE gb mb g (.as (AV.sets us) v)::imapE mb []::H) (λq J=>match q,J with | 0,[some v2]=>.as (.sl 1 ((us.map λs=>[AV.set s])++[[AV.set s]])) v2 | _,_=>.any) 0 8 104 rfl Yf Yf rfl rfl Yf rfl (λ_ _ _ _ _ _ _ _ _ h=>h.elim) ?_;refine UD.popK [[true],[false]] rfl Yf rfl rfl rfl ⟨λf=>POp.move rfl rfl rfl,λf=>POp.move rfl rfl rfl,trivial⟩ ?_;refine UD.popK [[false]] rfl Yf rfl rfl rfl ⟨λf=>POp.move rfl rfl rfl,trivial⟩ ?_;refine UD.popK [[false]] rfl Yf rfl rfl rfl ⟨λf=>Yw,trivial⟩ ?_;refine UD.popK [[false]] rfl Yf rfl rfl rfl ⟨λf=>YJ,trivial⟩ ?_;refine UD.popK [[false]] rfl Yf rfl rfl rfl ⟨λf=>Yq,trivial⟩ ?_;refine UD.popK [[false]] rfl Yf rfl rfl rfl ⟨λf=>(by first | exact POp.ldA rfl rfl rfl rfl | (apply POp.ldAH rfl rfl rfl;(case hm=>repeat (first | exact .head _ | refine .tail _ ?_));(case hy=>rfl);(case hn=>rfl))),trivial⟩ ?_;refine UD.popK [[false]] rfl Yf rfl rfl rfl ⟨λf=>POp.row rfl rfl Yj rfl rfl rfl rfl rfl rfl,trivial⟩ ?_;refine UD.effK 0 [[false]] rfl rfl rfl Yf rfl rfl rfl ⟨λf=>⟨KOk.own (news:=[[AV.set s]]) rfl rfl rfl (AVle.refl _) rfl rfl (AVle.refl _) rfl YB YB (λ_=>.tail _ _ _ _ _ (.head _ _ _)) (λ_=>rfl),YM⟩,trivial⟩ ?_;refine UD.nil (λf=>?_);simp only[kvals,List.map_cons,List.map_nil,List.cons_append,List.nil_append];refine Z11 ?_;rw[sets_snoc];exact ag ⟨i+1,us++[s],f 87,rfl,rfl,hil,by rw[List.length_append,hus];rfl,λx hx=>by rcases List.mem_append.1 hx with h | h;exact hu64 x h;simp at h;rw[h];exact hs⟩
   ·refine Z17 ?_;refine CW.subH (H':=gphE gb mb g (.as (AV.sets us) v)::imapE mb []::H) (.cons _ (.refl _)) ?_;obtain⟨U,hU⟩:∃U:AV,U= .as (AV.sets us) v:=⟨_,rfl⟩;rw[<-hU];refine CW.le 95 (y:=.i ((3+g.length:Nat):Int)) rfl (AVle.eqI (by rw[parsOf_len])) ?_;refine lj (λm st=>∃(i:Nat) (l:List (Int×AV)),st=⟨[(96,.i i),(95,.i ((3+g.length:Nat):Int)),(8,.p gb 0)],gphE gb mb g U::imapE mb l::H⟩/\m=(3+g.length) - i/\i<=(3+g.length)/\OrdMap l (ordT g i)) (⟨0,[],rfl,rfl,Yb,.nil⟩) ?_;rintro m _ ⟨i,l,rfl,rfl,hi,hM⟩;refine Z6 ?_;refine cd (λh5=>?_) λh5=>?_
    ·have hil:i<3+g.length:=by omega
     refine Z13 ?_;refine bC .k (by have h:=orderC hg (O:=ordT g i) (by rw[ordT_len Yb];exact hil) (ordT_ok hg i Yb) hM gb mb U H;rw[ordT_len Yb] at h;exact h.b) ?_
     ·rintro y H1 ⟨l',hM',rfl⟩;rw[<-ordT_succ' hil] at hM';refine Z7 ?_;exact ag (⟨i+1,l',rfl,rfl,hil,hM'⟩)
    ·obtain rfl:i=3+g.length:=by omega
     rw[ordT_all] at hM;refine Z13 ?_;refine rR [.tmp 4,.tmp 5] (gphE gb mb g U::imapE mb l::H) ?_;exact⟨gb,mb,l,U,Ye,hM,rfl⟩
theorem linT{g:List (List Int)}(hg:fineP g=true){c:Int}(hc:0<=c/\c<3+g.length):PCall Tryz.prog 254 [AV.intss g,.i c] (.tup [AV.ints (linP g c),.i (if(linP g c).isEmpty then 7 else 0)]):=by
 intro H;refine aC (n:=32) Tryz.func254 λB I w0=>?_;have hgl:=fineP_len hg;have hll:(linP g c).length<=1000:=by
  have h1:=(ordT_ok hg (3+g.length) (Nat.le_refl _)).len c.toNat;rw[ordT_len (Nat.le_refl _),ordT_all] at h1;show ((ordersP g).getD c.toNat []).length<=1000;omega
 refine Z10 ?_;refine oP (POp.row rfl rfl Yj rfl rfl rfl rfl rfl rfl) ?_;refine bC .k ((openT hg (cs:=[c]) (λx hx=>by simp at hx;rw[hx];exact hc) Yn H).b) ?_
 ·rintro _ _ ⟨gb,mb,l,U,rfl,hM,rfl⟩;refine Z14 ?_;refine CW.cond rfl (λh0=>?_) (λh0=>?_)
  ·simp at h0
  ·replace h0:=nm h0;refine Z10 ?_;refine oP (POp.lookupI rfl rfl rfl rfl rfl (.tail _ (.head _)) hM.ok Y6) ?_;refine OL.le 22 (y:=AV.ints (linP g c)) rfl (hM.look c Yb) ?_;refine Z4 ?_;refine cd (λh1=>?_) λh1=>?_
   ·have he:linP g c= []:=List.eq_nil_of_length_eq_zero Yb;refine Z8 ?_;refine Done.retR (rs:=[.tmp 4,.tmp 5]) (H':=H) rfl (.tmp rfl (.tmp rfl (.nil))) (.cons (AVle.nil 1) (.cons (.refl _) .nil)) Yd ?_;exact⟨by rw[he];rfl,rfl⟩
   ·have he:linP g c≠ []:=λe=>by rw[e] at h1;simp at h1
    refine Z9 ?_;refine oP (POp.lookupI rfl rfl rfl rfl rfl (.tail _ (.head _)) hM.ok Y6) ?_;refine OL.le 30 (y:=AV.ints (linP g c)) rfl (hM.look c Yb) ?_;refine oP (POp.call .k (cloneI _ Yb)) ?_;refine Z5 ?_;refine rR [.tmp 4,.tmp 5] (H) ?_;exact⟨by cases hl:linP g c with
 | nil=>exact absurd hl he
 | cons a r=>rfl,rfl⟩
end Go.Proofs.YtogjaoodkaahoaaGreat

namespace Go.Eng.Fc
variable{α:Type}{W:FW}{f:Fact}{l:List Fact}{o:List Bool}{i:Nat}{kd:Int}
theorem bif_or(a b:Bool):(bif a then true else b)=(a || b):=by cases a <;> rfl
theorem getD_lt[Inhabited α]{l:List α}{j:Nat}(h:j<l.length):l.getD j default=l[j]:=by rw[List.getD_eq_getElem?_getD,List.getElem?_eq_getElem h];rfl
theorem world_len(h:worldP W=true):W.parents.length<=60:=by simp[worldP] at h;exact h.1.1.1
theorem getD_mem[Inhabited α]{l:List α}{k:Nat}(h:k<l.length):l.getD k default∈l:=by rw[getD_lt h];exact List.getElem_mem h
mutual
def nodesN:Fact->Nat
 | .mk _ _ _ _ _ kids=>1+nodesNs kids
def nodesNs:List Fact->Nat
 | []=>0
 | f::r=>nodesN f+nodesNs r
end
theorem nodesN_eq(f:Fact):nodesN f=1+nodesNs f.kids:=by cases f;rw[nodesN];rfl
def nodeOkB(W:FW)(f:Fact):Bool:=decide (1<=f.op) && decide (f.op<=7) && ((f.kids.length:Int)==kidsP f.op) && (if leafP f then argP W f && leafOkP W f else plainP f)
mutual
def wfB(W:FW):Fact->Bool
 | .mk op arg path cls n kids=>nodeOkB W (.mk op arg path cls n kids) && wfBs W kids
def wfBs(W:FW):List Fact->Bool
 | []=>true
 | f::r=>wfB W f && wfBs W r
end
theorem wfBs_mem{W:FW}:∀{l:List Fact},wfBs W l=true↔∀k∈l,wfB W k=true
 | []=>by simp[wfBs]
 | x::r=>by simp[wfBs,wfBs_mem (l:=r)]
theorem wfB_iff:wfB W f=true↔nodeOkB W f=true/\∀k∈f.kids,wfB W k=true:=by
 cases f;rw[wfB,Bool.and_eq_true,wfBs_mem];rfl
theorem leaf_kids(h:nodeOkB W f=true)(hl:leafP f=true):f.kids= []:=by
 simp only[nodeOkB,leafP,Bool.and_eq_true,decide_eq_true_eq,beq_iff_eq] at h hl;have:kidsP f.op=0:=by rw[kidsP,if_neg Yb,if_neg Yb]
 rw[this] at h;exact List.eq_nil_of_length_eq_zero Yb
mutual
theorem node_wf(W:FW):∀(f:Fact) (left deep:Int),(nodeP W f left deep).1=true->wfB W f=true/\(nodeP W f left deep).2=left - nodesN f
 | .mk op arg path cls n kids,left,deep,h=>by
  rw[nodeP] at h ⊢;rw[wfB,nodesN];by_cases h1:badP (.mk op arg path cls n kids) (left - 1) deep=true
  ·rw[if_pos h1] at h;cases h
  ·rw[if_neg h1] at h ⊢;have hk:nodeOkB W (.mk op arg path cls n kids)=(if leafP (.mk op arg path cls n kids) then argP W (.mk op arg path cls n kids) && leafOkP W (.mk op arg path cls n kids) else plainP (.mk op arg path cls n kids)):=by
    simp only[badP,Bool.not_eq_true,Bool.or_eq_false_iff,decide_eq_false_iff_not,bne_eq_false_iff_eq] at h1;rw[nodeOkB];rw[show (decide (1<=(Fact.mk op arg path cls n kids).op) && decide ((Fact.mk op arg path cls n kids).op<=7) && (((Fact.mk op arg path cls n kids).kids.length:Int)==kidsP (Fact.mk op arg path cls n kids).op))=true by
     simp only[Bool.and_eq_true,decide_eq_true_eq,beq_iff_eq];exact⟨⟨Yb,Yb⟩,h1.2⟩]
    rfl
   by_cases h2:leafP (.mk op arg path cls n kids)=true
   ·rw[if_pos h2] at h ⊢;rw[if_pos h2] at hk;have h':(argP W (.mk op arg path cls n kids) && leafOkP W (.mk op arg path cls n kids))=true:=h;have hn:nodeOkB W (.mk op arg path cls n kids)=true:=hk.trans h';have hkk:kids= []:=leaf_kids hn h2;subst hkk;refine⟨YaH,by simp[nodesNs]⟩
   ·rw[if_neg h2] at h ⊢;rw[if_neg h2] at hk;by_cases h3:plainP (.mk op arg path cls n kids)=true
    ·rw[if_pos h3] at h ⊢;have:=nodes_wf W kids (left - 1) (deep - 1) h;refine⟨by rw[hk,h3,this.1];rfl,by rw[this.2];omega⟩
    ·rw[if_neg h3] at h;cases h
theorem nodes_wf(W:FW):∀(l:List Fact) (left deep:Int),(nodesP W l left deep).1=true->wfBs W l=true/\(nodesP W l left deep).2=left - nodesNs l
 | [],left,deep,h=>by rw[nodesP,wfBs,nodesNs];simp
 | k::r,left,deep,h=>by
  rw[nodesP] at h ⊢;rw[wfBs,nodesNs];by_cases h1:(nodeP W k left deep).1=true
  ·rw[if_pos h1] at h ⊢;have a:=node_wf W k left deep h1;have b:=nodes_wf W r _ deep h;exact⟨by rw[a.1,b.1];rfl,by rw[b.2,a.2];omega⟩
  ·rw[if_neg h1] at h;exact absurd h h1
end
theorem formed_wf(h:formedP W f=true):wfB W f=true/\nodesN f<=24:=by
 have h1:=node_wf W f 24 12 h;have h2:=(nodeP_left W f 24 12).2 h;exact⟨h1.1,Yb⟩
def belowP(W:FW)(a b:Int):Bool:=((upsP W).getD a.toNat 0).testBit b.toNat
theorem nodesNs_take{j:Nat}(h:j<l.length):nodesNs (l.take (j+1))=nodesNs (l.take j)+nodesN (l.getD j default):=by
 induction l generalizing j with
 | nil=>simp at h
 | cons x r ih=>
  cases j with
  | zero=>simp[nodesNs]
  | succ j=>
   rw[List.take_succ_cons,List.take_succ_cons,nodesNs,nodesNs,ih YN];simp only[List.getD_cons_succ];omega
theorem nodesNs_le(j:Nat):nodesNs (l.take j)<=nodesNs l:=by
 induction l generalizing j with
 | nil=>simp[nodesNs]
 | cons x r ih=>
  cases j with
  | zero=>simp[nodesNs]
  | succ j=>rw[List.take_succ_cons,nodesNs,nodesNs];have:=ih j;omega
def upB(W:FW)(c b:Nat):Bool:=((upsP W).getD c 0).testBit b
theorem fold_bit(U:List Nat)(b:Nat):∀(l:List Int) (s:Nat),(l.foldl (λs (p:Int)=>s ||| U.getD p.toNat 0) s).testBit b=(s.testBit b || l.any λp=>(U.getD p.toNat 0).testBit b)
 | [],s=>by simp
 | p::r,s=>by rw[List.foldl_cons,fold_bit U b r,Nat.testBit_or,List.any_cons,Bool.or_assoc]
theorem upFold_bit(U:List Nat)(i:Nat)(l:List Int)(b:Nat):(upFold U i l).testBit b=(b==0 || b==3+i || l.any λp=>(U.getD p.toNat 0).testBit b):=by
 rw[upFold,fold_bit,Nat.testBit_or,Nat.testBit_two_pow];congr 2
 ·rcases b with _ | b
  ·rfl
  ·rw[Nat.testBit_succ];simp
 ·rw[Bool.eq_iff_iff,decide_eq_true_iff,beq_iff_eq];exact eq_comm
theorem getD_setL(l:List α)(i j:Nat)(x y:α):(l.set i x).getD j y=if i=j/\i<l.length then x else l.getD j y:=by
 simp only[List.getD_eq_getElem?_getD,List.getElem?_set];by_cases h:i=j
 ·by_cases h2:j<l.length
  ·simp[h,h2]
  ·simp[h,h2]
 ·simp[h]
theorem ups_low:∀(l:List (List Int)) (i:Nat) (U:List Nat) (j:Nat),j<3+i->(upsFrom l i U).getD j 0=U.getD j 0
 | [],i,U,j,h=>by rw[upsFrom]
 | x::r,i,U,j,h=>by
  rw[upsFrom,ups_low r (i+1) _ j Yb,getD_setL,if_neg Yb]
theorem parents_lt(i:Nat):∀(l seen:List Int),parentsP i seen l=true->∀p∈l,3<=p/\p<3+i
 | [],_,_,p,hp=>by cases hp
 | x::r,seen,h,p,hp=>by
  rw[parentsP,Bool.and_eq_true,Bool.not_eq_true'] at h;rcases List.mem_cons.1 hp with rfl | hp
  ·have:=h.1;simp only[Bool.or_eq_false_iff,decide_eq_false_iff_not] at this;omega
  ·exact parents_lt i r _ h.2 p hp
theorem parentss_at:∀(l:List (List Int)) (i k:Nat),parentssP i l=true->k<l.length->parentsP (i+k) [] (l.getD k default)=true
 | [],i,k,_,hk=>by simp at hk
 | x::r,i,0,h,_=>by rw[parentssP,Bool.and_eq_true] at h;exact h.1
 | x::r,i,k+1,h,hk=>by
  rw[parentssP,Bool.and_eq_true] at h;have:=parentss_at r (i+1) k h.2 (by simpa using hk);rw[show i+(k+1)=i+1+k from by omega];exact this
theorem world_pars(h:worldP W=true):parentssP 0 W.parents=true:=by simp only[worldP,Bool.and_eq_true] at h;exact h.1.2
theorem pars_lt(h:worldP W=true){i:Nat}(hi:i<W.parents.length):∀p∈W.parents.getD i default,3<=p/\p<3+i:=by
 have:=parentss_at W.parents 0 i (world_pars h) hi;rw[Nat.zero_add] at this;exact parents_lt i _ _ this
theorem any_congr_mem{l:List α}{p q:α->Bool}(h:∀x∈l,p x=q x):l.any p=l.any q:=by
 induction l with
 | nil=>rfl
 | cons x r ih=>rw[List.any_cons,List.any_cons,h x (.head _),ih λy hy=>h y (.tail _ hy)]
theorem ups_at:∀(l:List (List Int)) (i:Nat) (U:List Nat) (k:Nat),3+i+l.length<=U.length->parentssP i l=true->k<l.length->∀b,((upsFrom l i U).getD (3+(i+k)) 0).testBit b=(b==0 || b==3+(i+k) || (l.getD k default).any λp=>((upsFrom l i U).getD p.toNat 0).testBit b)
 | [],i,U,k,hl,_,hk,b=>by simp at hk
 | x::r,i,U,0,hl,h,hk,b=>by
  rw[parentssP,Bool.and_eq_true] at h;rw[upsFrom,ups_low r (i+1) _ _ Yb,getD_setL,if_pos ⟨Yb,by simp at hl;omega⟩,upFold_bit];show _=(b==0 || b==3+(i+0) || x.any _);rw[Nat.add_zero];congr 1;refine any_congr_mem λp hp=>?_;have:=parents_lt i x [] h.1 p hp;rw[ups_low r (i+1) _ _ Yb,getD_setL,if_neg Yb]
 | x::r,i,U,k+1,hl,h,hk,b=>by
  rw[parentssP,Bool.and_eq_true] at h;have:=ups_at r (i+1) (U.set (3+i) (upFold U i x)) k (by simp at hl ⊢;omega) h.2 (by simpa using hk) b;rw[upsFrom,show i+(k+1)=i+1+k from by omega];exact this
theorem upB_own(h:worldP W=true){i:Nat}(hi:i<W.parents.length)(b:Nat):upB W (3+i) b=(b==0 || b==3+i || (W.parents.getD i default).any λp=>upB W p.toNat b):=by
 have:=ups_at W.parents 0 ([1,3,5]++List.replicate 60 0) i (by have:=world_len h;simp;omega) (world_pars h) hi b;rw[Nat.zero_add] at this;exact this
theorem upB_low{c:Nat}(hc:c<3)(b:Nat):upB W c b=(b==0 || b==c):=by
 rw[upB,upsP,ups_low _ _ _ _ Yb];have:c=0\/c=1\/c=2:=by omega
 rcases this with rfl | rfl | rfl
 ·show Nat.testBit 1 b=_;rcases b with _ | b
  ·rfl
  ·rw[Nat.testBit_succ];simp
 ·show Nat.testBit 3 b=_;rcases b with _ | _ | b
  ·rfl
  ·rfl
  ·rw[Nat.testBit_succ,Nat.testBit_succ];simp
 ·show Nat.testBit 5 b=_;rcases b with _ | _ | _ | b
  ·rfl
  ·rfl
  ·rfl
  ·rw[Nat.testBit_succ,Nat.testBit_succ,Nat.testBit_succ];simp
theorem upB_zero(h:worldP W=true){c:Nat}(hc:c<3+W.parents.length):upB W c 0=true:=by
 by_cases h3:c<3
 ·rw[upB_low h3];rfl
 ·rw[show c=3+(c - 3) from by omega,upB_own h Yb];rfl
theorem upB_self(h:worldP W=true){c:Nat}(hc:c<3+W.parents.length):upB W c c=true:=by
 by_cases h3:c<3
 ·rw[upB_low h3];simp
 ·have e:c=3+(c - 3):=by omega
  have:=upB_own h (i:=c - 3) Yb c;rw[<-e] at this;rw[this];simp
theorem upB_le{W:FW}(h:worldP W=true):∀(n c:Nat),c<=n->c<3+W.parents.length->∀b,upB W c b=true->b<=c/\(b=0\/b=c\/3<=b)
 | n,c,hn,hc,b,hb=>by
  by_cases h3:c<3
  ·rw[upB_low h3] at hb;simp at hb;omega
  ·have e:c=3+(c - 3):=by omega
   rw[e,upB_own h Yb] at hb;simp only[Bool.or_eq_true,beq_iff_eq,List.any_eq_true] at hb;rcases hb with (hb | hb) | ⟨p,hp,hb⟩
   ·omega
   ·omega
   ·have hl:=pars_lt h Yb p hp
    match n,hn with
    | 0,hn=>omega
    | n+1,hn=>
     have:=upB_le h n p.toNat Yb Yb b hb;omega
theorem upB_trans{W:FW}(h:worldP W=true):∀(n a:Nat),a<=n->a<3+W.parents.length->∀b c,upB W a b=true->upB W b c=true->upB W a c=true
 | n,a,hn,ha,b,c,h1,h2=>by
  by_cases h3:a<3
  ·rw[upB_low h3] at h1;simp only[Bool.or_eq_true,beq_iff_eq] at h1;rcases h1 with rfl | rfl
   ·rw[upB_low Yb] at h2;simp at h2;subst h2;exact upB_zero h ha
   ·exact h2
  ·have e:a=3+(a - 3):=by omega
   rw[e,upB_own h Yb] at h1 ⊢;simp only[Bool.or_eq_true,beq_iff_eq,List.any_eq_true] at h1 ⊢;rcases h1 with (rfl | rfl) | ⟨p,hp,h1⟩
   ·rw[upB_low Yb] at h2;simp at h2;exact .inl (.inl h2)
   ·rw[upB_own h Yb] at h2;simpa only[Bool.or_eq_true,beq_iff_eq,List.any_eq_true] using h2
   ·have hl:=pars_lt h Yb p hp
    match n,hn with
    | 0,hn=>omega
    | n+1,hn=>exact .inr ⟨p,hp,upB_trans h n p.toNat Yb Yb b c h1 h2⟩
theorem below_up{a b:Int}:belowP W a b=upB W a.toNat b.toNat:=rfl
def upIn(o:List Bool)(i:Nat):List Int->List Bool
 | []=>o
 | p::r=>upIn (o.set p.toNat (o.getD p.toNat false || o.getD i false)) i r
def upDown(W:FW):Nat->List Bool->List Bool
 | 0,o=>o
 | k+1,o=>upDown W k (upIn o (3+k) (W.parents.getD k default))
def upR(W:FW)(c:Nat):List Bool:=upDown W (c - 2) ((List.replicate (3+W.parents.length) false).set c true)
theorem upIn_len(i:Nat):∀(l:List Int) (o:List Bool),(upIn o i l).length=o.length
 | [],o=>rfl
 | p::r,o=>by rw[upIn,upIn_len i r,List.length_set]
theorem upDown_len(W:FW):∀(k:Nat) (o:List Bool),(upDown W k o).length=o.length
 | 0,o=>rfl
 | k+1,o=>by rw[upDown,upDown_len W k,upIn_len]
theorem upIn_get(i:Nat):∀(l:List Int) (o:List Bool) (b:Nat),(∀p∈l,0<=p/\p<i)->i<o.length->(upIn o i l).getD b false=(o.getD b false || (o.getD i false && l.contains (b:Int)))
 | [],o,b,_,_=>by rw[upIn];simp
 | p::r,o,b,h,hi=>by
  have hp:=h p (.head _);rw[upIn,upIn_get i r _ b (λq hq=>h q (.tail _ hq)) (by rw[List.length_set];exact hi),getD_setL,getD_setL,if_neg (c:=p.toNat=i/\_) Yb,List.contains_cons];by_cases hb:p.toNat=b
  ·rw[if_pos ⟨hb,Yb⟩,show ((b:Int)==p)=true from by rw[beq_iff_eq];omega,hb];cases o.getD b false <;> cases o.getD i false <;> simp
  ·rw[if_neg (λe=>hb e.1),show ((b:Int)==p)=false from by rw[beq_eq_false_iff_ne];omega];simp
theorem upDown_get{W:FW}(h:worldP W=true):∀(k:Nat) (o:List Bool),k<=W.parents.length->o.length=3+W.parents.length->∀b,0<b->(upDown W k o).getD b false=(o.getD b false || (List.range k).any λi=>o.getD (3+i) false && upB W (3+i) b)
 | 0,o,_,_,b,_=>by simp[upDown]
 | k+1,o,hk,hl,b,hb=>by
  have hp:=pars_lt h (i:=k) Yb;have hg:=λx=>upIn_get (3+k) (W.parents.getD k default) o x (λp hp'=>by have:=hp p hp';omega) Yb;rw[upDown,upDown_get h k _ Yb (by rw[upIn_len];exact hl) b hb,hg,List.range_succ,List.any_append,List.any_cons,List.any_nil,Bool.or_false];rw[upB_own h Yb,show (b==0)=false from by rw[beq_eq_false_iff_ne];omega,Bool.false_or];rw[Bool.eq_iff_iff];simp only[Bool.or_eq_true,Bool.and_eq_true,List.any_eq_true,List.mem_range,beq_iff_eq,hg,List.contains_iff_mem];constructor
  ·rintro ((h1 | ⟨h1,h2⟩) | ⟨i,hi,h1 | ⟨h1,h2⟩,h3⟩)
   ·exact .inl h1
   ·exact .inr (.inr ⟨h1,.inr ⟨(b:Int),h2,by rw[Int.toNat_natCast];exact upB_self h (by have:=hp _ h2;omega)⟩⟩)
   ·exact .inr (.inl ⟨i,hi,h1,h3⟩)
   ·exact .inr (.inr ⟨h1,.inr ⟨_,h2,by rw[Int.toNat_natCast];exact h3⟩⟩)
  ·rintro (h1 | ⟨i,hi,h1,h3⟩ | ⟨h1,h2 | ⟨p,hpm,h3⟩⟩)
   ·exact .inl (.inl h1)
   ·exact .inr ⟨i,hi,.inl h1,h3⟩
   ·subst h2;exact .inl (.inl h1)
   ·have:=hp p hpm;refine .inr ⟨p.toNat - 3,Yb,.inr ⟨h1,?_⟩,?_⟩
    ·rw[show ((3+(p.toNat - 3):Nat):Int)=p from by omega];exact hpm
    ·rw[show 3+(p.toNat - 3)=p.toNat from by omega];exact h3
theorem upR_len(W:FW)(c:Nat):(upR W c).length=3+W.parents.length:=by rw[upR,upDown_len];simp
theorem upR_get(h:worldP W=true){c:Nat}(h3:3<=c)(hc:c<3+W.parents.length){b:Nat}(hb:0<b):(upR W c).getD b false=upB W c b:=by
 have hg:∀x,((List.replicate (3+W.parents.length) false).set c true).getD x false=(c==x):=λx=>by
  rw[getD_setL];by_cases e:c=x
  ·rw[if_pos ⟨e,by simpa using hc⟩];simp[e]
  ·rw[if_neg (λq=>e q.1)];have:(c==x)=false:=by rw[beq_eq_false_iff_ne];exact e
   rw[this,List.getD_eq_getElem?_getD,List.getElem?_replicate];split <;> rfl
 rw[upR,upDown_get h (c - 2) _ Yb Yn b hb,hg,Bool.eq_iff_iff];simp only[Bool.or_eq_true,Bool.and_eq_true,List.any_eq_true,List.mem_range,beq_iff_eq,hg];constructor
 ·rintro (rfl | ⟨i,hi,e,h1⟩)
  ·exact upB_self h hc
  ·rw[e];exact h1
 ·intro h1;exact .inr ⟨c - 3,Yb,Yb,by rw[show 3+(c - 3)=c from by omega];exact h1⟩
abbrev bl(o:List Bool):List AV:=o.map λx=>AV.b x
theorem bl_flat(o:List Bool):bl o=(o.map λx=>[AV.b x]).flatten++[]:=by
 induction o with
 | nil=>rfl
 | cons x r ih=>simpa using ih
theorem bl_get(h:i<o.length):(bl o)[0+i*1]? =some (AV.b (o.getD i false)):=by
 rw[Nat.zero_add,Nat.mul_one,List.getElem?_map,List.getD_eq_getElem?_getD,List.getElem?_eq_getElem h];rfl
theorem bl_set{o o':List Bool}{x:Bool}(h:i<o.length)(e:o.set i x=o'):(bl o).take (0+i*1)++[AV.b x]++(bl o).drop (0+i*1+1)=bl o':=by
 subst e;rw[Nat.zero_add,Nat.mul_one,List.set_eq_take_append_cons_drop,if_pos h];simp
theorem upIn_step{i j:Nat}{l:List Int}(h:j<l.length):upIn o i (l.drop j)=upIn (o.set (l.getD j default).toNat (bif o.getD (l.getD j default).toNat false then true else o.getD i false)) i (l.drop (j+1)):=by
 rw[List.drop_eq_getElem_cons h,upIn,getD_lt h,bif_or]
theorem bl_fit(h:i<o.length):Nat.ble (0+i*1+1) (bl o).length=true:=by rw[Nat.ble_eq];simp;omega
theorem bl_new(n:Nat):List.replicate n (AV.val (.bool false))=bl (List.replicate n false):=by rw[bl,List.map_replicate]
theorem path_no{l:List Int}(h:i<l.length)(hs:slotP W (l.getD i default)=false):l.all (slotP W)=false:=by
 rw[List.all_eq_false];exact⟨l.getD i default,getD_mem h,by rw[hs];simp⟩
mutual
def depthN:Fact->Nat
 | .mk _ _ _ _ _ kids=>depthNs kids+1
def depthNs:List Fact->Nat
 | []=>0
 | k::r=>max (depthN k) (depthNs r)
end
theorem depthN_eq(f:Fact):depthN f=depthNs f.kids+1:=by cases f;rw[depthN];rfl
theorem depthNs_snoc(x:Fact):∀l:List Fact,depthNs (l++[x])=max (depthNs l) (depthN x)
 | []=>by simp[depthNs]
 | k::r=>by rw[List.cons_append,depthNs,depthNs,depthNs_snoc x r,Nat.max_assoc]
mutual
theorem depth_nodes:∀f:Fact,depthN f<=nodesN f
 | .mk _ _ _ _ _ kids=>by rw[depthN,nodesN];have:=depths_nodes kids;omega
theorem depths_nodes:∀l:List Fact,depthNs l<=nodesNs l
 | []=>by simp[depthNs]
 | k::r=>by rw[depthNs,nodesNs];have:=depth_nodes k;have:=depths_nodes r;omega
end
theorem kid_nodes{f k:Fact}(h:k∈f.kids):nodesN k<nodesN f:=by
 have:∀l:List Fact,k∈l->nodesN k<=nodesNs l:=by
  intro l
  induction l with
  | nil=>intro h;cases h
  | cons y r ih=>intro h;rw[nodesNs];rcases List.mem_cons.1 h with rfl | h;omega;have:=ih h;omega
 have:=this f.kids h;rw[nodesN_eq f];omega
def opOk(W:FW)(f:Fact)(kd:Int):Prop:=1<=f.op/\f.op<=7/\kd=kidsP f.op/\(leafP f=true->leafOkP W f=true)
theorem op_is(h0:f.op=2)(h1:(bif f.n !=0 then true else !classP W f.cls)=false):opOk W f 0:=by
 rw[bif_or] at h1;simp only[Bool.or_eq_false_iff,bne_eq_false_iff_eq,Bool.not_eq_false'] at h1;exact⟨Yb,Yb,by rw[h0];rfl,λ_=>by simp[leafOkP,h0,h1]⟩
theorem op_isno(h0:f.op=2)(h1:(bif f.n !=0 then true else !classP W f.cls)=true):nodeOkB W f=false:=by
 rw[bif_or] at h1;have h2:((f.n==0) && classP W f.cls)=false:=by
  simp only[Bool.or_eq_true,bne_iff_ne,Bool.not_eq_true'] at h1;rw[Bool.and_eq_false_iff,beq_eq_false_iff_ne];exact h1
 have hl:leafP f=true:=by simp[leafP,h0]
 rw[nodeOkB,if_pos hl,leafOkP,if_pos h0,h2];simp
theorem op_num(h0:f.op=3\/f.op=4)(h1:(bif bif f.cls !=0 then true else decide (f.n< -1000000000) then true else decide (1000000000<f.n))=false):opOk W f 0:=by
 rw[bif_or,bif_or] at h1;simp only[Bool.or_eq_false_iff,bne_eq_false_iff_eq,decide_eq_false_iff_not] at h1;refine⟨Yb,Yb,?_,λ_=>?_⟩
 ·rcases h0 with e | e <;> rw[e] <;> rfl
 ·rw[leafOkP,if_neg Yb];simp only[Bool.and_eq_true,beq_iff_eq,decide_eq_true_eq];omega
theorem op_numno(h0:f.op=3\/f.op=4)(h1:(bif bif f.cls !=0 then true else decide (f.n< -1000000000) then true else decide (1000000000<f.n))=true):nodeOkB W f=false:=by
 rw[bif_or,bif_or] at h1;simp only[Bool.or_eq_true,bne_iff_ne,decide_eq_true_eq] at h1;have h2:leafOkP W f=false:=by
  rw[leafOkP,if_neg Yb];simp only[Bool.and_eq_false_iff,beq_eq_false_iff_ne,decide_eq_false_iff_not];omega
 have hl:leafP f=true:=by simp only[leafP,Bool.and_eq_true,decide_eq_true_eq];omega
 rw[nodeOkB,if_pos hl,h2];simp
theorem op_else(h:f.op=1\/f.op=5\/f.op=6\/f.op=7)(hk:kd=kidsP f.op):opOk W f kd:=⟨Yb,Yb,hk,λhl=>by simp only[leafP,Bool.and_eq_true,decide_eq_true_eq] at hl;omega⟩
theorem op_no(h:f.op≠1/\f.op≠2/\f.op≠3/\f.op≠4/\f.op≠5/\f.op≠6/\f.op≠7):nodeOkB W f=false:=by
 have:(decide (1<=f.op) && decide (f.op<=7))=false:=by simp only[Bool.and_eq_false_iff,decide_eq_false_iff_not];omega
 rw[nodeOkB,this];simp
theorem plain_arg(h:plainP f=true):argP W f=true:=by
 simp only[plainP,Bool.not_eq_true',Bool.or_eq_false_iff,bne_eq_false_iff_eq,decide_eq_false_iff_not] at h;have hp:f.path= []:=List.eq_nil_of_length_eq_zero Yb;simp[argP,h.1.1.1,hp,pathP]
theorem node_val(h:opOk W f kd):nodeOkB W f=((f.kids.length:Int)==kd && argP W f && (leafP f || plainP f)):=by
 obtain⟨h1,h2,rfl,h4⟩:=h;rw[nodeOkB,decide_eq_true h1,decide_eq_true h2,Bool.true_and,Bool.true_and,Bool.and_assoc];congr 1;by_cases hl:leafP f=true
 ·rw[if_pos hl,h4 hl,hl];simp
 ·rw[if_neg hl,Bool.eq_false_iff.2 hl,Bool.false_or];cases hp:plainP f with
  | false=>simp
  | true=>rw[plain_arg hp];rfl
theorem wf_no(h:nodeOkB W f=false):wfB W f=false:=by
 cases hw:wfB W f with
 | false=>rfl
 | true=>rw[(wfB_iff.1 hw).1] at h;cases h
theorem wf_kid_no(hi:i<f.kids.length)(h:wfB W (f.kids.getD i default)=false):wfB W f=false:=by
 cases hw:wfB W f with
 | false=>rfl
 | true=>rw[(wfB_iff.1 hw).2 _ (getD_mem hi)] at h;cases h
theorem wf_yes(h:nodeOkB W f=true)(hk:f.kids.all (wfB W)=true):wfB W f=true:=wfB_iff.2 ⟨h,List.all_eq_true.1 hk⟩
theorem leaf_eq(h:opOk W f kd):(f.op==2 || f.op==3 || f.op==4)=leafP f:=by
 rw[leafP,Bool.eq_iff_iff];simp only[Bool.or_eq_true,beq_iff_eq,Bool.and_eq_true,decide_eq_true_eq];omega
theorem arg_bif:(bif bif bif (f.kids.length:Int) !=kd then true else decide (f.arg<0) then true else decide (3<=f.arg) then true else !pathP W f.path)= !((f.kids.length:Int)==kd && argP W f):=by
 rw[bif_or,bif_or,bif_or,argP,bne];show (((_ || decide (f.arg<0)) || decide (3<=f.arg)) || _)= !(_ && !((decide (f.arg<0) || decide (3<=f.arg)) || _));generalize ((f.kids.length:Int)==kd)=a;generalize decide (f.arg<0)=b;generalize decide (3<=f.arg)=c;generalize pathP W f.path=d;cases a <;> cases b <;> cases c <;> cases d <;> rfl
theorem plain_bif:(bif bif bif f.arg !=0 then true else decide (0<(f.path.length:Int)) then true else f.cls !=0 then true else f.n !=0)= !plainP f:=by
 rw[bif_or,bif_or,bif_or,plainP,Bool.not_not]
theorem node_bif(hop:opOk W f kd)(hna:((f.kids.length:Int)==kd && argP W f)=true):(bif !(f.op==2 || f.op==3 || f.op==4) then bif bif bif f.arg !=0 then true else decide (0<(f.path.length:Int)) then true else f.cls !=0 then true else f.n !=0 else false)= !nodeOkB W f:=by
 rw[plain_bif,leaf_eq hop,node_val hop,hna];cases leafP f <;> cases plainP f <;> rfl
mutual
theorem node_deep(W:FW):∀(f:Fact) (left deep:Int),wfB W f=true->(nodesN f:Int)<=left->(depthN f:Int)<=deep->nodeP W f left deep=(true,left - nodesN f)
 | .mk op arg path cls n kids,left,deep,h,h1,h2=>by
  have hw:=wfB_iff.1 h;rw[nodesN] at h1 ⊢;rw[depthN] at h2;rw[nodeP];have hb:badP (.mk op arg path cls n kids) (left - 1) deep=false:=by
   have h0:=hw.1;simp only[nodeOkB,Bool.and_eq_true,decide_eq_true_eq,beq_iff_eq] at h0;simp only[badP,Bool.or_eq_false_iff,decide_eq_false_iff_not,bne_eq_false_iff_eq,beq_eq_false_iff_ne];refine⟨⟨⟨⟨Yb,Yb⟩,Yb⟩,Yb⟩,h0.1.2⟩
  rw[if_neg (by rw[hb];simp)];have h0:=hw.1;rw[nodeOkB,Bool.and_eq_true] at h0;by_cases hl:leafP (.mk op arg path cls n kids)=true
  ·have hk:kids= []:=leaf_kids hw.1 hl;rw[if_pos hl] at h0 ⊢;rw[h0.2,hk];simp[nodesNs]
  ·rw[if_neg hl] at h0 ⊢;rw[if_pos h0.2];rw[nodes_deep W kids (left - 1) (deep - 1) (by rw[wfB,Bool.and_eq_true] at h;exact h.2) Yb Yb];congr 1;omega
theorem nodes_deep(W:FW):∀(l:List Fact) (left deep:Int),wfBs W l=true->(nodesNs l:Int)<=left->(depthNs l:Int)<=deep->nodesP W l left deep=(true,left - nodesNs l)
 | [],left,deep,_,_,_=>by rw[nodesP,nodesNs];simp
 | k::r,left,deep,h,h1,h2=>by
  rw[wfBs,Bool.and_eq_true] at h;rw[nodesNs] at h1 ⊢;rw[depthNs] at h2;rw[nodesP,node_deep W k left deep h.1 Yb Yb,if_pos rfl,nodes_deep W r _ deep h.2 Yb Yb];congr 1;omega
end
mutual
theorem deep_node(W:FW):∀(f:Fact) (left deep:Int),0<=deep->(nodeP W f left deep).1=true->(depthN f:Int)<=deep
 | .mk op arg path cls n kids,left,deep,hd,h=>by
  have hw:=(node_wf W _ _ _ h).1;rw[nodeP] at h;rw[depthN];by_cases hb:badP (.mk op arg path cls n kids) (left - 1) deep=true
  ·rw[if_pos hb] at h;cases h
  ·rw[if_neg hb] at h;have hd1:1<=deep:=by
    simp only[badP,Bool.not_eq_true,Bool.or_eq_false_iff,beq_eq_false_iff_ne] at hb;omega
   by_cases hl:leafP (.mk op arg path cls n kids)=true
   ·have hk:kids= []:=leaf_kids (wfB_iff.1 hw).1 hl;subst hk;simp[depthNs];omega
   ·rw[if_neg hl] at h;by_cases hp:plainP (.mk op arg path cls n kids)=true
    ·rw[if_pos hp] at h;have:=deep_nodes W kids (left - 1) (deep - 1) Yb h;omega
    ·rw[if_neg hp] at h;cases h
theorem deep_nodes(W:FW):∀(l:List Fact) (left deep:Int),0<=deep->(nodesP W l left deep).1=true->(depthNs l:Int)<=deep
 | [],left,deep,hd,_=>by rw[depthNs];omega
 | k::r,left,deep,hd,h=>by
  rw[nodesP] at h;rw[depthNs];by_cases h1:(nodeP W k left deep).1=true
  ·rw[if_pos h1] at h;have a:=deep_node W k left deep hd h1;have b:=deep_nodes W r _ deep hd h;omega
  ·rw[if_neg h1] at h;exact absurd h h1
end
theorem formed_eq(W:FW)(f:Fact):(decide (nodesN f<=24) && decide (depthN f<=12) && wfB W f)=formedP W f:=by
 rw[Bool.eq_iff_iff];simp only[Bool.and_eq_true,decide_eq_true_eq];constructor
 ·rintro⟨⟨h1,h2⟩,h3⟩;rw[formedP,node_deep W f 24 12 h3 Yb Yb]
 ·intro h;have h1:=formed_wf h;have h2:=deep_node W f 24 12 Yb h;exact⟨⟨h1.2,Yb⟩,h1.1⟩
end Go.Eng.Fc

namespace Go.Eng.Bd
open Go.Eng.Fc
variable{p:Prog}
theorem fineL_pars(i:Nat):∀(l seen:List Int),fineL i seen l=Fc.parentsP i seen l
 | [],_=>rfl
 | x::r,seen=>by rw[fineL,Fc.parentsP,fineL_pars i r]
theorem fineG_parss:∀(g:List (List Int)) (i:Nat),fineG i g=true->Fc.parentssP i g=true
 | [],_,_=>rfl
 | l::r,i,h=>by
  simp only[fineG,Bool.and_eq_true] at h;rw[Fc.parentssP, <-fineL_pars,h.1.2,fineG_parss r (i+1) h.2];rfl
theorem owners_own:∀(cs:List Cls) (i:Nat),∀x∈ownersN cs i,3+(i:Int)<=x/\x<3+((i+cs.length:Nat):Int)
 | [],i,x,h=>by cases h
 | c::r,i,x,h=>by
  rw[ownersN] at h;rcases List.mem_append.1 h with h | h
  ·have:=(List.mem_replicate.1 h).2;rw[List.length_cons];omega
  ·have:=owners_own r (i+1) x h;rw[List.length_cons];omega
theorem owners_cnt:∀(cs:List Cls) (i:Nat),(ownersN cs i).length=slotsCnt cs
 | [],i=>rfl
 | c::r,i=>by
  rw[ownersN,List.length_append,List.length_replicate,owners_cnt r];simp[slotsCnt]
structure Heads(p:Prog):Prop where
 cl:p.classes.length<=10
 sl:slotsA p.classes 0=true
 cnt:(slotsCnt p.classes:Int)=p.slots
 g:fineP (graphP p)=true
theorem Heads.of(h:classesP p=true):Heads p:=by
 simp only[classesP,Bool.and_eq_true,decide_eq_true_eq,beq_iff_eq] at h;exact⟨h.1.1.1,h.1.1.2,h.1.2.1,h.1.2.2⟩
theorem Heads.world(h:Heads p):Fc.worldP (worldOf p)=true:=by
 have h1:=h.cl;have h2:=slotsA_cnt _ _ h.sl;have hg:=h.g;simp only[fineP,Bool.and_eq_true] at hg;simp only[Fc.worldP,Bool.and_eq_true,decide_eq_true_eq];have hpl:(worldOf p).parents.length=p.classes.length:=by show (graphP p).length=_;simp[graphP]
 refine⟨⟨⟨Yb,?_⟩,fineG_parss _ 0 hg.2⟩,List.all_eq_true.2 λx hx=>?_⟩
 ·show (ownersN p.classes 0).length<=40;rw[owners_cnt];omega
 ·have:=owners_own p.classes 0 x hx;simp only[Fc.ownP,Bool.and_eq_true,decide_eq_true_eq];rw[hpl];omega
theorem world_pl(p:Prog):(worldOf p).parents.length=p.classes.length:=by show (graphP p).length=_;simp[graphP]
theorem world_pars_at{k:Nat}(h:k<p.classes.length):(worldOf p).parents.getD k default=(p.classes.getD k default).parents:=by
 show (graphP p).getD k default=_;rw[graphP,List.getD_eq_getElem?_getD,List.getElem?_map,List.getD_eq_getElem?_getD,List.getElem?_eq_getElem h];rfl
theorem up_from{W:Fc.FW}(hw:Fc.worldP W=true):∀(n c:Nat),c<=n->3<=c->c<3+W.parents.length->∀b,3<=b->upB W c b=true->b=c\/∃m,m<W.parents.length/\upB W c (3+m)=true/\(b:Int)∈W.parents.getD m default
 | n,c,hn,h3,hc,b,hb,h=>by
  have e:c=3+(c - 3):=by omega
  have h0:=h;rw[e,upB_own hw Yb] at h;simp only[Bool.or_eq_true,beq_iff_eq,List.any_eq_true] at h;rcases h with (h | h) | ⟨q,hq,h⟩
  ·omega
  ·exact .inl Yb
  ·have hl:=pars_lt hw Yb q hq
   match n,hn with
   | 0,hn=>omega
   | n+1,hn=>
    rcases up_from hw n q.toNat Yb Yb Yb b hb h with h1 | ⟨m,h1,h2,h4⟩
    ·exact .inr ⟨c - 3,Yb,by rw[<-e];exact upB_self hw hc,by rw[h1];rw[show ((q.toNat:Nat):Int)=q by omega];exact hq⟩
    ·refine .inr ⟨m,h1,?_,h4⟩;rw[e,upB_own hw Yb];simp only[Bool.or_eq_true,beq_iff_eq,List.any_eq_true];exact .inr ⟨q,hq,h2⟩
theorem up_to{W:Fc.FW}(hw:Fc.worldP W=true){c m b:Nat}(hc:c<3+W.parents.length)(hm:m<W.parents.length)(h:upB W c (3+m)=true)(hb:(b:Int)∈W.parents.getD m default):upB W c b=true:=by
 refine upB_trans hw c c (Nat.le_refl _) hc (3+m) b h ?_;rw[upB_own hw hm];simp only[Bool.or_eq_true,beq_iff_eq,List.any_eq_true];have:=pars_lt hw hm _ hb;exact .inr ⟨_,hb,by rw[Int.toNat_natCast];exact upB_self hw Yb⟩
def downS(p:Prog)(c:Nat):Nat->List Int
 | 0=>[]
 | n+1=>(if upB (worldOf p) c (3+n) then (p.classes.getD n default).slots else [])++downS p c n
def upS(p:Prog)(c:Nat):Nat->List Int
 | 0=>[]
 | n+1=>upS p c n++(if upB (worldOf p) c (3+n) then (p.classes.getD n default).slots else [])
theorem hasN_down{p:Prog}(hw:Fc.worldP (worldOf p)=true){c:Nat}(h3:3<=c)(hc:c<3+p.classes.length):∀(n:Nat) (S out:List Int),n<=c - 2->(∀b:Nat,3<=b->(((b:Int)∈S)↔b=c\/∃m,n<=m/\m<p.classes.length/\upB (worldOf p) c (3+m)=true/\(b:Int)∈(p.classes.getD m default).parents))->hasN p n S out=out++downS p c n
 | 0,S,out,_,_=>by rw[hasN,downS,List.append_nil]
 | n+1,S,out,hn,hS=>by
  have hpl:=world_pl p;have hk:((n:Int)+3∈S)↔upB (worldOf p) c (3+n)=true:=by
   rw[show (n:Int)+3=((3+n:Nat):Int) by omega,hS (3+n) Yb];constructor
   ·rintro (e | ⟨m,h1,h2,h4,h5⟩)
    ·rw[e];exact upB_self hw Yb
    ·exact up_to hw Yb Yb h4 (by rw[world_pars_at h2];exact h5)
   ·intro h;rcases up_from hw c c (Nat.le_refl _) h3 Yb (3+n) Yb h with e | ⟨m,h1,h2,h4⟩
    ·exact .inl e
    ·have:=pars_lt hw h1 _ h4;exact .inr ⟨m,Yb,Yb,h2,by rw[<-world_pars_at Yb];exact h4⟩
  rw[hasN,downS];by_cases hu:upB (worldOf p) c (3+n)=true
  ·rw[if_pos (List.contains_iff_mem.2 (hk.2 hu)),if_pos hu,hasN_down hw h3 hc n _ _ Yb,List.append_assoc];intro b hb;rw[List.mem_append,hS b hb];constructor
   ·rintro ((e | ⟨m,h1,h2⟩) | h)
    ·exact .inl e
    ·exact .inr ⟨m,Yb,h2⟩
    ·exact .inr ⟨n,Nat.le_refl _,Yb,hu,h⟩
   ·rintro (e | ⟨m,h1,h2,h4,h5⟩)
    ·exact .inl (.inl e)
    ·by_cases e:m=n
     ·subst e;exact .inr h5
     ·exact .inl (.inr ⟨m,Yb,h2,h4,h5⟩)
  ·have hu': ¬((n:Int)+3∈S):=λh=>hu (hk.1 h);rw[if_neg (by rw[List.contains_iff_mem];exact hu'),if_neg hu,hasN_down hw h3 hc n _ _ Yb,List.nil_append];intro b hb;rw[hS b hb];constructor
   ·rintro (e | ⟨m,h1,h2⟩)
    ·exact .inl e
    ·exact .inr ⟨m,Yb,h2⟩
   ·rintro (e | ⟨m,h1,h2,h4,h5⟩)
    ·exact .inl e
    ·by_cases e:m=n
     ·subst e;exact absurd h4 hu
     ·exact .inr ⟨m,Yb,h2,h4,h5⟩
theorem down_perm(p:Prog)(c:Nat):∀n,(downS p c n).Perm (upS p c n)
 | 0=>List.Perm.refl _
 | n+1=>by
  rw[downS,upS];exact ((down_perm p c n).append_left _).trans List.perm_append_comm
def slotsR(W:Fc.FW)(c:Int):List Int:=((List.range W.owner.length).filter λs=>Fc.belowP W c (W.owner.getD s default)).map λ(s:Nat)=>(s:Int)
theorem slots1_get:∀(l:List Int) (n:Nat),slots1 l n=true->l=(List.range' n l.length).map λ(k:Nat)=>(k:Int)
 | [],n,_=>rfl
 | x::r,n,h=>by
  simp only[slots1,Bool.and_eq_true,beq_iff_eq] at h;rw[List.length_cons,List.range'_succ,List.map_cons, <-slots1_get r (n+1) h.2,h.1]
theorem filter_range'{q:Nat->Bool}{b:Bool}(n k:Nat)(h:∀i,n<=i->i<n+k->q i=b):(List.range' n k).filter q=if b then List.range' n k else []:=by
 cases b with
 | true=>rw[if_pos rfl];exact List.filter_eq_self.2 λi hi=>by have:=List.mem_range'_1.1 hi;exact h i Yb Yb
 | false=>rw[if_neg Yn];exact List.filter_eq_nil_iff.2 λi hi=>by have:=List.mem_range'_1.1 hi;rw[h i Yb Yb];simp
theorem owner_at{cs:List Cls}{n s:Nat}(hn:n<cs.length)(h1:slotsCnt (cs.take n)<=s)(h2:s<slotsCnt (cs.take n)+(cs.getD n default).slots.length):(ownersN cs 0).getD s default=(n:Int)+3:=by
 have e:cs=(cs.take n++[cs.getD n default])++cs.drop (n+1):=by rw[take_getD hn,List.take_append_drop]
 have app:∀(a b:List Cls) (i:Nat),ownersN (a++b) i=ownersN a i++ownersN b (i+a.length):=by
  intro a
  induction a with
  | nil=>intro b i;simp[ownersN]
  | cons c r ih=>intro b i;rw[List.cons_append,ownersN,ownersN,ih,List.append_assoc,List.length_cons,show i+1+r.length=i+(r.length+1) by omega]
 have hl:(cs.take n).length=n:=by rw[List.length_take];omega
 have e2:ownersN cs 0=(ownersN (cs.take n) 0++List.replicate (cs.getD n default).slots.length ((n:Int)+3))++ownersN (cs.drop (n+1)) (n+1):=by
  conv=>lhs;rw[e]
  rw[app,app,List.length_append,hl];simp only[ownersN,List.length_singleton,List.append_nil,Nat.zero_add]
 rw[e2,List.getD_eq_getElem?_getD,List.getElem?_append_left (by rw[List.length_append,owners_cnt,List.length_replicate];exact h2),List.getElem?_append_right (by rw[owners_cnt];exact h1),List.getElem?_replicate,if_pos (by rw[owners_cnt];omega)];rfl
theorem upS_range{p:Prog}(h:Heads p)(c:Nat):∀n,n<=p.classes.length->upS p c n=((List.range (slotsCnt (p.classes.take n))).filter λs=>Fc.belowP (worldOf p) (c:Int) ((worldOf p).owner.getD s default)).map λ(s:Nat)=>(s:Int)
 | 0,_=>rfl
 | n+1,hn=>by
  have hs:slots1 (p.classes.getD n default).slots (slotsCnt (p.classes.take n))=true:=by
   have h1:=slotsA_all p.classes 0 (n+1) h.sl;rw[slotsA_take _ _ _ Yb,Bool.and_eq_true,Bool.and_eq_true,Nat.zero_add] at h1;exact h1.2.2
  rw[upS,upS_range h c n Yb,slotsCnt_take Yb,List.range_add,List.filter_append,List.map_append];congr 1;rw[show List.map (λx=>slotsCnt (p.classes.take n)+x) (List.range (p.classes.getD n default).slots.length)=List.range' (slotsCnt (p.classes.take n)) (p.classes.getD n default).slots.length by rw[List.range_eq_range',List.map_add_range'];simp];rw[filter_range' (b:=upB (worldOf p) c (3+n)) _ _ (λi h1 h2=>by
   rw[show (worldOf p).owner=ownersN p.classes 0 from rfl,owner_at Yb h1 h2,below_up,Int.toNat_natCast,show ((n:Int)+3).toNat=3+n by omega])]
  by_cases hu:upB (worldOf p) c (3+n)=true
  ·rw[if_pos hu,if_pos hu];exact slots1_get _ _ hs
  ·rw[if_neg hu,if_neg hu];rfl
theorem upS_more{p:Prog}(hw:Fc.worldP (worldOf p)=true){c:Nat}(hc:c<3+p.classes.length):∀n,c - 2<=n->upS p c n=upS p c (c - 2)
 | 0,h=>by rw[show c - 2=0 by omega]
 | n+1,h=>by
  by_cases e:c - 2=n+1
  ·rw[e]
  ·have hn: ¬upB (worldOf p) c (3+n)=true:=λhu=>by
    have:=upB_le hw c c (Nat.le_refl _) (by rw[world_pl];exact hc) _ hu;omega
   rw[upS,if_neg hn,List.append_nil];exact upS_more hw hc n Yb
theorem sorted_range(q:Nat->Bool)(n:Nat):(((List.range n).filter q).map λ(s:Nat)=>(s:Int)).Pairwise λa b=>decide (a<=b)=true:=by
 rw[List.pairwise_map];refine List.Pairwise.filter _ (List.Pairwise.imp ?_ List.pairwise_lt_range);intro a b hab;simp;omega
theorem sort_eq{a b:List Int}(hp:a.Perm b)(hb:b.Pairwise λx y=>decide (x<=y)=true):sortI a=b:=by
 have h1:(sortI a).Perm b:=(List.mergeSort_perm _ _).trans hp;refine List.Perm.eq_of_pairwise (le:=λx y=>decide (x<=y)=true) ?_ (List.pairwise_mergeSort (λx y z h1 h2=>by simp only[decide_eq_true_eq] at*;omega) (λx y=>by simp only[Bool.or_eq_true,decide_eq_true_eq];omega) a) hb h1;intro x y _ _ hxy hyx;simp only[decide_eq_true_eq] at*;omega
theorem has_slots(h:Heads p){c:Int}(h3:3<=c)(hc:c<3+p.classes.length):hasP p c=slotsR (worldOf p) c:=by
 obtain⟨k,rfl⟩:∃k:Nat,c=k:=⟨c.toNat,Yb⟩;have hw:=h.world;have e1:hasN p ((k:Int) - 2).toNat [(k:Int)] []=downS p k (k - 2):=by
  rw[show ((k:Int) - 2).toNat=k - 2 by omega];refine hasN_down hw Yb Yb (k - 2) [(k:Int)] [] (Nat.le_refl _) (λb hb=>?_);rw[List.mem_singleton];constructor
  ·intro e;exact .inl Yb
  ·rintro (e | ⟨m,h1,h2,h4,_⟩)
   ·omega
   ·have:=upB_le hw k k (Nat.le_refl _) (by rw[world_pl];omega) _ h4;omega
 have e2:=upS_range h k p.classes.length (Nat.le_refl _);rw[List.take_length, <-owners_cnt p.classes 0,upS_more hw Yb _ Yb] at e2;rw[hasP,e1];refine sort_eq (b:=slotsR (worldOf p) k) ?_ (sorted_range _ _);exact (down_perm p k (k - 2)).trans (by rw[e2];exact List.Perm.refl _)
end Go.Eng.Bd
