/- Part 16 of the proof: contracts of functions of the program and what they need. No condition beyond those that each theorem names. -/
import Derived.Test.YtogjaoodkaahoaaGreatVowJudgesP15
import Derived.Shelf.Sort.Plain
import Derived.Shelf.Slices.In.SortNone
import Derived.Sort.OwnSortedInts
set_option maxHeartbeats 1000000
set_option linter.unusedVariables false
set_option linter.unusedSimpArgs false
set_option maxRecDepth 10000
namespace Go.Proofs.YtogjaoodkaahoaaGreat
open Go.Eng
open Go.Eng.Fc
open Go.Eng.Bd
variable{l:List Int}{x:Int}{q i c:Nat}{g A:List (List Int)}{W:Fc.FW}{p:Prog}
theorem seen_step(hq:q<l.length)(h:(l.take q).contains x=false)(hx:l.getD q default≠x):(l.take (q+1)).contains x=false:=by
 rw[<-take_getD hq,List.contains_eq_any_beq,List.any_append, <-List.contains_eq_any_beq,h];simp;exact λe=>hx e.symm
theorem has_yes(hq:q<l.length)(hx:l.getD q default=x):l.contains x=true:=by rw[<-hx];exact List.contains_iff_mem.2 (getD_memB hq)
theorem fine_step{i j:Nat}(hj:j<l.length)(h:fineL i [] (l.take j)=true)(h2:(decide (l.getD j default<3) || decide (l.getD j default>=3+i) || (l.take j).contains (l.getD j default))=false):fineL i [] (l.take (j+1))=true:=by
 rw[fineL_take i l [] j hj,h,List.nil_append,h2];rfl
theorem fineG_step(hi:i<g.length)(h:fineG 0 (g.take i)=true)(h1:(g.getD i default).length<=3)(h2:fineL i [] (g.getD i default)=true):fineG 0 (g.take (i+1))=true:=by
 rw[fineG_take g 0 i hi,h,Nat.zero_add,h2,decide_eq_true h1];rfl
theorem pars_low(h:c<3):(parsOf g).getD c default= []:=by
 match c,h with
 | 0,_=>rfl
 | 1,_=>rfl
 | 2,_=>rfl
theorem pars_own(h: ¬c<3):(parsOf g).getD c default=g.getD (c - 3) default:=by
 obtain⟨k,rfl⟩:∃k,c=k+3:=⟨c - 3,Yb⟩;rw[Nat.add_sub_cancel];rfl
theorem rHas(l:List Int)(x:Int):PCall Tryz.prog 308 [AV.ints l,.i x] (.b (l.contains x)):=by
 intro H;refine aC (n:=18) Tryz.func308 λB I w0=>?_;refine CW.boundM (t:=0) rfl (λhb0=>?_);refine Z12 ?_;refine lj (λm st=>∃i:Nat,st=⟨[(5,.i i),(0,AV.ints l),(1,.i x)],H⟩/\m=l.length - i/\i<=l.length/\(l.take i).contains x=false) (⟨0,rfl,rfl,Yb,rfl⟩) ?_;rintro m _ ⟨i,rfl,rfl,hi,hc⟩;refine Z9 ?_;refine cd (λh0=>?_) λh0=>?_
 ·have hil:i<l.length:=by omega
  refine Z14 ?_;refine cd (λh1=>?_) λh1=>?_
  ·refine Z11 ?_;refine r1 4 (H) ?_;exact⟨retB (has_yes hil h1).symm,rfl⟩
  ·refine Z8 ?_;exact ag (⟨i+1,rfl,rfl,hil,seen_step hil hc h1⟩)
 ·obtain rfl:i=l.length:=by omega
  rw[List.take_length] at hc;refine Z11 ?_;refine r1 4 (H) ?_;exact⟨retB hc.symm,rfl⟩
theorem rLine(g:List (List Int)):PCall Tryz.prog 258 [AV.intss g] (.b (fineP g)):=by
 intro H;refine aC (n:=65) Tryz.func258 λB I w0=>?_;refine CW.boundM (t:=0) rfl (λhb0=>?_);refine Z13 ?_;refine cd (λh0=>?_) λh0=>?_
 ·refine Z7 ?_;refine r1 2 (H) ?_;exact⟨retB (fine_no1 Yb).symm,rfl⟩
 ·have hg16:g.length<=16:=by omega
  refine Z9 ?_;refine lj (λm st=>∃i:Nat,st=⟨[(3,.i i),(0,AV.intss g)],H⟩/\m=g.length - i/\i<=g.length/\fineG 0 (g.take i)=true) (⟨0,rfl,rfl,Yb,rfl⟩) ?_;rintro m _ ⟨i,rfl,rfl,hi,hf⟩;refine Z9 ?_;refine cd (λh1=>?_) λh1=>?_
  ·have hil:i<g.length:=by omega
   refine Z15 ?_;refine cd (λh2=>?_) λh2=>?_
   ·refine Z12 ?_;refine r1 2 (H) ?_;exact⟨retB (fine_no2 hil (by rw[decide_eq_false Yb];rfl)).symm,rfl⟩
   ·have hl3:(g.getD i default).length<=3:=by omega
    refine Z8 ?_;refine lj (λm st=>∃j:Nat,st=⟨[(4,.i j),(3,.i i),(0,AV.intss g)],H⟩/\m=(g.getD i default).length - j/\j<=(g.getD i default).length/\fineL i [] ((g.getD i default).take j)=true) (⟨0,rfl,rfl,Yb,rfl⟩) ?_;rintro m _ ⟨j,rfl,rfl,hj,hfl⟩;refine Z12 ?_;refine cd (λh3=>?_) λh3=>?_
    ·have hjl:j<(g.getD i default).length:=by omega
     refine Z5 ?_;refine CW.dp mixed ?_;refine DP.anyC 0 5 65 rfl Yf rfl rfl Yf ?_;refine Z22 ?_;refine DP.anyC 9 18 65 rfl Yf rfl rfl Yf ?_;refine Z22 ?_;refine DP.anyC 21 34 65 rfl Yf rfl rfl Yf ?_;refine Z5 ?_;refine AD.guardC rfl rfl rfl rfl rfl (λhg=>POp.slTo rfl rfl YT rfl YT Yb) ?_;refine Z9 ?_;refine OL.guardC rfl rfl rfl rfl rfl rfl (λhg=>POp.call (.mk' rfl rfl rfl rfl Yc) (rHas ((g.getD i default).take j) ((g.getD i default).getD j default))) ?_;refine Z3 ?_;refine CW.cond rfl (λh4=>?_) (λh4=>?_)
     ·rw[bif_or,bif_or] at h4;refine Z15 ?_;refine r1 2 (H) ?_;exact⟨retB (fine_no2 hil (by rw[fine_no3 hjl h4,Bool.and_false])).symm,rfl⟩
     ·rw[bif_or,bif_or] at h4;refine Z8 ?_;exact ag (⟨j+1,rfl,rfl,hjl,fine_step hjl hfl h4⟩)
    ·obtain rfl:j=(g.getD i default).length:=by omega
     rw[List.take_length] at hfl;refine Z11 ?_;exact ag (⟨i+1,rfl,rfl,hil,fineG_step hil hf hl3 hfl⟩)
  ·obtain rfl:i=g.length:=by omega
   rw[List.take_length] at hf;refine Z11 ?_;refine r1 2 (H) ?_;exact⟨retB (by rw[fineP,hf,decide_eq_true hg16];rfl),rfl⟩
theorem rPars(hg:g.length<=16)(hc:c<3+g.length):PCall Tryz.prog 419 [AV.intss g,.i c] (AV.ints ((parsOf g).getD c default)):=by
 intro H;refine aC (n:=12) Tryz.func419 λB I w0=>?_;refine Z12 ?_;refine cd (λh0=>?_) λh0=>?_
 ·have h0:c<3:=by omega
  refine Z7 ?_;refine Done.retR (rs:=[.tmp 4]) (H':=H) rfl (.tmp rfl (.nil)) (.cons (AVle.nil 1) .nil) Yd ?_;exact⟨by rw[pars_low h0];rfl,rfl⟩
 ·have h0: ¬c<3:=by omega
  refine Z13 ?_;refine r1 4 (H) ?_;exact⟨by rw[pars_own h0,show ((c:Int) - 3).toNat=c - 3 by omega];rfl,rfl⟩
theorem rWout(l:List Int)(hl:l.length<=1000000)(x:Int):PCall Tryz.prog 420 [AV.ints l,.i x] (AV.ints (l.filter (· !=x))):=by
 intro H;refine aC (n:=27) Tryz.func420 λB I w0=>?_;refine Z17 ?_;refine CW.ownNil 5 3 1 rfl ?_;refine lj (λm st=>∃(i:Nat) (v:Value),st=⟨[(6,.i i),(5,.as (AV.ints ((l.take i).filter (· !=x))) v),(0,AV.ints l),(1,.i x)],.own 3 1 v::H⟩/\m=l.length - i/\i<=l.length) (⟨0,_,rfl,rfl,Yb⟩) ?_;rintro m _ ⟨i,v,rfl,rfl,hi⟩;refine Z9 ?_;refine cd (λh0=>?_) λh0=>?_
 ·have hil:i<l.length:=by omega
  refine Z14 ?_;refine cd (λh1=>?_) λh1=>?_
  ·have hne:(l.getD i default !=x)=true:=by simpa using h1
   refine Z6 ?_;refine OL.popC (x:=.sl 1 [[.i (l.getD i default)]]) rfl rfl rfl (POp.row rfl rfl Yj rfl rfl rfl rfl rfl rfl) ?_;refine OL.appendC rfl rfl rfl rfl rfl rfl rfl rfl (AVle.refl _) (rfl) (λv=>by repeat (first | exact Upd.head _ _ _ | apply Upd.tail)) YK YK (λv25=>?_);refine Z9 ?_;exact ag (⟨i+1,v25,by rw[filter_yes hil hne],rfl,hil⟩)
  ·have hne:(l.getD i default !=x)=false:=by simpa using h1
   refine Z8 ?_;exact ag (⟨i+1,v,by rw[filter_no hil hne],rfl,hil⟩)
 ·obtain rfl:i=l.length:=by omega
  rw[List.take_length];refine Z12 ?_;refine Done.retR (rs:=[.tmp 4]) (H':=H) rfl (.tmp rfl (.nil)) (.cons (AVle.asL _ _) .nil) Yd ?_;exact⟨Yav,rfl⟩
theorem rFree(all:List (List Int))(x:Int):PCall Tryz.prog 421 [AV.intss all,.i x] (.b (headOk all x)):=by
 intro H;refine aC (n:=27) Tryz.func421 λB I w0=>?_;refine CW.boundM (t:=0) rfl (λhb0=>?_);refine Z12 ?_;refine lj (λm st=>∃i:Nat,st=⟨[(5,.i i),(0,AV.intss all),(1,.i x)],H⟩/\m=all.length - i/\i<=all.length/\((all.take i).any λm=>m.tail.contains x)=false) (⟨0,rfl,rfl,Yb,rfl⟩) ?_;rintro m _ ⟨i,rfl,rfl,hi,ha⟩;refine Z9 ?_;refine cd (λh0=>?_) λh0=>?_
 ·have hil:i<all.length:=by omega
  refine Z17 ?_;refine OL.guardC rfl rfl rfl rfl rfl rfl (λhg=>POp.slFrom (n:=1) rfl rfl (gd hg) rfl (gd hg) (by have:=of_decide_eq_true hg;omega)) ?_;refine Z1 ?_;refine OL.guardC rfl rfl rfl rfl rfl rfl (λhg=>POp.call (.mk' rfl rfl rfl rfl Yc) (rHas ((all.getD i default).drop 1) x)) ?_;refine Z3 ?_;refine CW.cond rfl (λh1=>?_) (λh1=>?_)
  ·refine Z11 ?_;refine r1 4 (H) ?_;exact⟨retB (by rw[headOk_any,any_getD hil (head_in h1)];rfl),rfl⟩
  ·refine Z8 ?_;exact ag (⟨i+1,rfl,rfl,hil,by rw[any_takeB hil,ha,head_out h1];rfl⟩)
 ·obtain rfl:i=all.length:=by omega
  rw[List.take_length] at ha;refine Z11 ?_;refine r1 4 (H) ?_;exact⟨retB (by rw[headOk_any,ha];rfl),rfl⟩
def posL(A:List (List Int)):Prop:=∀l∈A,∀x∈l,0<=x
theorem posL.drop(h:posL A)(x:Int):posL (dropH x A):=λl hl y hy=>by
 obtain⟨_,l',h1,h2⟩:=mem_dropH hl hy;exact h l' h1 y h2
theorem posL.head(h:posL A){i:Nat}(hi:i<A.length)(hl:0<(A.getD i default).length):0<=(A.getD i default).getD 0 default:=h _ (getD_memB hi) _ (getD_memB hl)
structure NextAt(A:List (List Int))(i:Nat)(nx:Option Int)(lf:Bool):Prop where
 lf:nx=none->lf= !((A.take i).all List.isEmpty)
 no:nx=none->nextH A A=nextH A (A.drop i)
 yes:∀h,nx=some h->nextH A A=some h/\0<=h/\∃l∈A,h∈l
theorem NextAt.begin(A:List (List Int)):NextAt A 0 none false:=⟨λ_=>rfl,λ_=>rfl,λh e=>by cases e⟩
theorem NextAt.empty{lf:Bool}(h:NextAt A i none lf)(hi:i<A.length)(he:A.getD i default= []):NextAt A (i+1) none lf:=
 ⟨λ_=>by rw[all_takeB hi,he,h.lf rfl];simp,λ_=>by rw[h.no rfl,drop_getD hi,next_nil he],λh e=>by cases e⟩
theorem NextAt.miss{lf:Bool}(h:NextAt A i none lf)(hi:i<A.length)(hl:0<(A.getD i default).length)(hf:headOk A ((A.getD i default).getD 0 default)=false):NextAt A (i+1) none true:=
 ⟨λ_=>by rw[all_takeB hi,len_empty hl,Bool.and_false];rfl,λ_=>by rw[h.no rfl,drop_getD hi,next_no hl hf],λh e=>by cases e⟩
theorem NextAt.hit{lf:Bool}(h:NextAt A i none lf)(hp:posL A)(hi:i<A.length)(hl:0<(A.getD i default).length)(hf:headOk A ((A.getD i default).getD 0 default)=true):NextAt A (i+1) (some ((A.getD i default).getD 0 default)) true:=
 ⟨λe=>(by cases e),λe=>(by cases e),λh' e=>by cases e;exact⟨by rw[h.no rfl,drop_getD hi,next_yes hl hf],hp.head hi hl,_,getD_memB hi,getD_memB hl⟩⟩
theorem total_mem{h:Int}(hl:l∈A)(hh:h∈l):total (dropH h A)<total A:=by
 obtain⟨i,hi,rfl⟩:=List.mem_iff_getElem.1 hl;exact total_lt h A i hi (by rw[List.getD_eq_getElem?_getD,List.getElem?_eq_getElem hi];exact hh)
theorem rMerge(all:List (List Int))(hp:posL all)(ht:total all<=1000)(hl:all.length<=1000):PCall Tryz.prog 371 [AV.intss all] (.tup [AV.ints (mergeP all).1,.b (mergeP all).2]):=by
 intro H;refine aC (n:=65) Tryz.func371 λB I w0=>?_;refine Z12 ?_;refine CW.ownNil 4 3 1 rfl ?_;refine lj (λm st=>∃(A:List (List Int)) (out:List Int) (n:Nat) (v:Value),st=⟨[(0,AV.intss A),(4,.as (AV.ints out) v)],.own 3 1 v::H⟩/\m=n/\total A<n/\mergeN n A out=mergeP all/\total A+out.length<=total all/\A.length=all.length/\posL A) (⟨all,[],total all+1,_,rfl,rfl,Yb,rfl,Yn,rfl,hp⟩) ?_;rintro m _ ⟨A,out,n,v,rfl,rfl,hn,hm,hto,hA,hpA⟩;obtain⟨n,rfl⟩:∃q,m=q+1:=⟨m - 1,Yb⟩;refine Z14 ?_;refine lj (λm st=>∃(i:Nat) (nx:Option Int) (lf:Bool),st=⟨[(7,.i i),(5,.i (nx.getD (-1))),(6,.b lf),(0,AV.intss A),(4,.as (AV.ints out) v)],.own 3 1 v::H⟩/\m=A.length - i/\i<=A.length/\NextAt A i nx lf) (⟨0,none,false,rfl,rfl,Yb,.begin A⟩) ?_;rintro m _ ⟨i,nx,lf,rfl,rfl,hi,hN⟩;refine Z13 ?_;refine CW.cond rfl (λh0=>?_) (λh0=>?_)
 ·rw[Bool.cond_false_right,Bool.and_eq_true,decide_eq_true_eq,decide_eq_true_eq] at h0;obtain⟨h0,hn0⟩:=h0;have hil:i<A.length:=by omega
  obtain rfl:nx=none:=by
   cases nx with
   | none=>rfl
   | some h=>have:=(hN.yes h rfl).2.1;simp only[Option.getD_some] at hn0;omega
  refine Z14 ?_;refine cd (λh1=>?_) λh1=>?_
  ·have hLn:0<(A.getD i default).length:=by omega
   refine Z14 ?_;refine oP (POp.call .k (rFree A ((A.getD i default).getD 0 default))) ?_;refine Z2 ?_;refine cd (λh2=>?_) λh2=>?_
   ·refine Z16 ?_;exact ag (⟨i+1,some ((A.getD i default).getD 0 default),true,rfl,rfl,hil,hN.hit hpA hil hLn h2⟩)
   ·refine Z8 ?_;exact ag (⟨i+1,none,true,rfl,rfl,hil,hN.miss hil hLn h2⟩)
  ·have hLe:(A.getD i default)= []:=List.eq_nil_of_length_eq_zero Yb;refine Z8 ?_;exact ag (⟨i+1,none,lf,rfl,rfl,hil,hN.empty hil hLe⟩)
 ·rw[Bool.cond_false_right,Bool.and_eq_false_iff,decide_eq_false_iff_not,decide_eq_false_iff_not] at h0;refine Z12 ?_;refine cd (λh3=>?_) λh3=>?_
  ·obtain rfl:nx=none:=by
    cases nx with
    | none=>rfl
    | some h=>have:=(hN.yes h rfl).2.1;simp only[Option.getD_some] at h3;omega
   obtain rfl:i=A.length:=by
    rcases h0 with h0 | h0
    ·omega
    ·exact absurd h3 h0
   have hnx:=hN.no rfl;have hlf:=hN.lf rfl;rw[List.drop_length] at hnx;rw[List.take_length] at hlf;refine Z14 ?_;refine Done.retR (rs:=[.tmp 2,.tmp 3]) (H':=H) rfl (.tmp rfl (.tmp rfl (.nil))) (.cons (AVle.asL _ _) (.cons (.refl _) .nil)) Yd ?_;exact⟨by rw[<-hm,merge_none hnx,hlf,Bool.not_not];rfl,rfl⟩
  ·obtain⟨h,rfl⟩:∃h,nx=some h:=by
    cases nx with
    | none=>simp at h3
    | some h=>exact⟨h,rfl⟩
   obtain⟨hsome,h0h,l0,hl0,hh0⟩:=hN.yes h rfl;rw[show (some h).getD (-1)=h from rfl];have hlt:=total_mem hl0 hh0;have hle:=total_dropH h A;refine Z6 ?_;refine OL.popC (x:=.sl 1 [[.i h]]) rfl rfl rfl (POp.row rfl rfl Yj rfl rfl rfl rfl rfl rfl) ?_;refine OL.appendC rfl rfl rfl rfl rfl rfl rfl rfl (AVle.refl _) (rfl) (λv=>by repeat (first | exact Upd.head _ _ _ | apply Upd.tail)) (by simp only[List.length_map,List.length_singleton] at*;omega) (by simp only[List.length_map,List.length_singleton] at*;omega) (λv48=>?_);refine Z15 ?_;refine CW.ownNil 8 23 1 rfl ?_;refine lj (λm st=>∃(k:Nat) (w:Value),st=⟨[(9,.i k),(0,AV.intss A),(8,.as (AV.intss (dropH h (A.take k))) w),(5,.i h),(4,.as (.sl 1 ((out.map λn=>[AV.i n])++[[AV.i h]])) v48)],.own 23 1 w::.own 3 1 v48::H⟩/\m=A.length - k/\k<=A.length) (⟨0,_,rfl,rfl,Yb⟩) ?_;rintro m _ ⟨k,w,rfl,rfl,hk⟩;refine Z9 ?_;refine cd (λh4=>?_) λh4=>?_
   ·have hkl:k<A.length:=by omega
    have hkt:=len_total A k hkl;refine Z11 ?_;refine oP (POp.call .k (rWout (A.getD k default) Yb h)) ?_;refine OL.popC (x:=.sl 1 [[AV.ints ((A.getD k default).filter (· !=h))]]) rfl rfl rfl (POp.row rfl rfl Yj rfl rfl rfl rfl rfl rfl) ?_;refine OL.appendC rfl rfl rfl rfl rfl rfl rfl rfl (AVle.refl _) (rfl) (λv=>by repeat (first | exact Upd.head _ _ _ | apply Upd.tail)) Yt Yt (λv63=>?_);refine Z9 ?_;exact ag (⟨k+1,v63,by rw[dropH_snoc _ hkl],rfl,hkl⟩)
   ·obtain rfl:k=A.length:=by omega
    rw[List.take_length];refine Z5 ?_;refine CW.le 8 (y:=AV.intss (dropH h A)) rfl (AVle.asL _ _) ?_;refine Z5 ?_;exact ag (⟨dropH h A,out++[h],n,v48,by rw[ints_snoc],rfl,Yb,by rw[<-hm,merge_some hsome],Y5,by rw[dropH_len,hA],hpA.drop h⟩)
theorem getD_def0(O:List (List Int))(k:Nat):O.getD k default=O.getD k []:=rfl
theorem rLists(hg:fineP g=true){O:List (List Int)}(hO:OrdsOk O)(hc:O.length<3+g.length):PCall Tryz.prog 370 [AV.intss g,AV.intss O,.i O.length] (.tup [AV.intss ((listsP O ((parsOf g).getD O.length default)).getD []),.b (listsP O ((parsOf g).getD O.length default)).isSome]):=by
 intro H;refine aC (n:=44) Tryz.func370 λB I w0=>?_;obtain⟨ps,hps⟩:∃ps,ps=((parsOf g).getD O.length default):=⟨_,rfl⟩;have hpo:=parsOf_ps hg O.length;have hgl:=fineP_len hg;have hpc:=rPars Yb hc;rw[<-hps] at hpo hpc ⊢;have hp3:=hpo.1;refine Z15 ?_;refine oP (POp.call .k (hpc)) ?_;refine Z10 ?_;refine CW.ownNil 8 23 1 rfl ?_;refine lj (λm st=>∃(i:Nat) (v:Value),st=⟨[(10,.i i),(9,AV.ints ps),(1,AV.intss O),(8,.as (AV.intss ((ps.take i).map (λp=>bareL (O.getD p.toNat [])))) v)],.own 23 1 v::H⟩/\m=ps.length - i/\i<=ps.length/\∀p∈ps.take i,O.getD p.toNat []≠ []) (⟨0,_,rfl,rfl,Yb,Yn⟩) ?_;rintro m _ ⟨i,v,rfl,rfl,hi,hne⟩;refine Z9 ?_;refine cd (λh0=>?_) λh0=>?_
 ·have hil:i<ps.length:=by omega
  obtain⟨p,hp⟩:∃p,p=ps.getD i default:=⟨_,rfl⟩;have hpm:p∈ps:=hp▸getD_memB hil;have hpr:=hpo.2 p hpm;have hol:=hO.len p.toNat;have hpi:ps.getD i default=p:=hp.symm;refine Z12 ?_;refine oP (YX) ?_;refine Z5 ?_;refine CW.cond rfl (λh1=>?_) (λh1=>?_)
  ·rw[hpi] at h1;have he:O.getD p.toNat []= []:=List.eq_nil_of_length_eq_zero (by have:=beq_iff_eq.1 h1;exact Int.ofNat.inj this);refine Z13 ?_;refine Done.retR (rs:=[.tmp 6,.tmp 7]) (H':=H) rfl (.tmp rfl (.tmp rfl (.nil))) (.cons (AVle.nil 1) (.cons (.refl _) .nil)) Yd ?_;exact⟨by rw[lists_none hpm he];rfl,rfl⟩
  ·rw[hpi] at h1;have he:O.getD p.toNat []≠ []:=λe=>by
    rw[show O.getD p.toNat default= [] from e] at h1;simp at h1
   refine Z9 ?_;refine oP (YX) ?_;refine Z1 ?_;refine oP (POp.call .k ((by have h:=rWout (O.getD p.toNat []) Yb 0;rw[<-getD_def0, <-hpi] at h;exact h))) ?_;rw[hpi];refine OL.popC (x:=.sl 1 [[AV.ints (bareL (O.getD p.toNat []))]]) rfl rfl rfl (POp.row rfl rfl Yj rfl rfl rfl rfl rfl rfl) ?_;refine OL.appendC rfl rfl rfl rfl rfl rfl rfl rfl (AVle.refl _) (rfl) (λv=>by repeat (first | exact Upd.head _ _ _ | apply Upd.tail)) Yg Yg (λv39=>?_);refine Z9 ?_;exact ag (⟨i+1,v39,by rw[intss_snocF (λp=>bareL (O.getD p.toNat [])) ps hil,hpi],rfl,hil,λq hq=>by rw[<-take_getD hil,List.mem_append,List.mem_singleton,hpi] at hq;rcases hq with hq | rfl;exact hne q hq;exact he⟩)
 ·obtain rfl:i=ps.length:=by omega
  rw[List.take_length] at hne ⊢;refine Z9 ?_;refine OL.popC (x:=.sl 1 [[AV.ints ps]]) rfl rfl rfl (POp.row rfl rfl Yj rfl rfl rfl rfl rfl rfl) ?_;refine OL.appendC rfl rfl rfl rfl rfl rfl rfl rfl (AVle.refl _) (rfl) (λv=>by repeat (first | exact Upd.head _ _ _ | apply Upd.tail)) Yg Yg (λv43=>?_);refine Z5 ?_;refine Done.retR (rs:=[.tmp 6,.tmp 7]) (H':=H) rfl (.tmp rfl (.tmp rfl (.nil))) (.cons (AVle.asL _ _) (.cons (.refl _) .nil)) Yd ?_;exact⟨by rw[lists_some hne];show _=AV.tup [AV.sl 1 (List.map _ (_++_)),_];rw[List.map_append];rfl,rfl⟩
theorem lists_pos{O:List (List Int)}{ps:List Int}{all:List (List Int)}(hO:OrdsOk O)(hps:psOk O.length ps)(h:listsP O ps=some all):posL all:=by
 obtain⟨rfl,_⟩:=lists_mem h;intro l hl x hx;rcases List.mem_append.1 hl with h | h
 ·obtain⟨p,hp,rfl⟩:=List.mem_map.1 h;have hp2:=hps.2 p hp;exact ((hO p.toNat Yb).in_ x (List.mem_filter.1 hx).1).1
 ·simp at h;subst h;have:=hps.2 x hx;omega
theorem intss_snoc1(l:List (List Int))(x:List Int):AV.intss (l++[x])= .sl 1 ((l.map λx=>[AV.ints x])++[[AV.ints x]]):=by
 show AV.sl 1 (List.map _ (_++_))=_;rw[List.map_append];rfl
theorem rOrders(hg:fineP g=true):PCall Tryz.prog 309 [AV.intss g] (AV.intss (ordersP g)):=by
 intro H;refine aC (n:=44) Tryz.func309 λB I w0=>?_;have hgl:=fineP_len hg;refine Z7 ?_;refine OL.popC (x:=.sl 1 [[.i 0]]) rfl rfl rfl (POp.row rfl rfl Yj rfl rfl rfl rfl rfl rfl) ?_;refine OL.rowOwn rfl rfl rfl rfl Yj rfl rfl rfl rfl rfl rfl rfl (λv11=>?_);refine Z10 ?_;refine lj (λm st=>∃(O:List (List Int)) (v:Value),st=⟨[(4,.i O.length),(3,.as (AV.intss O) v),(0,AV.intss g)],.own 23 1 v::H⟩/\m=3+g.length - O.length/\(1<=O.length/\O.length<=3+g.length)/\O=ordT g O.length) (⟨[[0]],_,rfl,rfl,YB,rfl⟩) ?_;rintro m _ ⟨O,v,rfl,rfl,hOl,hOT⟩;refine Z10 ?_;refine cd (λh0=>?_) λh0=>?_
 ·have hil:O.length<3+g.length:=by omega
  have hO:OrdsOk O:=by have h:=ordT_ok hg O.length hOl.2;rwa [<-hOT] at h
  have hpo:=parsOf_ps hg O.length;have hol:=(orderP_ok hO hpo).len;have h0n:O.length≠0:=by omega
  have hsn:=ordT_succ' hil;rw[<-hOT] at hsn;refine Z14 ?_;refine oP (POp.callLe .k (.cons (.refl _) (.cons (AVle.asL _ _) (.cons (.refl _) .nil))) (rLists hg hO hil)) ?_;refine Z7 ?_;refine CW.cutJ (λst=>st=⟨[(5,AV.ints (orderP O O.length ((parsOf g).getD O.length default))),(4,.i O.length),(3,.as (AV.intss O) v),(0,AV.intss g)],.own 23 1 v::H⟩) ?_ ?_
  ·refine Z5 ?_;refine CW.cond rfl (λh1=>?_) (λh1=>?_)
   ·obtain⟨all,hl⟩:=Option.isSome_iff_exists.1 h1;obtain⟨ht1,ht2⟩:=lists_total hO hpo.1 hl;rw[hl,Option.getD_some];refine Z3 ?_;refine oP (POp.call .k (rMerge all (lists_pos hO hpo hl) Yb Yb)) ?_;refine Z12 ?_;refine CW.cond rfl (λh2=>?_) (λh2=>?_)
    ·rw[order_yes h0n hl h2] at hol;simp only[List.length_cons,List.length_append,List.length_nil] at hol;refine Z2 ?_;refine OL.rowOwn rfl rfl rfl rfl Yj rfl rfl rfl rfl rfl rfl rfl (λv34=>?_);refine OL.le 34 (y:=.as (.sl 1 [[.i O.length]]) v34) rfl (AVle.refl _) ?_;refine Z1 ?_;refine OL.appendC rfl rfl rfl rfl rfl rfl rfl rfl (AVle.refl _) (one_ints _) (λv=>by repeat (first | exact Upd.head _ _ _ | apply Upd.tail)) YB YB (λv36=>?_);refine OL.popC (x:=.sl 1 [[.i 0]]) rfl rfl rfl (POp.row rfl rfl Yj rfl rfl rfl rfl rfl rfl) ?_;refine OL.appendC rfl rfl rfl rfl rfl rfl rfl rfl (AVle.refl _) (rfl) (λv=>by repeat (first | exact Upd.head _ _ _ | apply Upd.tail)) YB YB (λv38=>?_);refine Z2 ?_;refine Done.le 5 (y:=AV.ints (orderP O O.length ((parsOf g).getD O.length default))) rfl (by rw[order_yes h0n hl h2,ord_cells];exact AVle.asL _ _) ?_;exact cj rfl
    ·refine Z1 ?_;refine Done.le 5 (y:=AV.ints (orderP O O.length ((parsOf g).getD O.length default))) rfl (by rw[order_no h0n hl h2];exact AVle.nil 1) ?_;exact cj rfl
   ·have hl:listsP O ((parsOf g).getD O.length default)=none:=Option.not_isSome_iff_eq_none.1 (by rw[h1];simp);refine Z1 ?_;refine Done.le 5 (y:=AV.ints (orderP O O.length ((parsOf g).getD O.length default))) rfl (by rw[order_none h0n hl];exact AVle.nil 1) ?_;exact cj rfl
  ·rintro _ rfl;refine Z3 ?_;refine OL.popC (x:=.sl 1 [[AV.ints (orderP O O.length ((parsOf g).getD O.length default))]]) rfl rfl rfl (POp.row rfl rfl Yj rfl rfl rfl rfl rfl rfl) ?_;refine OL.appendC rfl rfl rfl rfl rfl rfl rfl rfl (AVle.refl _) (rfl) (λv=>by repeat (first | exact Upd.head _ _ _ | apply Upd.tail)) YY YY (λv42=>?_);refine Z9 ?_;exact ag (⟨O++[orderP O O.length ((parsOf g).getD O.length default)],v42,by rw[intss_snoc1,List.length_append,List.length_singleton],by rw[List.length_append,List.length_singleton],Y5,by rw[List.length_append,List.length_singleton,hsn]⟩)
 ·have hle:O.length=3+g.length:=by omega
  rw[hle,ordT_all] at hOT;refine Z12 ?_;refine Done.retR (rs:=[.tmp 2]) (H':=H) rfl (.tmp rfl (.nil)) (.cons (AVle.asL _ _) .nil) Yd ?_;exact⟨by rw[hOT];rfl,rfl⟩
theorem rLin(hg:fineP g=true){c:Int}(h0:0<=c)(hc:c<3+g.length):PCall Tryz.prog 259 [AV.intss g,.i c] (.tup [AV.ints (linP g c),.b (!(linP g c).isEmpty)]):=by
 intro H;refine aC (n:=16) Tryz.func259 λB I w0=>?_;have hl:(ordersP g).length=3+g.length:=by have h:=ordT_len (g:=g) (Nat.le_refl (3+g.length));rwa [ordT_all] at h
 refine Z9 ?_;refine oP (POp.call .k (rOrders hg)) ?_;refine Z17 ?_;refine rR [.tmp 4,.tmp 5] (H) ?_;exact⟨by rw[show (ordersP g).getD c.toNat default=linP g c from rfl];cases linP g c <;> simp[tupOf],rfl⟩
instance:HasMk Tryz.prog 59 (4,1,.bool false):=⟨Ya⟩
abbrev AV.bools(o:List Bool):AV:=.sl 1 (o.map λx=>[AV.b x])
theorem p110{W:FW}(h:worldP W=true){c:Int}(h3:3<=c)(hc:c<3+W.parents.length):PCall Tryz.prog 223 [AV.world W,.i c] (AV.bools (upR W c.toNat)):=by
 intro H;refine aC (n:=48) Tryz.func223 λB I w0=>?_;have hW:=world_len h;refine CW.boundA (t:=0) (i:=0) rfl rfl (λhb0=>?_);refine Z12 ?_;refine OL.mkSlC (3+W.parents.length) rfl rfl rfl rfl rfl rfl rfl rfl Yb Yb (by simp[maxLen];omega) (λb5=>?_);refine Z4 ?_;rw[bl_new];refine Z3 ?_;refine oP (POp.ixC rfl rfl rfl rfl rfl Yb) ?_;apply OL.stoC rfl rfl rfl rfl rfl rfl rfl rfl rfl rfl
 (case hu=>repeat (first | exact Upd.head _ _ _ | apply Upd.tail));(case hfit=>exact bl_fit (i:=c.toNat) YB);(case hds=>exact bl_set (i:=c.toNat) YB rfl)
 refine Z10 ?_;refine lj (λm st=>∃(i:Int) (o:List Bool),st=⟨[(6,.i i),(5,.val (.slice (some ⟨b5,0,none⟩) (3+W.parents.length) (3+W.parents.length))),(2,.ptr (Wcells W))],.blk b5 4 (bl o)::H⟩/\m=(i - 2).toNat/\2<=i/\i<=c/\o.length=3+W.parents.length/\upDown W (i - 2).toNat o=upR W c.toNat) (⟨c,(List.replicate (3+W.parents.length) false).set c.toNat true,rfl,rfl,Yb,Yb,Yn,by rw[upR,show (c - 2).toNat=c.toNat - 2 from by omega]⟩) ?_;rintro m _ ⟨i,o,rfl,rfl,hi2,hic,hol,hup⟩;refine Z7 ?_;refine cd (λh0=>?_) λh0=>?_
 ·have hp:=pars_lt h (i:=(i - 3).toNat) Yb;refine Z17 ?_;refine lj (λm st=>∃(j:Nat) (o2:List Bool),st=⟨[(29,.i j),(28,.i (W.parents.getD (i - 3).toNat default).length),(27,AV.ints (W.parents.getD (i - 3).toNat default)),(6,.i i),(5,.val (.slice (some ⟨b5,0,none⟩) (3+W.parents.length) (3+W.parents.length))),(2,.ptr (Wcells W))],.blk b5 4 (bl o2)::H⟩/\m=(W.parents.getD (i - 3).toNat default).length - j/\j<=(W.parents.getD (i - 3).toNat default).length/\o2.length=3+W.parents.length/\upIn o2 i.toNat ((W.parents.getD (i - 3).toNat default).drop j)=upIn o i.toNat (W.parents.getD (i - 3).toNat default)) (⟨0,o,rfl,rfl,Yb,hol,rfl⟩) ?_;rintro m _ ⟨j,o2,rfl,rfl,hj,ho2,hin⟩;refine Z1 ?_;refine CW.boundM (t:=27) rfl (λhbl=>?_);refine Z5 ?_;refine cd (λh1=>?_) λh1=>?_
  ·refine Z11 ?_;have hpj:3<=(W.parents.getD (i - 3).toNat default).getD j default/\(W.parents.getD (i - 3).toNat default).getD j default<i:=by
    have:=hp ((W.parents.getD (i - 3).toNat default).getD j default) (getD_mem Yb);omega
   refine Z5 ?_;refine oP (POp.ixC rfl rfl rfl rfl rfl Yb) ?_;refine oP ((by first | exact POp.ld1 rfl rfl rfl rfl | (apply POp.ld1H rfl rfl rfl;(case hm=>repeat (first | exact .head _ | refine .tail _ ?_));(case hy=>exact bl_get (i:=((W.parents.getD (i - 3).toNat default).getD j default).toNat) Yb)))) ?_;refine Z3 ?_;refine OL.guardC rfl rfl rfl rfl rfl rfl (λhg=>POp.ixC rfl rfl (gd hg) rfl (gd hg) Yb) ?_;refine OL.guardC rfl rfl rfl rfl rfl rfl (λhg=>(by first | exact POp.ld1 rfl rfl (gd hg) rfl | (apply POp.ld1H rfl rfl (gd hg);(case hm=>repeat (first | exact .head _ | refine .tail _ ?_));(case hy=>exact bl_get (i:=i.toNat) Yb)))) ?_;refine Z1 ?_;refine oP (POp.ixC rfl rfl rfl rfl rfl Yb) ?_;apply OL.stoC rfl rfl rfl rfl rfl rfl rfl rfl rfl rfl
   (case hu=>repeat (first | exact Upd.head _ _ _ | apply Upd.tail));(case hfit=>exact bl_fit (i:=((W.parents.getD (i - 3).toNat default).getD j default).toNat) Yb);(case hds=>exact bl_set (i:=((W.parents.getD (i - 3).toNat default).getD j default).toNat) Yb rfl)
   refine Z7 ?_;exact ag (⟨j+1,o2.set ((W.parents.getD (i - 3).toNat default).getD j default).toNat (bif o2.getD ((W.parents.getD (i - 3).toNat default).getD j default).toNat false then true else o2.getD i.toNat false),rfl,rfl,Yb,by rw[List.length_set];exact ho2,by rw[<-upIn_step Yb];exact hin⟩)
  ·obtain rfl:j=(W.parents.getD (i - 3).toNat default).length:=by omega
   rw[List.drop_length,upIn] at hin;refine Z11 ?_;exact ag (⟨i - 1,o2,rfl,rfl,Yb,Yb,ho2,by rw[hin, <-hup,show (i - 2).toNat=(i - 3).toNat+1 from by omega,upDown,show 3+(i - 3).toNat=i.toNat from by omega,show (i - 1 - 2).toNat=(i - 3).toNat from by omega]⟩)
 ·obtain rfl:i=2:=by omega
  rw[show ((2:Int) - 2).toNat=0 from rfl,upDown] at hup;subst hup;refine Z6 ?_;rw[bl_flat];refine CW.freezeS (d:=5) (k:=1) rfl Yr (by simp[hol]) (by intro e he;obtain⟨x,_,rfl⟩:=List.mem_map.1 he;rfl) Yb (by simp[maxLen];omega) ?_;refine Z6 ?_;refine r1 4 (H) ?_;exact⟨Yav,rfl⟩
theorem p52{W:FW}(h:worldP W=true){a b:Int}(ha:classP W a=true)(hb:classP W b=true):PCall Tryz.prog 148 [AV.world W,.i a,.i b] (.b (belowP W a b)):=by
 intro H;refine aC (n:=24) Tryz.func148 λB I w0=>?_;have hW:=world_len h;simp only[classP,Bool.and_eq_true,decide_eq_true_eq] at ha hb;refine Z18 ?_;refine cd (λh0=>?_) λh0=>?_
 ·refine Z7 ?_;refine r1 6 (H) ?_;exact⟨retB (by rw[below_up];symm;rw[bif_or,Bool.or_eq_true,beq_iff_eq,beq_iff_eq] at h0;rcases h0 with e | e;(· subst e;exact upB_self h Yb);(· subst e;exact upB_zero h Yb)),rfl⟩
 ·refine Z9 ?_;refine cd (λh1=>?_) λh1=>?_
  ·refine Z7 ?_;refine r1 6 (H) ?_;exact⟨retB (by rw[below_up,upB_low Yb];symm;rw[bif_or,Bool.or_eq_false_iff,beq_eq_false_iff_ne,beq_eq_false_iff_ne] at h0;rw[Bool.or_eq_false_iff,beq_eq_false_iff_ne,beq_eq_false_iff_ne];omega),rfl⟩
  ·refine Z6 ?_;refine oP (POp.call .k (p110 h Yb Yb)) ?_;refine Z7 ?_;refine oP ((by first | exact POp.ixM rfl rfl rfl rfl rfl (by simp[upR_len];omega) | exact POp.ixI rfl rfl rfl rfl rfl (by simp[upR_len];omega))) ?_;refine Z5 ?_;refine r1 6 (H) ?_;exact⟨retB (by rw[bif_or,Bool.or_eq_false_iff,beq_eq_false_iff_ne,beq_eq_false_iff_ne] at h0;exact upR_get h Yb Yb Yb),rfl⟩
theorem p98_step(f:Fact)(ih:∀k∈f.kids,∀n:Int,0<=n->n<=1000000->PCall Tryz.prog 193 [AV.fact k,.i n] (.i (min (nodesN k:Int) (n+1))))(n:Int)(h0n:0<=n)(h1n:n<=1000000):PCall Tryz.prog 193 [AV.fact f,.i n] (.i (min (nodesN f:Int) (n+1))):=by
 intro H;refine aC (n:=31) Tryz.func193 λB I w0=>?_;refine CW.boundA (t:=0) (i:=5) rfl rfl (λhb0=>?_);refine Z18 ?_;refine lj (λm st=>∃(i:Nat) (x:Int),st=⟨[(6,.i i),(5,.i x),(2,.ptr (Fcells f)),(1,.i n)],H⟩/\m=f.kids.length - i/\i<=f.kids.length/\x=min (1+nodesNs (f.kids.take i):Int) (n+1)) (⟨0,1,rfl,rfl,Yb,by simp[nodesNs];omega⟩) ?_;rintro m _ ⟨i,x,rfl,rfl,hi,hx⟩;refine Z15 ?_;refine CW.cond rfl (λh0=>?_) (λh0=>?_)
 ·simp only[cond_true,Bool.cond_false_right,Bool.and_eq_true,decide_eq_true_eq] at h0;have hk:=nodesNs_take (l:=f.kids) (j:=i) Yb;refine Z14 ?_;refine oP (POp.call .k (ih (f.kids.getD i default) (getD_mem Yb) _ Yb Yb)) ?_;refine Z10 ?_;exact ag (⟨i+1,x+min (nodesN (f.kids.getD i default):Int) (n - x+1),rfl,rfl,Yb,Yb⟩)
 ·simp only[Bool.cond_false_right,Bool.and_eq_false_iff,decide_eq_false_iff_not] at h0;have hk:=nodesN_eq f;have hl:nodesNs (f.kids.take i)<=nodesNs f.kids:=nodesNs_le _;have hx2:x=min (nodesN f:Int) (n+1):=by
   rcases h0 with e | e
   ·have:i=f.kids.length:=by omega
    rw[this,List.take_length] at hx;omega
   ·omega
  refine Z12 ?_;refine r1 4 (H) ?_;exact⟨retI hx2,rfl⟩
theorem p98:∀(f:Fact) (n:Int),0<=n->n<=1000000->PCall Tryz.prog 193 [AV.fact f,.i n] (.i (min (nodesN f:Int) (n+1))):=Fact.ind1 p98_step
theorem p29(f:Fact):PCall Tryz.prog 118 [AV.fact f] (.i (min (nodesN f:Int) 25)):=by
 intro H;refine aC (n:=5) Tryz.func118 λB I w0=>?_;refine Z9 ?_;refine oP (POp.call .k (p98 f 24 Yb Yb)) ?_;refine Z4 ?_;refine r1 2 (H) ?_;exact⟨Yav,rfl⟩
theorem p86_step(f:Fact)(hn:nodesN f<=1000000)(ih:∀k∈f.kids,PCall Tryz.prog 119 [AV.fact k] (.i (depthN k))):PCall Tryz.prog 119 [AV.fact f] (.i (depthN f)):=by
 intro H;refine aC (n:=20) Tryz.func119 λB I w0=>?_;refine CW.boundA (t:=0) (i:=5) rfl rfl (λhb0=>?_);have hd:=depth_nodes f;have hd2:=depthN_eq f;refine Z21 ?_;refine lj (λm st=>∃(i:Nat) (x:Int),st=⟨[(9,.i i),(8,.i f.kids.length),(7,AV.facts f.kids),(3,.i x),(1,.ptr (Fcells f))],H⟩/\m=f.kids.length - i/\i<=f.kids.length/\x=depthNs (f.kids.take i)) (⟨0,0,rfl,rfl,Yb,by simp[depthNs]⟩) ?_;rintro m _ ⟨i,x,rfl,rfl,hi,hx⟩;refine Z6 ?_;refine cd (λh0=>?_) λh0=>?_
 ·refine Z8 ?_;refine OL.alC rfl rfl rfl rfl (λb0=>?_);refine Z6 ?_;refine oP (POp.call .k (ih (f.kids.getD i default) (getD_mem Yb))) ?_;refine oP (POp.max2 rfl rfl rfl rfl rfl rfl) ?_;refine Z8 ?_;exact ag (⟨i+1,if(depthN (f.kids.getD i default):Int)>x then (depthN (f.kids.getD i default):Int) else x,rfl,rfl,Yb,by rw[<-take_getD Yb,depthNs_snoc];split <;> omega⟩)
 ·obtain rfl:i=f.kids.length:=by omega
  rw[List.take_length] at hx;subst hx;refine Z13 ?_;refine r1 2 (H) ?_;exact⟨retI Yb,rfl⟩
theorem p86:∀f:Fact,nodesN f<=1000000->PCall Tryz.prog 119 [AV.fact f] (.i (depthN f)):=Fact.ind1 λf ih hn=>p86_step f hn λk hk=>ih k hk (by have:=kid_nodes hk;omega)
theorem p72(W:FW)(l:List Int):PCall Tryz.prog 195 [AV.world W,AV.ints l] (.b (pathP W l)):=by
 intro H;refine aC (n:=26) Tryz.func195 λB I w0=>?_;refine CW.boundA (t:=0) (i:=1) rfl rfl (λhb0=>?_);refine CW.boundM (t:=1) rfl (λhb1=>?_);refine Z15 ?_;refine lj (λm st=>∃i:Nat,st=⟨[(9,.i i),(8,.i l.length),(7,AV.ints l),(2,.ptr (Wcells W)),(1,AV.ints l)],H⟩/\m=l.length - i/\i<=l.length/\(l.take i).all (slotP W)=true) (⟨0,rfl,rfl,Yb,rfl⟩) ?_;rintro m _ ⟨i,rfl,rfl,hi,hall⟩;refine Z6 ?_;refine cd (λh0=>?_) λh0=>?_
 ·refine Z24 ?_;refine CW.cond rfl (λh1=>?_) (λh1=>?_)
  ·have hs:slotP W (l.getD i default)=false:=by rw[bif_or] at h1;simp only[Bool.or_eq_true,decide_eq_true_eq] at h1;simp only[slotP,Bool.and_eq_false_iff,decide_eq_false_iff_not];omega
   refine Z11 ?_;refine r1 4 (H) ?_;exact⟨retB (by rw[pathP,path_no Yb hs,Bool.and_false]),rfl⟩
  ·have hs:slotP W (l.getD i default)=true:=by rw[bif_or] at h1;simp only[Bool.or_eq_false_iff,decide_eq_false_iff_not] at h1;simp only[slotP,Bool.and_eq_true,decide_eq_true_eq];omega
   refine Z7 ?_;exact ag (⟨i+1,rfl,rfl,Yb,by rw[<-take_getD Yb,List.all_append,hall];simpa using hs⟩)
 ·obtain rfl:i=l.length:=by omega
  rw[List.take_length] at hall;refine Z14 ?_;refine r1 4 (H) ?_;exact⟨retB (by rw[pathP,hall,Bool.and_true,Bool.eq_iff_iff,decide_eq_true_iff,decide_eq_true_iff];omega),rfl⟩
theorem p87_step{W:FW}(hW:W.parents.length<=60)(f:Fact)(ih:∀k∈f.kids,PCall Tryz.prog 120 [AV.world W,AV.fact k] (.b (wfB W k))):PCall Tryz.prog 120 [AV.world W,AV.fact f] (.b (wfB W f)):=by
 intro H;refine aC (n:=103) Tryz.func120 λB I w0=>?_;refine CW.boundA (t:=1) (i:=5) rfl rfl (λhb0=>?_);refine CW.boundA (t:=1) (i:=2) rfl rfl (λhb1=>?_);refine Z12 ?_;refine CW.cutJ (λst=>∃kd:Int,st=⟨[(5,.i kd),(3,.ptr (Fcells f)),(2,.ptr (Wcells W))],H⟩/\opOk W f kd) ?_ ?_
 ·refine Z13 ?_;refine cd (λh0=>?_) λh0=>?_
  ·refine Z9 ?_;refine OL.guardC rfl rfl rfl rfl rfl rfl (λhg=>POp.call (.mk' rfl rfl rfl rfl Yc) (p51 W _ hW)) ?_;refine Z4 ?_;refine cd (λh1=>?_) λh1=>?_
   ·refine Z8 ?_;refine r1 4 (H) ?_;exact⟨retB (wf_no (op_isno h0 h1)).symm,rfl⟩
   ·refine Z2 ?_;exact cj ⟨0,rfl,op_is h0 h1⟩
  ·refine Z7 ?_;refine cd (λh2=>?_) λh2=>?_
   ·refine Z2 ?_;refine CW.cond rfl (λh3=>?_) (λh3=>?_)
    ·replace h3:=nm h3;refine Z17 ?_;refine cd (λh4=>?_) λh4=>?_
     ·refine Z8 ?_;refine r1 4 (H) ?_;exact⟨retB (wf_no (op_numno (.inl h2) h4)).symm,rfl⟩
     ·refine Z2 ?_;exact cj ⟨0,rfl,op_num (.inl h2) h4⟩
    ·exact absurd h2 (by simpa using h3)
   ·refine Z5 ?_;refine cd (λh5=>?_) λh5=>?_
    ·refine Z17 ?_;refine cd (λh6=>?_) λh6=>?_
     ·refine Z8 ?_;refine r1 4 (H) ?_;exact⟨retB (wf_no (op_numno (.inr h5) h6)).symm,rfl⟩
     ·refine Z2 ?_;exact cj ⟨0,rfl,op_num (.inr h5) h6⟩
    ·refine Z6 ?_;refine cd (λh7=>?_) λh7=>?_
     ·refine Z2 ?_;exact cj ⟨0,rfl,op_else Yb (by rw[h7];rfl)⟩
     ·refine Z6 ?_;refine cd (λh8=>?_) λh8=>?_
      ·refine Z4 ?_;exact cj ⟨1,rfl,op_else Yb (by rw[h8];rfl)⟩
      ·refine Z7 ?_;refine cd (λh9=>?_) λh9=>?_
       ·refine Z2 ?_;refine CW.cond rfl (λh10=>?_) (λh10=>?_)
        ·replace h10:=nm h10;refine Z4 ?_;exact cj ⟨2,rfl,op_else Yb (by rw[h9];rfl)⟩
        ·exact absurd h9 (by simpa using h10)
       ·refine Z5 ?_;refine cd (λh11=>?_) λh11=>?_
        ·refine Z4 ?_;exact cj ⟨2,rfl,op_else Yb (by rw[h11];rfl)⟩
        ·refine Z8 ?_;refine r1 4 (H) ?_;exact⟨retB (wf_no (op_no Yb)).symm,rfl⟩
 ·rintro _ ⟨kd,rfl,hop⟩;refine Z22 ?_;refine OL.guardC rfl rfl rfl rfl rfl rfl (λhg=>POp.call (.mk' rfl rfl rfl rfl Yc) (p72 W f.path)) ?_;refine Z4 ?_;refine cd (λh12=>?_) λh12=>?_
  ·refine Z7 ?_;refine r1 4 (H) ?_;exact⟨retB (by rw[arg_bif] at h12;exact (wf_no (by rw[node_val hop];simp only[Bool.not_eq_true'] at h12;rw[h12];rfl)).symm),rfl⟩
  ·have hna:((f.kids.length:Int)==kd && argP W f)=true:=by rw[arg_bif] at h12;simpa using h12
   refine Z6 ?_;refine oP (POp.call .k (p125 f)) ?_;refine Z24 ?_;refine cd (λh13=>?_) λh13=>?_
   ·refine Z7 ?_;refine r1 4 (H) ?_;exact⟨retB (by rw[node_bif hop hna] at h13;exact (wf_no (by simpa using h13)).symm),rfl⟩
   ·have hno:nodeOkB W f=true:=by rw[node_bif hop hna] at h13;simpa using h13
    refine Z12 ?_;refine lj (λm st=>∃(i:Nat),st=⟨[(94,.i i),(93,.i f.kids.length),(92,AV.facts f.kids),(3,.ptr (Fcells f)),(2,.ptr (Wcells W))],H⟩/\m=f.kids.length - i/\i<=f.kids.length/\(f.kids.take i).all (wfB W)=true) (⟨0,rfl,rfl,Yb,rfl⟩) ?_;rintro m _ ⟨i,rfl,rfl,hi,hall⟩;refine Z6 ?_;refine cd (λh14=>?_) λh14=>?_
    ·refine Z8 ?_;refine OL.alC rfl rfl rfl rfl (λb0=>?_);refine Z7 ?_;refine oP (POp.call .k (ih (f.kids.getD i default) (getD_mem Yb))) ?_;refine Z3 ?_;refine cd (λh15=>?_) λh15=>?_
     ·refine Z11 ?_;refine r1 4 (H) ?_;exact⟨retB (wf_kid_no (i:=i) Yb (by simpa using h15)).symm,rfl⟩
     ·refine Z7 ?_;exact ag (⟨i+1,rfl,rfl,Yb,by rw[<-take_getD Yb,List.all_append,hall];simpa using h15⟩)
    ·obtain rfl:i=f.kids.length:=by omega
     rw[List.take_length] at hall;refine Z11 ?_;refine r1 4 (H) ?_;exact⟨retB (wf_yes hno hall).symm,rfl⟩
theorem p87{W:FW}(hW:W.parents.length<=60):∀f:Fact,PCall Tryz.prog 120 [AV.world W,AV.fact f] (.b (wfB W f)):=Fact.ind1 (p87_step hW)
theorem p20{W:FW}(hW:W.parents.length<=60)(f:Fact):PCall Tryz.prog 54 [AV.world W,AV.fact f] (.b (decide (nodesN f<=24) && decide (depthN f<=12) && wfB W f)):=by
 intro H;refine aC (n:=18) Tryz.func54 λB I w0=>?_;refine Z10 ?_;refine oP (POp.call .k (p29 f)) ?_;refine Z3 ?_;refine OL.guardC rfl rfl rfl rfl rfl rfl (λhg=>POp.call (.mk' rfl rfl rfl rfl Yc) (p86 f (by simp at hg;omega))) ?_;refine Z5 ?_;refine OL.guardC rfl rfl rfl rfl rfl rfl (λhg=>POp.call (.mk' rfl rfl rfl rfl Yc) (p87 hW f)) ?_;refine Z5 ?_;refine r1 4 (H) ?_;exact⟨retB (by rw[show decide (min (nodesN f:Int) 25<=24)=decide (nodesN f<=24) from by rw[decide_eq_decide];omega,show decide ((depthN f:Int)<=12)=decide (depthN f<=12) from by rw[decide_eq_decide];omega];cases decide (nodesN f<=24) <;> cases decide (depthN f<=12) <;> rfl),rfl⟩
theorem world_ownR(h:worldP W=true){s:Nat}(hs:s<W.owner.length):3<=W.owner.getD s default/\W.owner.getD s default<3+W.parents.length:=by
 simp only[worldP,Bool.and_eq_true] at h;have:=List.all_eq_true.1 h.2 _ (getD_memB hs);simpa only[ownP,Bool.and_eq_true,decide_eq_true_eq] using this
def hasR(W:Fc.FW)(c:Int)(s:Nat):Bool:=belowP W c (W.owner.getD s default)
def slotsU(W:Fc.FW)(c:Int)(n:Nat):List Int:=((List.range n).filter (hasR W c)).map λ(s:Nat)=>(s:Int)
theorem slotsU_all(W:Fc.FW)(c:Int):slotsU W c W.owner.length=slotsR W c:=rfl
theorem slotsU_len(W:Fc.FW)(c:Int)(n:Nat):(slotsU W c n).length<=n:=by
 rw[slotsU,List.length_map];exact Nat.le_trans (List.length_filter_le _ _) Yn
theorem slotsU_yes{c:Int}{n:Nat}(h:hasR W c n=true):AV.ints (slotsU W c (n+1))= .sl 1 (((slotsU W c n).map λn=>[AV.i n])++[[AV.i (n:Int)]]):=by
 rw[slotsU,List.range_succ,List.filter_append,List.map_append];rw[show [n].filter (hasR W c)= [n] by simp[h]];exact ints_snoc _ _
theorem slotsU_no{c:Int}{n:Nat}(h:hasR W c n=false):slotsU W c (n+1)=slotsU W c n:=by
 rw[slotsU,List.range_succ,List.filter_append,show [n].filter (hasR W c)= [] by simp[h],List.append_nil];rfl
def thingQ(W:Fc.FW)(n:Int)(t:Th):Bool:=ownP W t.cls && ((slotsR W t.cls).length==t.slots.length) && t.slots.all (valueP n)
theorem thingQ_eq(W:Fc.FW)(n:Int)(t:Th):(bif bif !ownP W t.cls then true else (t.slots.length:Int) !=((slotsR W t.cls).length:Int) then true else !t.slots.all (valueP n))= !thingQ W n t:=by
 unfold thingQ;have e:((slotsR W t.cls).length==t.slots.length)= !((t.slots.length:Int) !=((slotsR W t.cls).length:Int)):=by
  rw[Bool.eq_iff_iff];simp;omega
 rw[e];cases ownP W t.cls <;> cases ((t.slots.length:Int) !=((slotsR W t.cls).length:Int)) <;> cases t.slots.all (valueP n) <;> rfl
def objsR(W:Fc.FW)(objs:List Th):Bool:=decide (objs.length<=40) && objs.all (thingQ W objs.length)
theorem all_step{α:Type}[Inhabited α]{l:List α}{i:Nat}{p:α->Bool}(hi:i<l.length)(h:(l.take i).all p=true)(h2:p (l.getD i default)=true):(l.take (i+1)).all p=true:=by rw[all_takeB hi,h,h2];rfl
theorem all_no{α:Type}[Inhabited α]{l:List α}{i:Nat}{p:α->Bool}(hi:i<l.length)(h2:p (l.getD i default)=false):l.all p=false:=by
 rw[List.all_eq_false];exact⟨_,getD_memB hi,by rw[h2];simp⟩
theorem rHasS(h:worldP W=true){c:Int}(h3:3<=c)(hc:c<3+W.parents.length){s:Nat}(hs:s<W.owner.length):PCall Tryz.prog 174 [AV.world W,.i c,.i s] (.b (hasR W c s)):=by
 intro H;refine aC (n:=19) Tryz.func174 λB I w0=>?_;have ho:=world_ownR h hs;refine Z7 ?_;refine CW.dp mixed ?_;refine Z12 ?_;refine DP.anyC 3 10 19 rfl Yf rfl rfl Yf ?_;refine Z9 ?_;refine OL.guardC rfl rfl rfl rfl rfl rfl (λhg=>POp.call (.mk' rfl rfl rfl rfl Yc) (p52 h (a:=c) (b:=(W.owner.getD s default)) (by simp only[classP,Bool.and_eq_true,decide_eq_true_eq];omega) (by simp only[classP,Bool.and_eq_true,decide_eq_true_eq];omega))) ?_;refine Z5 ?_;refine r1 6 (H) ?_;exact⟨retB (by rw[decide_eq_true (show c>=3 from h3)];rfl),rfl⟩
theorem rSlots(h:worldP W=true){c:Int}(h3:3<=c)(hc:c<3+W.parents.length):PCall Tryz.prog 219 [AV.world W,.i c] (AV.ints (slotsR W c)):=by
 intro H;refine aC (n:=23) Tryz.func219 λB I w0=>?_;have hol:=world_own h;refine Z21 ?_;refine CW.ownNil 5 3 1 rfl ?_;refine lj (λm st=>∃(i:Nat) (v:Value),st=⟨[(10,.i i),(9,.i W.owner.length),(5,.as (AV.ints (slotsU W c i)) v),(2,.ptr (Wcells W)),(1,.i c)],.own 3 1 v::H⟩/\m=W.owner.length - i/\i<=W.owner.length) (⟨0,_,rfl,rfl,Yb⟩) ?_;rintro m _ ⟨i,v,rfl,rfl,hi⟩;refine Z6 ?_;refine cd (λh0=>?_) λh0=>?_
 ·have hil:i<W.owner.length:=by omega
  refine Z15 ?_;refine oP (POp.call .k (rHasS h h3 hc hil)) ?_;refine Z2 ?_;refine CW.cond rfl (λh1=>?_) (λh1=>?_)
  ·refine Z3 ?_;refine OL.popC (x:=.sl 1 [[.i i]]) rfl rfl rfl (POp.row rfl rfl Yj rfl rfl rfl rfl rfl rfl) ?_;refine OL.appendC rfl rfl rfl rfl rfl rfl rfl rfl (AVle.refl _) (rfl) (λv=>by repeat (first | exact Upd.head _ _ _ | apply Upd.tail)) Yaf Yaf (λv20=>?_);refine Z8 ?_;exact ag (⟨i+1,v20,by rw[slotsU_yes h1],rfl,hil⟩)
  ·refine Z7 ?_;exact ag (⟨i+1,v,by rw[slotsU_no h1],rfl,hil⟩)
 ·obtain rfl:i=W.owner.length:=by omega
  rw[slotsU_all];refine Z12 ?_;refine Done.retR (rs:=[.tmp 4]) (H':=H) rfl (.tmp rfl (.nil)) (.cons (AVle.asL _ _) .nil) Yd ?_;exact⟨Yav,rfl⟩
theorem rVal(v:Int×Int)(n:Int):PCall Tryz.prog 138 [AV.mv v,.i n] (.b (valueP n v)):=by
 intro H;refine aC (n:=33) Tryz.func138 λB I w0=>?_;refine Z20 ?_;refine cd (λh0=>?_) λh0=>?_
 ·refine Z16 ?_;refine r1 4 (H) ?_;exact⟨retB (by rw[valueP,if_pos h0,inP];rw[Bool.cond_false_right]),rfl⟩
 ·refine Z6 ?_;refine cd (λh1=>?_) λh1=>?_
  ·refine Z11 ?_;refine r1 4 (H) ?_;exact⟨retB (by rw[valueP,if_neg h0,if_pos h1]),rfl⟩
  ·refine Z6 ?_;refine cd (λh2=>?_) λh2=>?_
   ·refine Z17 ?_;refine r1 4 (H) ?_;exact⟨retB (by rw[valueP,if_neg h0,if_neg h1,if_pos h2,Bool.cond_false_right]),rfl⟩
   ·refine Z9 ?_;refine r1 4 (H) ?_;exact⟨retB (by rw[valueP,if_neg h0,if_neg h1,if_neg h2]),rfl⟩
theorem rVals(l:List (Int×Int))(n:Int):PCall Tryz.prog 137 [AV.mvs l,.i n] (.b (l.all (valueP n))):=by
 intro H;refine aC (n:=18) Tryz.func137 λB I w0=>?_;refine CW.boundM (t:=0) rfl (λhb0=>?_);refine Z14 ?_;refine lj (λm st=>∃i:Nat,st=⟨[(9,.i i),(8,.i l.length),(7,AV.mvs l),(1,.i n)],H⟩/\m=l.length - i/\i<=l.length/\(l.take i).all (valueP n)=true) (⟨0,rfl,rfl,Yb,rfl⟩) ?_;rintro m _ ⟨i,rfl,rfl,hi,ha⟩;refine Z6 ?_;refine cd (λh0=>?_) λh0=>?_
 ·have hil:i<l.length:=by omega
  refine Z8 ?_;refine OL.alC rfl rfl rfl rfl (λvb=>?_);refine Z4 ?_;refine CW.freezeP (d:=6) rfl Yr ?_;refine Z3 ?_;refine oP (POp.call .k (rVal (l.getD i default) n)) ?_;refine Z3 ?_;refine cd (λh1=>?_) λh1=>?_
  ·refine Z11 ?_;refine r1 4 (H) ?_;exact⟨retB (all_no hil Y7).symm,rfl⟩
  ·refine Z7 ?_;exact ag (⟨i+1,rfl,rfl,hil,all_step hil ha Y7⟩)
 ·obtain rfl:i=l.length:=by omega
  rw[List.take_length] at ha;refine Z11 ?_;refine r1 4 (H) ?_;exact⟨retB ha.symm,rfl⟩
theorem rObjs(h:worldP W=true)(objs:List Th):PCall Tryz.prog 136 [AV.world W,AV.ths objs] (.b (objsR W objs)):=by
 intro H;refine aC (n:=41) Tryz.func136 λB I w0=>?_;have hpl:=world_len h;refine CW.boundM (t:=1) rfl (λhb1=>?_);refine Z14 ?_;refine cd (λh0=>?_) λh0=>?_
 ·refine Z7 ?_;refine r1 4 (H) ?_;exact⟨retB (by rw[objsR,decide_eq_false Yb];rfl),rfl⟩
 ·have h40:objs.length<=40:=by omega
  refine Z11 ?_;refine lj (λm st=>∃i:Nat,st=⟨[(12,.i i),(11,.i objs.length),(10,AV.ths objs),(2,.ptr (Wcells W)),(1,AV.ths objs)],H⟩/\m=objs.length - i/\i<=objs.length/\(objs.take i).all (thingQ W objs.length)=true) (⟨0,rfl,rfl,Yb,rfl⟩) ?_;rintro m _ ⟨i,rfl,rfl,hi,ha⟩;refine Z6 ?_;refine cd (λh1=>?_) λh1=>?_
  ·have hil:i<objs.length:=by omega
   obtain⟨T,hT⟩:∃T,T=(objs.getD i default):=⟨_,rfl⟩;refine Z8 ?_;refine OL.alC rfl rfl rfl rfl (λtb=>?_);refine Z4 ?_;rw[<-hT];refine CW.freezeP (d:=6) rfl Yr ?_;refine CW.dp mixed ?_;refine DP.anyC 0 3 41 rfl Yf rfl rfl Yf ?_;refine Z5 ?_;refine oP (POp.call .k (p85 W T.cls hpl)) ?_;refine Z10 ?_;refine DP.anyC 6 14 41 rfl Yf rfl rfl Yf ?_;refine Z6 ?_;refine AD.guardC rfl rfl rfl rfl rfl (λhg=>POp.call (.mk' rfl rfl rfl rfl Yc) (rSlots h (c:=T.cls) Y0 Y0)) ?_;refine Z14 ?_;refine DP.anyC 17 21 41 rfl Yf rfl rfl Yf ?_;refine Z6 ?_;refine OL.guardC rfl rfl rfl rfl rfl rfl (λhg=>POp.call (.mk' rfl rfl rfl rfl Yc) (rVals T.slots objs.length)) ?_;refine Z4 ?_;refine CW.cond rfl (λh2=>?_) (λh2=>?_)
   ·rw[thingQ_eq] at h2;refine Z11 ?_;refine r1 4 (H) ?_;exact⟨retB (by rw[objsR,all_no hil (by rw[<-hT];simpa using h2),Bool.and_false]),rfl⟩
   ·rw[thingQ_eq] at h2;refine Z7 ?_;exact ag (⟨i+1,rfl,rfl,hil,all_step hil ha (by rw[<-hT];simpa using h2)⟩)
  ·obtain rfl:i=objs.length:=by omega
   rw[List.take_length] at ha;refine Z11 ?_;refine r1 4 (H) ?_;exact⟨retB (by rw[objsR,ha,decide_eq_true h40];rfl),rfl⟩
theorem rSpeaks_step(f:Fact)(hf:smallA f=true)(ih:∀k∈f.kids,PCall Tryz.prog 183 [AV.fact k] (.i (speaksP k))):PCall Tryz.prog 183 [AV.fact f] (.i (speaksP f)):=by
 intro H;refine aC (n:=24) Tryz.func183 λB I w0=>?_;rw[speaksP_eq];obtain⟨ha1,ha2,hk⟩:=smallA_iff hf;refine Z11 ?_;refine CW.cutJ (λst=>st=⟨[(3,.i (argB f)),(1,.ptr (Fcells f))],H⟩) ?_ ?_
 ·refine Z3 ?_;refine oP (POp.call .k (p125 f)) ?_;refine Z2 ?_;refine CW.cond rfl (λh0=>?_) (λh0=>?_)
  ·have ha:argB f=f.arg+1:=by unfold argB;rw[if_pos Yas]
   rw[ha] at ha1 ha2;refine Z6 ?_;refine Done.le 3 (y:=.i (argB f)) rfl (AVle.eqI (by rw[ha])) ?_;exact cj rfl
  ·have ha:argB f=0:=by unfold argB;rw[if_neg Yas]
   refine Z1 ?_;refine Done.le 3 (y:=.i (argB f)) rfl (AVle.eqI (by rw[ha])) ?_;exact cj rfl
 ·rintro _ rfl;refine Z10 ?_;refine CW.boundM (t:=12) rfl (λhb12=>?_);refine lj (λm st=>∃j:Nat,st=⟨[(14,.i j),(13,.i f.kids.length),(12,AV.facts f.kids),(3,.i (speaksL (f.kids.take j) (argB f)))],H⟩/\m=f.kids.length - j/\j<=f.kids.length) (⟨0,rfl,rfl,Yb⟩) ?_;rintro m _ ⟨j,rfl,rfl,hj⟩;refine Z6 ?_;refine cd (λh1=>?_) λh1=>?_
  ·have hjl:j<f.kids.length:=by omega
   have hkm:=getD_memB hjl;have hsn:=speaksL_snoc (f.kids.getD j default) (f.kids.take j) (argB f);rw[take_getD hjl] at hsn;refine Z8 ?_;refine OL.alC rfl rfl rfl rfl (λkb=>?_);refine Z3 ?_;refine CW.freezeP (d:=5) rfl Yr ?_;refine Z3 ?_;refine oP (POp.call .k (ih _ hkm)) ?_;refine oP (POp.max2 rfl rfl rfl rfl rfl rfl) ?_;refine Z4 ?_;refine CW.le 3 (y:=.i (speaksL (f.kids.take (j+1)) (argB f))) rfl (AVle.eqI (by rw[hsn,Int.max_def];split <;> (try split) <;> omega)) ?_;refine Z4 ?_;exact ag (⟨j+1,rfl,rfl,Yb⟩)
  ·obtain rfl:j=f.kids.length:=by omega
   rw[List.take_length];refine Z12 ?_;refine r1 2 (H) ?_;exact⟨Yav,rfl⟩
theorem rSpeaks:∀f:Fact,smallA f=true->PCall Tryz.prog 183 [AV.fact f] (.i (speaksP f)):=Fact.ind1 λf ih hf=>rSpeaks_step f hf λk hk=>ih k hk ((smallA_iff hf).2.2 k hk)
theorem rFormed(hW:W.parents.length<=60)(f:Fact):PCall Tryz.prog 54 [AV.world W,AV.fact f] (.b (formedP W f)):=by rw[<-formed_eq];exact p20 hW f
def kidsR(p:Prog)(x:Nd):Int:=match kindOf x.op with
 | none=>-1
 | some none=>if 0<=x.n/\x.n<p.gens.length then p.gens.getD x.n.toNat default else -1
 | some (some k)=>k
theorem kids_eq(p:Prog)(x:Nd)(sz:Int)(next:Bool):(bif bif (x.kids.length:Int) !=kidsR p x then true else !numP p x sz then true else bif x.op==18 then !next else false)= !goodN p next x sz:=by
 unfold goodN kidsR;rcases hk:kindOf x.op with _ | _ | k
 ·simp only[Bool.and_false,Bool.not_false];rw[show ((x.kids.length:Int) != -1)=true by rw[bne_iff_ne];omega];rfl
 ·simp only;cases hn:numP p x sz with
  | false=>simp
  | true=>
   have hr:=kind_arg hk hn;rw[if_pos hr];simp only[bne];generalize ((x.kids.length:Int)==p.gens.getD x.n.toNat default)=a;generalize (x.op==18)=b;cases a <;> cases b <;> cases next <;> rfl
 ·simp only;have e:((x.kids.length:Int) !=(k:Int))= !(x.kids.length==k):=by rw[Bool.eq_iff_iff];simp;omega
  rw[e];simp only[bne];generalize (x.kids.length==k)=a;generalize (x.op==18)=b;generalize numP p x sz=d;cases a <;> cases b <;> cases next <;> cases d <;> rfl
theorem rGraph(p:Prog)(hs:p.classes.length<=4000000)(hc:∀c∈p.classes,c.parents.length<=4000000):PCall Tryz.prog 149 [AV.prog p] (AV.intss (graphP p)):=by
 intro H;refine aC (n:=23) Tryz.func149 λB I w0=>?_;refine Z18 ?_;refine CW.ownNil 3 23 1 rfl ?_;refine lj (λm st=>∃(i:Nat) (v:Value),st=⟨[(4,.i i),(3,.as (AV.intss ((p.classes.take i).map (·.parents))) v),(1,.ptr (progC p))],.own 23 1 v::H⟩/\m=p.classes.length - i/\i<=p.classes.length) (⟨0,_,rfl,rfl,Yb⟩) ?_;rintro m _ ⟨i,v,rfl,rfl,hi⟩;refine Z10 ?_;refine cd (λh0=>?_) λh0=>?_
 ·have hil:i<p.classes.length:=by omega
  have hcc:=hc _ (getD_memB hil);refine Z12 ?_;refine oP (POp.appendI rfl rfl rfl AVle.nil0 rfl rfl (AVle.refl _) (one_ints _) YP YP) ?_;refine OL.popC (x:=.sl 1 [[AV.ints (p.classes.getD i default).parents]]) rfl rfl rfl (POp.row rfl rfl Yj rfl rfl rfl rfl rfl rfl) ?_;refine OL.appendC rfl rfl rfl rfl rfl rfl rfl rfl (AVle.refl _) (rfl) (λv=>by repeat (first | exact Upd.head _ _ _ | apply Upd.tail)) Yg Yg (λv21=>?_);refine Z9 ?_;exact ag (⟨i+1,v21,by rw[intss_snoc hil],rfl,hil⟩)
 ·obtain rfl:i=p.classes.length:=by omega
  rw[List.take_length];refine Z12 ?_;refine Done.retR (rs:=[.tmp 2]) (H':=H) rfl (.tmp rfl (.nil)) (.cons (AVle.asL _ _) .nil) Yd ?_;exact⟨Yav,rfl⟩
theorem rWorld(p:Prog)(hs:p.classes.length<=1000)(hc:∀c∈p.classes,c.parents.length<=4000000/\c.slots.length<=1000):PCall Tryz.prog 85 [AV.prog p] (AV.world (worldOf p)):=by
 intro H;refine aC (n:=35) Tryz.func85 λB I w0=>?_;refine Z3 ?_;refine OL.alC rfl rfl rfl rfl (λrb=>?_);refine Z5 ?_;refine oP (POp.call .k (rGraph p Yb (λc h=>(hc c h).1))) ?_;refine Z1 ?_;refine OL.alC rfl rfl rfl rfl (λwb=>?_);refine Z5 ?_;refine CW.ownNilB (b:=wb) (t:=101) 3 1 1 Yam rfl rfl ?_;refine Z5 ?_;refine lj (λm st=>∃(i:Nat) (v:Value),st=⟨[(4,.i i),(1,.ptr (progC p)),(3,.p wb 0),(2,.p rb 0)],.own 3 1 v::.blk wb 101 [AV.intss (graphP p),.as (AV.ints (ownT p.classes i 0)) v]::.blk rb 101 [.val (.slice none 0 0),.val (.slice none 0 0)]::H⟩/\m=p.classes.length - i/\i<=p.classes.length) (⟨0,_,rfl,rfl,Yb⟩) ?_;rintro m _ ⟨i,v,rfl,rfl,hi⟩;refine Z10 ?_;refine cd (λh0=>?_) λh0=>?_
 ·have hil:i<p.classes.length:=by omega
  have hcc:=hc _ (getD_memB hil);refine Z10 ?_;refine lj (λm st=>∃(k:Nat) (v:Value),st=⟨[(5,.i k),(4,.i i),(1,.ptr (progC p)),(3,.p wb 0),(2,.p rb 0)],.own 3 1 v::.blk wb 101 [AV.intss (graphP p),.as (AV.ints (ownT p.classes i k)) v]::.blk rb 101 [.val (.slice none 0 0),.val (.slice none 0 0)]::H⟩/\m=(p.classes.getD i default).slots.length - k/\k<=(p.classes.getD i default).slots.length) (⟨0,_,rfl,rfl,Yb⟩) ?_;rintro m _ ⟨k,v,rfl,rfl,hk⟩;refine Z14 ?_;refine cd (λh1=>?_) λh1=>?_
  ·have hkl:k<(p.classes.getD i default).slots.length:=by omega
   refine Z9 ?_;refine OL.popC (x:=.sl 1 [[.i ((i:Int)+3)]]) rfl rfl rfl (POp.row rfl rfl Yj rfl rfl rfl rfl rfl rfl) ?_;refine OL.appendC rfl rfl rfl rfl rfl rfl rfl rfl (AVle.refl _) (rfl) (λv=>by repeat (first | exact Upd.head _ _ _ | apply Upd.tail)) Yo Yo (λv32=>?_);refine Z10 ?_;exact ag (⟨k+1,v32,by rw[ownT_snoc],rfl,hkl⟩)
  ·obtain rfl:k=(p.classes.getD i default).slots.length:=by omega
   refine Z11 ?_;exact ag (⟨i+1,v,by rw[ownT_next hil],rfl,hil⟩)
 ·obtain rfl:i=p.classes.length:=by omega
  rw[ownT_all];refine Z12 ?_;refine Done.retR (rs:=[.cell 2 101]) (H':=H) rfl (YQ) (.cons (AVle.agg (.cons (.refl _) (.cons (AVle.asL _ _) .nil))) .nil) Yd ?_;exact⟨Ye,rfl⟩
theorem rIn(n:Int):PCall Tryz.prog 260 [.i n] (.b (inP n)):=by
 intro H;refine aC (n:=9) Tryz.func260 λB I w0=>?_;refine Z17 ?_;refine r1 2 (H) ?_;exact⟨retB (by rw[inP,Bool.cond_false_right]),rfl⟩
theorem rKids(p:Prog)(x:Nd):PCall Tryz.prog 261 [AV.prog p,AV.nd x] (.i (kidsR p x)):=by
 intro H;refine aC (n:=47) Tryz.func261 λB I w0=>?_;refine Z22 ?_;refine cd (λh0=>?_) λh0=>?_
 ·refine Z2 ?_;refine CW.cond rfl (λh1=>?_) (λh1=>?_)
  ·replace h1:=nm h1;refine Z8 ?_;refine r1 4 (H) ?_;exact⟨retI Ym,rfl⟩
  ·simp_all
 ·refine Z6 ?_;refine cd (λh2=>?_) λh2=>?_
  ·refine Z2 ?_;refine CW.cond rfl (λh3=>?_) (λh3=>?_)
   ·replace h3:=nm h3;refine Z8 ?_;refine r1 4 (H) ?_;exact⟨retI Ym,rfl⟩
   ·simp_all
  ·refine Z6 ?_;refine cd (λh4=>?_) λh4=>?_
   ·refine Z2 ?_;refine CW.cond rfl (λh5=>?_) (λh5=>?_)
    ·replace h5:=nm h5;refine Z8 ?_;refine r1 4 (H) ?_;exact⟨retI Ym,rfl⟩
    ·simp_all
   ·refine Z6 ?_;refine cd (λh6=>?_) λh6=>?_
    ·refine Z2 ?_;refine CW.cond rfl (λh7=>?_) (λh7=>?_)
     ·replace h7:=nm h7;refine Z8 ?_;refine r1 4 (H) ?_;exact⟨retI Ym,rfl⟩
     ·simp_all
    ·refine Z5 ?_;refine cd (λh8=>?_) λh8=>?_
     ·refine Z8 ?_;refine r1 4 (H) ?_;exact⟨retI Ym,rfl⟩
     ·refine Z7 ?_;refine cd (λh9=>?_) λh9=>?_
      ·refine Z2 ?_;refine CW.cond rfl (λh10=>?_) (λh10=>?_)
       ·replace h10:=nm h10;refine Z8 ?_;refine r1 4 (H) ?_;exact⟨retI Ym,rfl⟩
       ·simp_all
      ·refine Z6 ?_;refine cd (λh11=>?_) λh11=>?_
       ·refine Z2 ?_;refine CW.cond rfl (λh12=>?_) (λh12=>?_)
        ·replace h12:=nm h12;refine Z8 ?_;refine r1 4 (H) ?_;exact⟨retI Ym,rfl⟩
        ·simp_all
       ·refine Z5 ?_;refine cd (λh13=>?_) λh13=>?_
        ·refine Z8 ?_;refine r1 4 (H) ?_;exact⟨retI Ym,rfl⟩
        ·refine Z7 ?_;refine cd (λh14=>?_) λh14=>?_
         ·refine Z2 ?_;refine CW.cond rfl (λh15=>?_) (λh15=>?_)
          ·replace h15:=nm h15;refine Z8 ?_;refine r1 4 (H) ?_;exact⟨retI Ym,rfl⟩
          ·simp_all
         ·refine Z6 ?_;refine cd (λh16=>?_) λh16=>?_
          ·refine Z2 ?_;refine CW.cond rfl (λh17=>?_) (λh17=>?_)
           ·replace h17:=nm h17;refine Z8 ?_;refine r1 4 (H) ?_;exact⟨retI Ym,rfl⟩
           ·simp_all
          ·refine Z6 ?_;refine cd (λh18=>?_) λh18=>?_
           ·refine Z2 ?_;refine CW.cond rfl (λh19=>?_) (λh19=>?_)
            ·replace h19:=nm h19;refine Z8 ?_;refine r1 4 (H) ?_;exact⟨retI Ym,rfl⟩
            ·simp_all
           ·refine Z6 ?_;refine cd (λh20=>?_) λh20=>?_
            ·refine Z2 ?_;refine CW.cond rfl (λh21=>?_) (λh21=>?_)
             ·replace h21:=nm h21;refine Z8 ?_;refine r1 4 (H) ?_;exact⟨retI Ym,rfl⟩
             ·simp_all
            ·refine Z6 ?_;refine cd (λh22=>?_) λh22=>?_
             ·refine Z2 ?_;refine CW.cond rfl (λh23=>?_) (λh23=>?_)
              ·replace h23:=nm h23;refine Z8 ?_;refine r1 4 (H) ?_;exact⟨retI Ym,rfl⟩
              ·simp_all
             ·refine Z6 ?_;refine cd (λh24=>?_) λh24=>?_
              ·refine Z2 ?_;refine CW.cond rfl (λh25=>?_) (λh25=>?_)
               ·replace h25:=nm h25;refine Z8 ?_;refine r1 4 (H) ?_;exact⟨retI Ym,rfl⟩
               ·simp_all
              ·refine Z6 ?_;refine cd (λh26=>?_) λh26=>?_
               ·refine Z2 ?_;refine CW.cond rfl (λh27=>?_) (λh27=>?_)
                ·replace h27:=nm h27;refine Z8 ?_;refine r1 4 (H) ?_;exact⟨retI Ym,rfl⟩
                ·simp_all
               ·refine Z5 ?_;refine cd (λh28=>?_) λh28=>?_
                ·refine Z8 ?_;refine r1 4 (H) ?_;exact⟨retI Ym,rfl⟩
                ·refine Z6 ?_;refine cd (λh29=>?_) λh29=>?_
                 ·refine Z8 ?_;refine r1 4 (H) ?_;exact⟨retI Ym,rfl⟩
                 ·refine Z6 ?_;refine cd (λh30=>?_) λh30=>?_
                  ·refine Z15 ?_;refine CW.cond rfl (λh31=>?_) (λh31=>?_)
                   ·refine Z6 ?_;refine oP ((by first | exact POp.ixM rfl rfl rfl rfl rfl Yak | exact POp.ixI rfl rfl rfl rfl rfl Yak)) ?_;refine Z7 ?_;refine r1 4 (H) ?_;exact⟨retI Ym,rfl⟩
                   ·have h31: ¬(0<=x.n/\x.n<p.gens.length):=by
                     simp only[Bool.cond_false_right,Bool.and_eq_false_iff,decide_eq_false_iff_not] at h31;omega
                    refine Z9 ?_;refine r1 4 (H) ?_;exact⟨retI Ym,rfl⟩
                  ·refine Z9 ?_;refine r1 4 (H) ?_;exact⟨retI Ym,rfl⟩
theorem rNumber(p:Prog)(hs:p.classes.length<=4000000)(x:Nd)(sz:Int):PCall Tryz.prog 262 [AV.prog p,AV.nd x,.i sz] (.b (numP p x sz)):=by
 intro H;refine aC (n:=69) Tryz.func262 λB I w0=>?_;refine Z21 ?_;refine cd (λh0=>?_) λh0=>?_
 ·refine Z4 ?_;refine oP (POp.call .k (rIn x.n)) ?_;refine Z6 ?_;refine r1 6 (H) ?_;exact⟨retB Yaa,rfl⟩
 ·refine Z6 ?_;refine cd (λh1=>?_) λh1=>?_
  ·refine Z17 ?_;refine r1 6 (H) ?_;exact⟨retB Yaa,rfl⟩
  ·refine Z7 ?_;refine cd (λh2=>?_) λh2=>?_
   ·refine Z2 ?_;refine CW.cond rfl (λh3=>?_) (λh3=>?_)
    ·replace h3:=nm h3;refine Z18 ?_;refine r1 6 (H) ?_;exact⟨retB Yaa,rfl⟩
    ·simp_all
   ·refine Z5 ?_;refine cd (λh4=>?_) λh4=>?_
    ·refine Z18 ?_;refine r1 6 (H) ?_;exact⟨retB Yaa,rfl⟩
    ·refine Z6 ?_;refine cd (λh5=>?_) λh5=>?_
     ·refine Z19 ?_;refine r1 6 (H) ?_;exact⟨retB Yaa,rfl⟩
     ·refine Z7 ?_;refine cd (λh6=>?_) λh6=>?_
      ·refine Z2 ?_;refine CW.cond rfl (λh7=>?_) (λh7=>?_)
       ·replace h7:=nm h7;refine Z20 ?_;refine r1 6 (H) ?_;exact⟨retB Yaa,rfl⟩
       ·simp_all
      ·refine Z5 ?_;refine cd (λh8=>?_) λh8=>?_
       ·refine Z20 ?_;refine r1 6 (H) ?_;exact⟨retB Yaa,rfl⟩
       ·refine Z12 ?_;refine r1 6 (H) ?_;exact⟨retB (by unfold numP mostP;simp_all;rw[Bool.eq_iff_iff];simp;omega),rfl⟩
theorem rNext(k:Int):PCall Tryz.prog 185 [.i k] (.b (k==1 || k==4)):=by
 intro H;refine aC (n:=9) Tryz.func185 λB I w0=>?_;refine Z17 ?_;refine r1 2 (H) ?_;exact⟨retB (by rw[Bool.cond_true_left]),rfl⟩
section
open Go.Shelf Go.Sort
def ren189:Ren:={f:=λx=>match x with | 125=>365 | 128=>415 | 129=>416 | 189=>303 | 215=>445 | 216=>412 | 257=>364 | 294=>406 | 295=>407 | 296=>408 | 297=>409 | 298=>410 | 299=>411 | 300=>413 | 301=>414 | 328=>440 | 329=>441 | 330=>442 | 331=>443 | 332=>444 | 343=>469 | n=>n,t:=λx=>match x with | 0=>0 | 3=>3 | 4=>4 | 5=>5 | 9=>9 | 28=>23 | 46=>373 | 51=>414 | 53=>323 | 131=>219 | 182=>461 | 183=>462 | 218=>487 | 222=>294 | 228=>510 | 229=>511 | n=>n,g:=λx=>x}
theorem lays189:Lays.n189 Tryz.prog ren189 where
 mixed:=by kernel_rfl
 f125:=Tryz.func365.trans (congrArg some Ya)
 f128:=Tryz.func415.trans (congrArg some Ya)
 f129:=Tryz.func416.trans (congrArg some Ya)
 f189:=Tryz.func303.trans (congrArg some Ya)
 f215:=Tryz.func445.trans (congrArg some Ya)
 f216:=Tryz.func412.trans (congrArg some Ya)
 f257:=Tryz.func364.trans (congrArg some Ya)
 f294:=Tryz.func406.trans (congrArg some Ya)
 f295:=Tryz.func407.trans (congrArg some Ya)
 f296:=Tryz.func408.trans (congrArg some Ya)
 f297:=Tryz.func409.trans (congrArg some Ya)
 f298:=Tryz.func410.trans (congrArg some Ya)
 f299:=Tryz.func411.trans (congrArg some Ya)
 f300:=Tryz.func413.trans (congrArg some Ya)
 f301:=Tryz.func414.trans (congrArg some Ya)
 f328:=Tryz.func440.trans (congrArg some Ya)
 f329:=Tryz.func441.trans (congrArg some Ya)
 f330:=Tryz.func442.trans (congrArg some Ya)
 f331:=Tryz.func443.trans (congrArg some Ya)
 f332:=Tryz.func444.trans (congrArg some Ya)
 f343:=Tryz.func469.trans (congrArg some Ya)
 t0:=Tryz.underlying0
 a0:=Tryz.isAgg0
 z0:=Tryz.sizeOf0
 v0:=Tryz.zeroValue0
 t3:=Tryz.underlying3
 a3:=Tryz.isAgg3
 z3:=Tryz.sizeOf3
 v3:=Tryz.zeroValue3
 t4:=Tryz.underlying4
 a4:=Tryz.isAgg4
 z4:=Tryz.sizeOf4
 v4:=Tryz.zeroValue4
 t5:=Tryz.underlying5
 a5:=Tryz.isAgg5
 z5:=Tryz.sizeOf5
 v5:=Tryz.zeroValue5
 t9:=Tryz.underlying9
 a9:=Tryz.isAgg9
 z9:=Tryz.sizeOf9
 v9:=Tryz.zeroValue9
 t28:=Tryz.underlying23
 a28:=Tryz.isAgg23
 z28:=Tryz.sizeOf23
 v28:=Tryz.zeroValue23
 t46:=Tryz.underlying373
 a46:=Tryz.isAgg373
 z46:=Tryz.sizeOf373
 v46:=Tryz.zeroValue373
 t51:=Tryz.underlying414
 a51:=Tryz.isAgg414
 z51:=Tryz.sizeOf414
 v51:=Tryz.zeroValue414
 t53:=Tryz.underlying323
 a53:=Tryz.isAgg323
 z53:=Tryz.sizeOf323
 v53:=Tryz.zeroValue323
 t131:=Tryz.underlying219
 a131:=Tryz.isAgg219
 z131:=Tryz.sizeOf219
 v131:=Tryz.zeroValue219
 t182:=Tryz.underlying461
 a182:=Tryz.isAgg461
 z182:=Tryz.sizeOf461
 v182:=Tryz.zeroValue461
 t183:=Tryz.underlying462
 a183:=Tryz.isAgg462
 z183:=Tryz.sizeOf462
 v183:=Tryz.zeroValue462
 t218:=Tryz.underlying487
 a218:=Tryz.isAgg487
 z218:=Tryz.sizeOf487
 v218:=Tryz.zeroValue487
 t222:=Tryz.underlying294
 a222:=Tryz.isAgg294
 z222:=Tryz.sizeOf294
 v222:=Tryz.zeroValue294
 t228:=Tryz.underlying510
 a228:=Tryz.isAgg510
 z228:=Tryz.sizeOf510
 v228:=Tryz.zeroValue510
 t229:=Tryz.underlying511
 a229:=Tryz.isAgg511
 z229:=Tryz.sizeOf511
 v229:=Tryz.zeroValue511
theorem intEls_flat(l:List Int):(intEls l).flatten=(l.map (Value.int .i64)).map .val:=by
 induction l with
 | nil=>rfl
 | cons x r ih=>simp only[intEls,List.map_cons,List.flatten_cons] at ih ⊢;rw[ih];rfl
theorem sortC(B:Nat)(v:Value)(l:List Int)(hl:l.length<=1000000)(Hx:List Ent):BCall B Tryz.prog 303 [.val v] (rowE v l::Hx) (λy H'=>y= .tup []/\H'=rowE v (sortI l)::Hx) (λ_ _=>False):=by
 refine⟨Ya,λI w vs hw hh hv=>?_⟩;obtain⟨u,rfl⟩:∃u,vs= [u]:=by cases hv with | cons _ u _ _ _ ht=>cases ht;exact⟨u,rfl⟩
 have hu:u=v:=by cases hv with | cons _ u _ _ hx _=>exact rel_val hx
 subst hu;obtain⟨xs,hrow,hrx,hni⟩:=hh.ok _ (.head _);have hxs:xs=l.map (Value.int .i64):=by
  rw[intEls_flat] at hrx;exact rel_vals hrx
 subst hxs;rcases hrow.2 with⟨rfl,hn⟩ | ⟨g,cap,cur,rfl,hBg,hg,hnc,hcm,hcs,htk⟩
 ·have:l= []:=by cases l with | nil=>rfl | cons x r=>simp[intEls] at hn
  subst this;refine (Any.slices_Sort_int_none lays189 none 0 w).mono λe w' ⟨he,hw'⟩=>?_;subst hw';exact⟨I,_,hw,Ext.refl _ _ _,hh,.inl ⟨_,_,he,.tup _ _ .nil,rfl,by simp[sortI]⟩⟩
 ·have hlen:(intEls l).length=l.length:=by simp[intEls]
  rw[hlen] at hnc htk;rw[Nat.mul_one] at htk;have hlen2:(sortI l).length=l.length:=List.length_mergeSort _;refine ((hlen▸Any.slices_Sort_int lays189 g 0 cap l w (holds_of_blockI hg htk) (Array.getElem?_eq_some_iff.1 hg).1 Yb:Calls Tryz.prog 303 #[.slice (some ⟨g,0,none⟩) (intEls l).length cap] w _)).mono λe w' ⟨he,n,os,hw'⟩=>?_;have e3:w.grownBy w' (some g):=by subst hw';exact grownBy_sortedI _
  have e2:w'.ownsRow B 3 1 (.slice (some ⟨g,0,none⟩) l.length cap) l.length ((sortI l).map (Value.int .i64)):=by
   subst hw';exact ownsRow_sortedI (ss:=l) hlen2 hBg hg hnc hcm hcs
  have hbel:Go.RowKit.Below B w w':=(Go.RowKit.Below.refl B w).grown e3 hw.base (λj hj=>by cases hj;exact hBg);have hcell:∀b i,I b i->w'.cell? ⟨b,i,none⟩=w.cell? ⟨b,i,none⟩:=λb i hI=>
   World.cell?_of_block (a:=⟨b,i,none⟩) (e3.block b (hw.lt hI) (λe=>by cases e;exact hni _ rfl i hI))
  have hkk:Keeps I w I w':=⟨λ_ _ x=>x,hcell⟩;refine⟨I,rowE (.slice (some ⟨g,0,none⟩) (intEls l).length cap) (sortI l)::Hx,⟨Nat.le_trans hw.base hbel.size,λb o hI=>by rw[hcell b o hI];exact hw.there b o hI⟩,⟨hkk.imm,hkk.cell,hbel⟩,?_,.inl ⟨_,_,he,.tup _ _ .nil,rfl,rfl⟩⟩;refine hh.upd (.head _ _ _) hkk (λb hlt hne=>e3.block b hlt (λe=>hne (by cases e;rfl))) (λb o hx=>.inl hx) ⟨(sortI l).map (Value.int .i64),?_,?_,hni⟩ (λb hb=>.inl hb)
  ·rw[hlen,show (intEls (sortI l)).length=l.length by simp[intEls,hlen2]];exact e2
  ·rw[intEls_flat];exact relL_val _
end
instance:HasMapI Tryz.prog 243 (3,4):=⟨Ya,Ya⟩
instance:HasZ Tryz.prog 4 (.bool false):=⟨Ya⟩
theorem hasC(p:Prog)(hc:p.classes.length<=100)(hsl:∀c∈p.classes,c.slots.length<=1000)(hpa:∀c∈p.classes,∀x∈c.parents,smallKey x){k:Int}(hk:smallKey k)(hk2:k<3+p.classes.length):PCall Tryz.prog 253 [AV.prog p,.i k] (AV.ints (hasP p k)):=by
 intro H;refine aC (n:=49) Tryz.func253 λB I w0=>?_;refine Z8 ?_;refine OL.mkMap rfl rfl rfl rfl (λmb=>?_);refine Z1 ?_;refine OL.mapPut (l:=[]) (u':=.b true) rfl rfl (.inr rfl) rfl rfl rfl rfl rfl rfl (AVle.refl _) (.head _ _ _) .nil hk ?_;refine Z17 ?_;refine CW.rowNil 3 1 ?_;have hk1: -9223372036854775808<=k:=hk.1;refine lj (λm st=>∃(c:Int) (out:List Int) (v:Value) (l:List (Int×AV)) (S:List Int),st=⟨[(7,.i c),(6,.val v),(5,.val (.map (some mb))),(2,.ptr (progC p))],rowE v out::imapE mb l::H⟩/\m=(c - 2).toNat/\(c<=k/\(c=k\/2<=c))/\MapSet l S/\hasN p (c - 2).toNat S out=hasN p (k - 2).toNat [k] []/\out.length+1000*(c - 2).toNat<=1000*(k - 2).toNat) (⟨k,[],_,_,[k],rfl,rfl,⟨Int.le_refl _,.inl rfl⟩,MapSet.nil.put hk,rfl,Yn⟩) ?_;rintro m _ ⟨c,out,v,l,S,rfl,rfl,hck,hS,hN,hlen⟩;refine Z7 ?_;refine cd (λh0=>?_) λh0=>?_
 ·have hc3:3<=c:=by omega
  obtain⟨n,hn⟩:∃n:Nat,c=n+3:=⟨(c - 3).toNat,Yb⟩;have hil:(c - 3).toNat<p.classes.length:=by omega
  have hsl1:=hsl _ (getD_memB hil);have hpa1:=hpa _ (getD_memB hil);refine Z8 ?_;refine oP (POp.lookupI rfl rfl rfl rfl rfl (.tail _ (.head _)) hS.ok Y6) ?_;refine Z2 ?_;refine CW.le 20 (y:=.b (S.contains c)) rfl (hS.look c) ?_;refine cd (λh1=>?_) λh1=>?_
  ·refine Z10 ?_;refine OL.appendRowAny (intEls (p.classes.getD (c - 3).toNat default).slots) rfl rfl rfl rfl rfl rfl rfl rfl (AVle.refl _) (one_ints _) (λv=>.head _ _ _) (by simp only[intEls_len];omega) (by simp only[intEls_len];omega) (λv29=>?_);refine Z4 ?_;refine CW.eqH (H':=rowE v29 (out++(p.classes.getD (c - 3).toNat default).slots)::imapE mb l::H) (congrArg (· ::_) (rowE_append _ _ _)) ?_;refine Z13 ?_;refine CW.boundM (t:=36) rfl (λhb36=>?_);refine lj (λm st=>∃(j:Nat) (l':List (Int×AV)),st=⟨[(38,.i j),(37,.i (p.classes.getD (c - 3).toNat default).parents.length),(36,AV.ints (p.classes.getD (c - 3).toNat default).parents),(7,.i c),(6,.val v29),(5,.val (.map (some mb))),(2,.ptr (progC p))],rowE v29 (out++(p.classes.getD (c - 3).toNat default).slots)::imapE mb l'::H⟩/\m=(p.classes.getD (c - 3).toNat default).parents.length - j/\j<=(p.classes.getD (c - 3).toNat default).parents.length/\MapSet l' (S++(p.classes.getD (c - 3).toNat default).parents.take j)) (⟨0,l,rfl,rfl,Yb,by simpa using hS⟩) ?_;rintro m _ ⟨j,l',rfl,rfl,hj,hS'⟩;refine Z6 ?_;refine cd (λh2=>?_) λh2=>?_
   ·have hjl:j<(p.classes.getD (c - 3).toNat default).parents.length:=by omega
    refine Z14 ?_;refine OL.mapPut (u':=.b true) rfl rfl (.inl rfl) rfl rfl rfl rfl rfl rfl (AVle.refl _) (.tail _ _ _ _ _ (.head _ _ _)) hS'.ok (hpa1 _ (getD_memB hjl)) ?_;refine Z7 ?_;exact ag (⟨j+1,_,rfl,rfl,hjl,by rw[<-take_getD hjl, <-List.append_assoc];exact hS'.put (hpa1 _ (getD_memB hjl))⟩)
   ·obtain rfl:j=(p.classes.getD (c - 3).toNat default).parents.length:=by omega
    rw[List.take_length] at hS';refine Z11 ?_;exact ag (⟨c - 1,out++(p.classes.getD (c - 3).toNat default).slots,v29,l',S++(p.classes.getD (c - 3).toNat default).parents,rfl,rfl,⟨Yb,.inr Yb⟩,hS',by rw[<-hN,hasN_in hn h1],by rw[List.length_append];omega⟩)
  ·refine Z8 ?_;exact ag (⟨c - 1,out,v,l,S,rfl,rfl,⟨Yb,.inr Yb⟩,hS,by rw[<-hN,hasN_out hn h1],Yb⟩)
 ·have hc3:c<=2:=by omega
  rw[show (c - 2).toNat=0 by omega] at hN;have hout:out=hasN p (k - 2).toNat [k] []:=hN;refine Z8 ?_;refine bC .k (sortC B v out Yb _) ?_;rintro y H1 ⟨rfl,rfl⟩;refine Z3 ?_;refine CW.freezeRow (d:=6) (els:=intEls (sortI out)) rfl (.head _ _) (λe he=>by obtain⟨y,_,rfl⟩:=List.mem_map.1 he;rfl) ?_;refine Z2 ?_;refine oP (POp.call .k (clipI _)) ?_;refine Z4 ?_;refine r1 4 (H) ?_;exact⟨by rw[hout];rfl,rfl⟩
theorem classesC(hp:p.Small)(H:List Ent):ACall Tryz.prog 241 [AV.prog p] H (λ_ H'=>classesP p=true/\H'=H) (λy H'=>y=unfA/\classesP p=false/\H'=H):=by
 refine aC (n:=112) Tryz.func241 λB I w0=>?_;have hpc:=hp.classes;have hpp:=hp.parents;refine Z11 ?_;rcases bool_or (decide (p.classes.length<=10)) with hlen | hlen
 ·refine OL.rcallN rfl rfl (.mk' rfl rfl rfl rfl rfl) (needF (by rw[<-hlen];by_cases h:p.classes.length<=10 <;> simp[h] <;> omega) _) unf_c ?_;intro a w s;exact outP (P:=Tryz.prog) (fn:=Tryz.f241) unf_c Yd ⟨rfl,cls_no1 hlen,rfl⟩ a w s
 ·refine OL.rcallS rfl rfl rfl (.mk' rfl rfl rfl rfl rfl) (needT (by simp at hlen;simp;omega) _) ?_;have hlen:=of_decide_eq_true hlen;refine Z17 ?_;refine lj (λm st=>∃i:Nat,st=⟨[(24,.i i),(23,.i p.classes.length),(22,.sl 3 (p.classes.map clsA)),(2,.i (slotsCnt (p.classes.take i))),(1,.ptr (progC p))],H⟩/\m=p.classes.length - i/\i<=p.classes.length/\slotsA (p.classes.take i) 0=true) (⟨0,rfl,rfl,Yb,rfl⟩) ?_;rintro m _ ⟨i,rfl,rfl,hi,hA⟩;refine Z6 ?_;refine cd (λh0=>?_) λh0=>?_
  ·have hil:i<p.classes.length:=by omega
   have hcm:=getD_memB hil;have hcnt:=slotsA_cnt _ _ hA;rw[List.length_take] at hcnt;refine Z8 ?_;refine OL.alC rfl rfl rfl rfl (λb0=>?_);refine Z9 ?_;rcases bool_or (decide ((p.classes.getD i default).slots.length<=4)) with h4 | h4
   ·refine OL.rcallN rfl rfl (.mk' rfl rfl rfl rfl rfl) (needF (by simp at h4;simp;omega) _) unf_c ?_;intro a w s;exact outP (P:=Tryz.prog) (fn:=Tryz.f241) unf_c Yd ⟨rfl,cls_no2 hil (by rw[h4];rfl),rfl⟩ a w s
   ·refine OL.rcallS rfl rfl rfl (.mk' rfl rfl rfl rfl rfl) (needT (by simp at h4;simp;omega) _) ?_;refine Z11 ?_;refine CW.boundM (t:=34) rfl (λhb34=>?_);have h44:=of_decide_eq_true h4;refine lj (λm st=>∃j:Nat,st=⟨[(36,.i j),(35,.i (p.classes.getD i default).slots.length),(34,AV.ints (p.classes.getD i default).slots),(24,.i i),(23,.i p.classes.length),(22,.sl 3 (p.classes.map clsA)),(2,.i ((slotsCnt (p.classes.take i))+j:Nat)),(1,.ptr (progC p))],H⟩/\m=(p.classes.getD i default).slots.length - j/\j<=(p.classes.getD i default).slots.length/\slots1 ((p.classes.getD i default).slots.take j) (slotsCnt (p.classes.take i))=true) (⟨0,rfl,rfl,Yb,rfl⟩) ?_;rintro m _ ⟨j,rfl,rfl,hj,hs1⟩;refine Z6 ?_;refine cd (λh1=>?_) λh1=>?_
    ·have hjl:j<(p.classes.getD i default).slots.length:=by omega
     refine Z16 ?_;rcases bool_or (((p.classes.getD i default).slots.getD j default==(((slotsCnt (p.classes.take i))+j:Nat):Int))) with he | he
     ·refine OL.rcallN rfl rfl (.mk' rfl rfl rfl rfl rfl) (needF (he) _) unf_c ?_;intro a w s;exact outP (P:=Tryz.prog) (fn:=Tryz.f241) unf_c Yd ⟨rfl,cls_no3 hil hjl he,rfl⟩ a w s
     ·refine OL.rcallS rfl rfl rfl (.mk' rfl rfl rfl rfl rfl) (needT (he) _) ?_;refine Z13 ?_;exact ag (⟨j+1,Yav,rfl,hjl,by rw[slots1_take _ _ _ hjl,hs1,he];rfl⟩)
    ·obtain rfl:j=(p.classes.getD i default).slots.length:=by omega
     rw[List.take_length] at hs1;refine Z10 ?_;exact ag (⟨i+1,by rw[slotsCnt_take hil],rfl,hil,by rw[slotsA_take _ _ _ hil,hA,h4,Nat.zero_add,hs1];rfl⟩)
  ·obtain rfl:i=p.classes.length:=by omega
   rw[List.take_length] at hA ⊢;refine Z8 ?_;refine oP (POp.call .k (graph p Yb hpp)) ?_;refine Z11 ?_;refine OL.guardC rfl rfl rfl rfl rfl rfl (λhg=>POp.call (.mk' rfl rfl rfl rfl Yc) (lineCheck (graphP p))) ?_;refine Z2 ?_;rcases bool_or ((((slotsCnt p.classes:Int)==p.slots) && fineP (graphP p))) with hf | hf
   ·refine OL.rcallN rfl rfl (.mk' rfl rfl rfl rfl rfl) (needF Yad _) unf_c ?_;intro a w s;exact outP (P:=Tryz.prog) (fn:=Tryz.f241) unf_c Yd ⟨rfl,cls_no4 hf,rfl⟩ a w s
   ·refine OL.rcallS rfl rfl rfl (.mk' rfl rfl rfl rfl rfl) (needT Yad _) ?_;rw[Bool.and_eq_true] at hf;obtain⟨hf1,hfine⟩:=hf;obtain⟨_,hpk⟩:=graph_fine hfine;have hsm:=slotsA_mem _ _ hA;have hgl:(graphP p).length=p.classes.length:=by simp[graphP]
    refine Z11 ?_;refine lj (λm st=>∃i:Nat,st=⟨[(63,.i i),(62,.i p.classes.length),(61,.sl 3 (p.classes.map clsA)),(7,AV.intss (graphP p)),(1,.ptr (progC p))],H⟩/\m=p.classes.length - i/\i<=p.classes.length/\(List.range i).all (clsOk p)=true) (⟨0,rfl,rfl,Yb,rfl⟩) ?_;rintro m _ ⟨i,rfl,rfl,hi,hR⟩;refine Z6 ?_;refine cd (λh2=>?_) λh2=>?_
    ·have hil:i<p.classes.length:=by omega
     have hcm:=getD_memB hil;refine Z9 ?_;refine OL.alC rfl rfl rfl rfl (λcb=>?_);refine Z9 ?_;refine oP (POp.call .k (linT hfine (c:=(i:Int)+3) Yb)) ?_;refine Z11 ?_;rcases bool_or ((linP (graphP p) ((i:Int)+3)).isEmpty) with hl | hl
     ·refine OL.rcallS rfl rfl rfl (.mk' rfl rfl rfl rfl rfl) (needT (by rw[hl];rfl) _) ?_;refine Z7 ?_;refine oP (POp.call .k (hasC p Yb (λc h=>by have:=(hsm c h).1;omega) hpk (k:=(i:Int)+3) Y6 Yb)) ?_;refine OL.mkMap rfl rfl rfl rfl (λmb=>?_);refine Z13 ?_;refine CW.subH (H':=imapE mb []::H) (.cons_cons _ (.cons _ (.refl _))) ?_;obtain⟨mine,hmine⟩:∃mine,mine=hasP p ((i:Int)+3):=⟨_,rfl⟩;rw[<-hmine];refine CW.boundM (t:=84) rfl (λhb84=>?_);refine lj (λm st=>∃(j:Nat) (l:List (Int×AV)),st=⟨[(86,.i j),(85,.i (p.classes.getD i default).inits.length),(84,.sl 2 ((p.classes.getD i default).inits.map initA)),(12,AV.ints mine),(13,.val (.map (some mb))),(63,.i i),(62,.i p.classes.length),(61,.sl 3 (p.classes.map clsA)),(7,AV.intss (graphP p)),(1,.ptr (progC p))],imapE mb l::H⟩/\m=(p.classes.getD i default).inits.length - j/\j<=(p.classes.getD i default).inits.length/\MapSet l (((p.classes.getD i default).inits.take j).map (·.1))/\inits1 mine ((p.classes.getD i default).inits.take j) []=true) (⟨0,[],rfl,rfl,Yb,MapSet.nil,rfl⟩) ?_;rintro m _ ⟨j,l,rfl,rfl,hj,hS,hin⟩;refine Z6 ?_;refine cd (λh3=>?_) λh3=>?_
      ·have hjl:j<(p.classes.getD i default).inits.length:=by omega
       obtain⟨X,hX⟩:∃X,X=(p.classes.getD i default).inits.getD j default:=⟨_,rfl⟩;have hsx:mine.contains X.1=true->smallKey X.1:=λh=>by
        rw[hmine] at h;obtain⟨c,h1,h2⟩:=hasP_mem (List.contains_iff_mem.1 h);have:=(hsm c h1).2 _ h2;unfold smallKey;omega
       refine Z8 ?_;refine OL.alC rfl rfl rfl rfl (λib=>?_);refine Z4 ?_;rw[<-hX];refine Z4 ?_;refine oP (POp.call .k (sContains mine X.1)) ?_;refine Z4 ?_;refine OL.guardC rfl rfl rfl rfl rfl rfl (λhg=>POp.lookupS rfl rfl (gd hg) rfl (gd hg) (.tail _ (.head _)) hS (hsx hg)) ?_;refine Z5 ?_;refine OL.guardC rfl rfl rfl rfl rfl rfl (λhg=>POp.call (.mk' rfl rfl rfl rfl Yc) (between X.2)) ?_;refine Z1 ?_;rcases bool_or ((mine.contains X.1 && !(((p.classes.getD i default).inits.take j).map (·.1)).contains X.1 && inP X.2)) with hb | hb
       ·refine OL.rcallN rfl rfl (.mk' rfl rfl rfl rfl rfl) (needF (by simp only[Bool.cond_false_right];exact hb) _) unf_c ?_;intro a w s;exact outP (P:=Tryz.prog) (fn:=Tryz.f241) unf_c Yd ⟨rfl,cls_no5 hil (by rw[hmine] at hb;exact cls_in hjl (by rw[<-hX];exact hb)),rfl⟩ a w s
       ·refine OL.rcallS rfl rfl rfl (.mk' rfl rfl rfl rfl rfl) (needT (by simp only[Bool.cond_false_right];exact hb) _) ?_;have hcx:mine.contains X.1=true:=by simp only[Bool.and_eq_true] at hb;exact hb.1.1
        refine Z6 ?_;refine OL.mapPut (u':=.b true) rfl rfl (.inl rfl) rfl rfl rfl rfl rfl rfl (AVle.refl _) (.tail _ _ _ _ _ (.head _ _ _)) hS.ok (hsx hcx) ?_;refine Z7 ?_;exact ag (⟨j+1,_,rfl,rfl,hjl,by rw[<-take_getD hjl,List.map_append, <-hX];exact hS.put (hsx hcx),by rw[inits1_take mine _ _ _ hjl,hin, <-hX,List.nil_append,hb];rfl⟩)
      ·obtain rfl:j=(p.classes.getD i default).inits.length:=by omega
       rw[List.take_length] at hin;refine Z10 ?_;exact ag (⟨i+1,rfl,rfl,hil,range_step hR (by unfold clsOk;rw[hl, <-hmine,hin];rfl)⟩)
     ·refine OL.rcallN rfl rfl (.mk' rfl rfl rfl rfl rfl) (needF (by rw[hl];rfl) _) unf_c ?_;intro a w s;exact outP (P:=Tryz.prog) (fn:=Tryz.f241) unf_c Yd ⟨rfl,cls_no5 hil (by unfold clsOk;rw[hl];rfl),rfl⟩ a w s
    ·obtain rfl:i=p.classes.length:=by omega
     refine Z4 ?_;refine nR [] (H) ?_;exact⟨by unfold classesP;rw[decide_eq_true hlen,hA,hf1,hfine,hR];rfl,rfl⟩
theorem graph_get(hi:i<p.classes.length):(graphP p).getD i default=(p.classes.getD i default).parents:=by
 rw[graphP,List.getD_eq_getElem?_getD,List.getElem?_map,List.getD_eq_getElem?_getD,List.getElem?_eq_getElem hi];rfl
theorem cls_noP(hi:i<p.classes.length)(h: ¬(p.classes.getD i default).parents.length<=3):classesP p=false:=
 cls_no4 (by rw[fine_no2 (g:=graphP p) (i:=i) (by rw[graphP,List.length_map];exact hi) (by rw[graph_get hi,decide_eq_false h];rfl),Bool.and_false])
theorem has_in{c x:Int}:(slotsR W c).contains x=(decide (0<=x) && decide (x<W.owner.length) && hasR W c x.toNat):=by
 rw[Bool.eq_iff_iff,List.contains_iff_mem,slotsR,List.mem_map];simp only[Bool.and_eq_true,decide_eq_true_eq,List.mem_filter,List.mem_range];constructor
 ·rintro⟨s,⟨h1,h2⟩,rfl⟩;exact⟨⟨Yb,Yb⟩,by rw[Int.toNat_natCast];exact h2⟩
 ·rintro⟨⟨h1,h2⟩,h3⟩;exact⟨x.toNat,⟨Yb,h3⟩,Yb⟩
theorem seen_stepM{l:List (Int×Int)}(hq:q<l.length)(h:((l.take q).map (·.1)).contains x=false)(hx: ¬(l.getD q default).1=x):((l.take (q+1)).map (·.1)).contains x=false:=by
 rw[<-take_getD hq,List.map_append,List.contains_eq_any_beq,List.any_append, <-List.contains_eq_any_beq,h];simp;exact λe=>hx (by rw[e,List.getD_eq_getElem?_getD])
theorem seen_yesM{l:List (Int×Int)}{q j:Nat}(hq:q<j)(hj:j<=l.length)(hx:(l.getD q default).1=x):((l.take j).map (·.1)).contains x=true:=by
 rw[List.contains_iff_mem,List.mem_map];refine⟨l.getD q default,?_,hx⟩;rw[List.getD_eq_getElem?_getD,List.getElem?_eq_getElem Yb];exact List.mem_take_iff_getElem.2 ⟨q,Yb,rfl⟩
theorem has_call(h:worldP W=true){c:Int}(h3:3<=c)(hc:c<3+W.parents.length){n:Nat}(hn:W.owner.length=n){x:Int}(hg:(!bif decide (x<0) then true else decide (x>=n))=true):PCall Tryz.prog 174 [AV.world W,.i c,.i x] (.b (hasR W c x.toNat)):=by
 have hx:0<=x/\x<n:=by
  simp only[Bool.cond_true_left,Bool.not_eq_true',Bool.or_eq_false_iff,decide_eq_false_iff_not] at hg;omega
 have h:=rHasS h h3 hc (s:=x.toNat) Yb;rwa [Int.toNat_of_nonneg hx.1] at h
theorem rClasses(hp:p.Small):PCall Tryz.prog 182 [AV.prog p] (.b (classesP p)):=by
 intro H;refine aC (n:=153) Tryz.func182 λB I w0=>?_;have hpc:=hp.classes;have hpp:=hp.parents;refine Z15 ?_;refine cd (λh0=>?_) λh0=>?_
 ·refine Z7 ?_;refine r1 2 (H) ?_;exact⟨retB (cls_no1 YB).symm,rfl⟩
 ·have h10:p.classes.length<=10:=by omega
  refine Z14 ?_;refine lj (λm st=>∃i:Nat,st=⟨[(4,.i i),(3,.i (slotsCnt (p.classes.take i))),(1,.ptr (progC p))],H⟩/\m=p.classes.length - i/\i<=p.classes.length/\slotsA (p.classes.take i) 0=true) (⟨0,rfl,rfl,Yb,rfl⟩) ?_;rintro m _ ⟨i,rfl,rfl,hi,hA⟩;refine Z10 ?_;refine cd (λh1=>?_) λh1=>?_
  ·have hil:i<p.classes.length:=by omega
   have hcnt:=slotsA_cnt _ _ hA;rw[List.length_take] at hcnt;refine Z33 ?_;refine CW.cond rfl (λh2=>?_) (λh2=>?_)
   ·rw[Bool.cond_true_left,Bool.or_eq_true,decide_eq_true_eq,decide_eq_true_eq] at h2;have hno:classesP p=false:=by
     rcases h2 with h2 | h2
     ·exact cls_no2 hil (by rw[decide_eq_false Yb];rfl)
     ·exact cls_noP hil Yb
    refine Z12 ?_;refine r1 2 (H) ?_;exact⟨retB hno.symm,rfl⟩
   ·rw[Bool.cond_true_left,Bool.or_eq_false_iff,decide_eq_false_iff_not,decide_eq_false_iff_not] at h2;have hs4:(p.classes.getD i default).slots.length<=4:=by omega
    refine Z8 ?_;refine lj (λm st=>∃j:Nat,st=⟨[(6,.i j),(5,AV.ints (p.classes.getD i default).slots),(4,.i i),(3,.i ((slotsCnt (p.classes.take i))+j:Nat)),(1,.ptr (progC p))],H⟩/\m=(p.classes.getD i default).slots.length - j/\j<=(p.classes.getD i default).slots.length/\slots1 ((p.classes.getD i default).slots.take j) (slotsCnt (p.classes.take i))=true) (⟨0,rfl,rfl,Yb,rfl⟩) ?_;rintro m _ ⟨j,rfl,rfl,hj,hs1⟩;refine Z9 ?_;refine cd (λh3=>?_) λh3=>?_
    ·have hjl:j<(p.classes.getD i default).slots.length:=by omega
     refine Z15 ?_;refine cd (λh4=>?_) λh4=>?_
     ·have hne:(p.classes.getD i default).slots.getD j default≠(((slotsCnt (p.classes.take i))+j:Nat):Int):=h4;refine Z16 ?_;refine r1 2 (H) ?_;exact⟨retB (cls_no3 hil hjl (by rw[beq_eq_false_iff_ne];exact hne)).symm,rfl⟩
     ·have heq:(p.classes.getD i default).slots.getD j default=(((slotsCnt (p.classes.take i))+j:Nat):Int):=h4;refine Z14 ?_;exact ag (⟨j+1,Yav,rfl,hjl,by rw[slots1_take _ _ _ hjl,hs1,heq];simp⟩)
    ·obtain rfl:j=(p.classes.getD i default).slots.length:=by omega
     rw[List.take_length] at hs1;refine Z11 ?_;exact ag (⟨i+1,by rw[slotsCnt_take hil],rfl,hil,by rw[slotsA_take _ _ _ hil,hA,decide_eq_true hs4,Nat.zero_add,hs1];rfl⟩)
  ·obtain rfl:i=p.classes.length:=by omega
   rw[List.take_length] at hA ⊢;refine Z8 ?_;refine oP (POp.call .k (rGraph p Yb hpp)) ?_;refine Z12 ?_;refine OL.guardC rfl rfl rfl rfl rfl rfl (λhg=>POp.call (.mk' rfl rfl rfl rfl Yc) (rLine (graphP p))) ?_;refine Z4 ?_;refine CW.cond rfl (λh5=>?_) (λh5=>?_)
   ·have hno:classesP p=false:=cls_no4 (by revert h5;cases fineP (graphP p) <;> cases hq:((slotsCnt p.classes:Int)==p.slots) <;> simp_all);refine Z7 ?_;refine r1 2 (H) ?_;exact⟨retB hno.symm,rfl⟩
   ·have hf:(((slotsCnt p.classes:Int)==p.slots) && fineP (graphP p))=true:=by revert h5;cases fineP (graphP p) <;> cases hq:((slotsCnt p.classes:Int)==p.slots) <;> simp_all
    rw[Bool.and_eq_true] at hf;obtain⟨hf1,hfine⟩:=hf;have hH:Heads p:=⟨h10,hA,beq_iff_eq.1 hf1,hfine⟩;have hw:=hH.world;have hpl:=world_pl p;have hol:=owners_cnt p.classes 0;have hol2:(worldOf p).owner.length=slotsCnt p.classes:=hol;have hsm:=slotsA_mem _ _ hA;refine Z5 ?_;refine oP (POp.call .k (rWorld p Yb (λc h=>⟨hpp c h,by have:=(hsm c h).1;omega⟩))) ?_;refine OL.alC rfl rfl rfl rfl (λwb=>?_);refine Z5 ?_;refine CW.freezeP (d:=8) rfl Yr ?_;refine Z5 ?_;refine lj (λm st=>∃i:Nat,st=⟨[(9,.i i),(8,.ptr (Wcells (worldOf p))),(7,AV.intss (graphP p)),(3,.i (slotsCnt p.classes)),(1,.ptr (progC p))],H⟩/\m=p.classes.length - i/\i<=p.classes.length/\(List.range i).all (clsOk p)=true) (⟨0,rfl,rfl,Yb,rfl⟩) ?_;rintro m _ ⟨i,rfl,rfl,hi,hR⟩;refine Z10 ?_;refine cd (λh6=>?_) λh6=>?_
    ·have hil:i<p.classes.length:=by omega
     have hgl:(graphP p).length=p.classes.length:=by simp[graphP]
     have hms:hasP p ((i:Int)+3)=slotsR (worldOf p) ((i:Int)+3):=has_slots hH Yb Yb;refine Z16 ?_;refine oP (POp.call .k (rLin hfine (c:=(i:Int)+3) Yb Yb)) ?_;refine Z13 ?_;refine CW.cond rfl (λh7=>?_) (λh7=>?_)
     ·have hl:(linP (graphP p) ((i:Int)+3)).isEmpty=true:=by revert h7;cases (linP (graphP p) ((i:Int)+3)).isEmpty <;> simp
      refine Z12 ?_;refine r1 2 (H) ?_;exact⟨retB (cls_no5 hil (by unfold clsOk;rw[hl];rfl)).symm,rfl⟩
     ·have hl:(linP (graphP p) ((i:Int)+3)).isEmpty=false:=by revert h7;cases (linP (graphP p) ((i:Int)+3)).isEmpty <;> simp
      refine Z19 ?_;refine CW.boundM (t:=13) rfl (λhb13=>?_);refine lj (λm st=>∃j:Nat,st=⟨[(14,.i j),(13,AV.mvs (p.classes.getD i default).inits),(10,.i ((i:Int)+3)),(9,.i i),(8,.ptr (Wcells (worldOf p))),(7,AV.intss (graphP p)),(3,.i (slotsCnt p.classes)),(1,.ptr (progC p))],H⟩/\m=(p.classes.getD i default).inits.length - j/\j<=(p.classes.getD i default).inits.length/\inits1 (hasP p ((i:Int)+3)) ((p.classes.getD i default).inits.take j) []=true) (⟨0,rfl,rfl,Yb,rfl⟩) ?_;rintro m _ ⟨j,rfl,rfl,hj,hin⟩;refine Z9 ?_;refine cd (λh8=>?_) λh8=>?_
      ·have hjl:j<(p.classes.getD i default).inits.length:=by omega
       have hmi:=has_in (W:=worldOf p) (c:=(i:Int)+3) (x:=((p.classes.getD i default).inits.getD j default).1);rw[<-hms] at hmi;refine Z6 ?_;refine CW.dp mixed ?_;refine DP.anyC 0 2 153 rfl Yf rfl rfl Yf ?_;refine Z23 ?_;refine DP.anyC 7 13 153 rfl Yf rfl rfl Yf ?_;refine Z19 ?_;refine DP.anyC 16 23 153 rfl Yf rfl rfl Yf ?_;refine Z9 ?_;refine OL.guardC rfl rfl rfl rfl rfl rfl (λhg=>POp.call (.mk' rfl rfl rfl rfl Yc) (has_call hw (c:=(i:Int)+3) Yb Yb hol2 hg)) ?_;refine Z14 ?_;refine DP.anyC 27 29 153 rfl Yf rfl rfl Yf ?_;refine Z7 ?_;refine OL.guardC rfl rfl rfl rfl rfl rfl (λhg=>POp.call (.mk' rfl rfl rfl rfl Yc) (rIn ((p.classes.getD i default).inits.getD j default).2)) ?_;refine Z4 ?_;refine CW.cond rfl (λh9=>?_) (λh9=>?_)
       ·have hno:((hasP p ((i:Int)+3)).contains ((p.classes.getD i default).inits.getD j default).1 && inP ((p.classes.getD i default).inits.getD j default).2)=false:=by
         rw[hmi,hol2];simp only[Bool.cond_true_left] at h9;rw[<-Bool.not_eq_true,Bool.and_eq_true,Bool.and_eq_true,Bool.and_eq_true,decide_eq_true_eq,decide_eq_true_eq];rintro⟨⟨⟨q1,q2⟩,q3⟩,q4⟩;rw[q3,q4,decide_eq_false Yb,decide_eq_false Yb] at h9;cases h9
        refine Z16 ?_;refine r1 2 (H) ?_;exact⟨retB (cls_no5 hil (cls_in hjl (by revert hno;cases (hasP p ((i:Int)+3)).contains ((p.classes.getD i default).inits.getD j default).1 <;> cases inP ((p.classes.getD i default).inits.getD j default).2 <;> simp))).symm,rfl⟩
       ·have hyes:(hasP p ((i:Int)+3)).contains ((p.classes.getD i default).inits.getD j default).1=true/\inP ((p.classes.getD i default).inits.getD j default).2=true:=by
         rw[hmi,hol2];simp only[Bool.cond_true_left,Bool.or_eq_false_iff,decide_eq_false_iff_not,Bool.not_eq_false'] at h9;rw[h9.1.2,decide_eq_true Yb,decide_eq_true Yb];exact⟨rfl,h9.2⟩
        refine Z8 ?_;refine lj (λm st=>∃k:Nat,st=⟨[(15,.i k),(14,.i j),(13,AV.mvs (p.classes.getD i default).inits),(10,.i ((i:Int)+3)),(9,.i i),(8,.ptr (Wcells (worldOf p))),(7,AV.intss (graphP p)),(3,.i (slotsCnt p.classes)),(1,.ptr (progC p))],H⟩/\m=j - k/\k<=j/\(((p.classes.getD i default).inits.take k).map (·.1)).contains ((p.classes.getD i default).inits.getD j default).1=false) (⟨0,rfl,rfl,Yb,rfl⟩) ?_;rintro m _ ⟨k,rfl,rfl,hk,hc⟩;refine Z8 ?_;refine cd (λh10=>?_) λh10=>?_
        ·have hkl:k<j:=by omega
         refine Z5 ?_;refine CW.dp mixed ?_;refine DP.anyC 0 10 153 rfl Yf rfl rfl Yf ?_;refine Z15 ?_;refine cd (λh11=>?_) λh11=>?_
         ·refine Z19 ?_;refine r1 2 (H) ?_;exact⟨retB (cls_no5 hil (cls_in hjl (by rw[seen_yesM hkl Yb h11];simp))).symm,rfl⟩
         ·refine Z8 ?_;exact ag (⟨k+1,rfl,rfl,hkl,seen_stepM Yb hc h11⟩)
        ·obtain rfl:k=j:=by omega
         refine Z11 ?_;exact ag (⟨k+1,rfl,rfl,hjl,by rw[inits1_take _ _ _ _ hjl,hin,List.nil_append,hyes.1,hyes.2,hc];rfl⟩)
      ·obtain rfl:j=(p.classes.getD i default).inits.length:=by omega
       rw[List.take_length] at hin;refine Z11 ?_;exact ag (⟨i+1,rfl,rfl,hil,range_step hR (by unfold clsOk;rw[hl,hin];rfl)⟩)
    ·obtain rfl:i=p.classes.length:=by omega
     refine Z11 ?_;refine r1 2 (H) ?_;exact⟨retB (by unfold classesP;rw[decide_eq_true h10,hA,hf1,hfine,hR];rfl),rfl⟩
end Go.Proofs.YtogjaoodkaahoaaGreat
