/- Part 47 of the proof: contracts of functions of the program and what they need. No condition beyond those that each theorem names. -/
import Derived.Test.YtogjaoodkaahoaaGreatVowJudgesP18
set_option maxHeartbeats 1000000
set_option maxRecDepth 100000
namespace Go.Proofs.YtogjaoodkaahoaaGreat
open Go.Ev Go.Eng
end Go.Proofs.YtogjaoodkaahoaaGreat

set_option linter.unusedVariables false
namespace Go.Eng.Bd
open Go.Eng.Fc
def initsL(p:Prog)(c:Int):List (Int×Int):=(linP (graphP p) c).reverse.flatMap λk=>if k>=3 then (p.classes.getD (k - 3).toNat default).inits else []
def lastOf(L:List (Int×Int))(s:Int):Option Int:=(L.reverse.find? λx=>x.1==s).map (·.2)
theorem lastOf_snoc(L:List (Int×Int))(x:Int×Int)(s:Int):lastOf (L++[x]) s=if x.1=s then some x.2 else lastOf L s:=by
 unfold lastOf;rw[List.reverse_append,List.reverse_singleton,List.singleton_append,List.find?_cons];by_cases h:x.1=s
 ·simp[h]
 ·rw[if_neg h,show (x.1==s)=false by simpa using h]
def slotP(p:Prog)(c s:Int):Int×Int:=match lastOf (initsL p c) s with | some n=>(1,n) | none=>(2,0)
structure MapLast(l:List (Int×AV))(L:List (Int×Int)):Prop where
 ok:IMapOk l
 get:∀s,getI l s=(lastOf L s).map AV.i
theorem MapLast.nil:MapLast [] []:=⟨IMapOk.nil,λs=>rfl⟩
theorem MapLast.put{l:List (Int×AV)}{L:List (Int×Int)}(h:MapLast l L){x:Int×Int}(hk:smallKey x.1):MapLast (putI l x.1 (.i x.2)) (L++[x]):=by
 refine⟨h.ok.put hk _,λs=>?_⟩;rw[getI_put,lastOf_snoc,h.get];by_cases e:x.1=s
 ·rw[if_pos e.symm,if_pos e];rfl
 ·rw[if_neg (λh=>e h.symm),if_neg e]
structure ClsOk(p:Prog)(c:Int):Prop where
 c3:3<=c
 cl:c<3+p.classes.length
 c10:p.classes.length<=10
 sl:∀c∈p.classes,c.parents.length<=4000000/\c.slots.length<=1000
 pk:∀c∈p.classes,∀x∈c.parents,smallKey x
 fine:fineP (graphP p)=true
 ne:linP (graphP p) c≠ []
 len:(linP (graphP p) c).length<=1000
 in_:∀y∈linP (graphP p) c,0<=y/\y<3+p.classes.length
 ini:∀k∈p.classes,∀x∈k.inits,smallKey x.1
 has:∀s∈hasP p c,smallKey s
 hl:(hasP p c).length<=20000
structure MapOf(f:Int->AV)(l:List (Int×AV))(n:Nat):Prop where
 ok:IMapOk l
 get:∀k,getI l k=if 3<=k/\k<3+n then some (f k) else none
theorem MapOf.nil(f:Int->AV):MapOf f [] 0:=⟨IMapOk.nil,λk=>by rw[if_neg (by omega)];rfl⟩
theorem MapOf.put{f:Int->AV}{l:List (Int×AV)}{n:Nat}(h:MapOf f l n)(hn:n<=1000):MapOf f (putI l ((n:Int)+3) (f ((n:Int)+3))) (n+1):=by
 refine⟨h.ok.put (by unfold smallKey;omega) _,λk=>?_⟩;rw[getI_put,h.get];by_cases e:k=(n:Int)+3
 ·rw[if_pos e,if_pos (by omega),e]
 ·rw[if_neg e];by_cases h2:3<=k/\k<3+n
  ·rw[if_pos h2,if_pos (by omega)]
  ·rw[if_neg h2,if_neg (by omega)]
theorem MapOf.look{f:Int->AV}{l:List (Int×AV)}{n:Nat}(h:MapOf f l n){k:Int}(hk:3<=k/\k<3+n)(z:AV):AVle ((getI l k).getD z) (f k):=by
 rw[h.get,if_pos hk];exact AVle.refl _
end Go.Eng.Bd

set_option linter.unusedSimpArgs false
set_option maxRecDepth 10000
namespace Go.Proofs.YtogjaoodkaahoaaGreat
open Go.Eng
open Go.Eng.Fc
open Go.Eng.Bd
theorem CWF.weaken{f:FuncId}{c:Ctx}{r:Option Nat}{P:Program}{st:St}{Q:Exit->Act->World->Prop}{p:Code}{st':St}(he:envLe st'.env st.env)(hH:st'.H.Sublist st.H)(h:CWF f c r P p st' Q):CWF f c r P p st Q:=
 λa w s=>h a w (s.weaken (envLe_get he) hH)
instance:HasMapI Tryz.prog 330 (3,3):=⟨by kernel_rfl,by kernel_rfl⟩
instance:HasZ Tryz.prog 3 (.int .i64 0):=⟨by kernel_rfl⟩
end Go.Proofs.YtogjaoodkaahoaaGreat

namespace Go.Eng.Bd
open Go.Eng.Fc
variable{p:Prog}{l:List Int}{f:Fact}
def bitsTo(k n:Nat):List Nat:=(List.range n).filter k.testBit
theorem bitsTo_step(k n:Nat):bitsTo k (n+1)=bitsTo k n++if k.testBit n then [n] else []:=by
 rw[bitsTo,List.range_succ,List.filter_append];cases h:k.testBit n <;> simp[h,bitsTo]
structure FOk(p:Prog)(l:List Int)(f:Fact):Prop where
 wf:wfB (worldOf p) f=true
 sp:speaksP f<=l.length
theorem FOk.kid(h:FOk p l f):∀k∈f.kids,FOk p l k:=λk hk=>
 ⟨(wfB_iff.1 h.wf).2 k hk,((speaksL_le _ _ _).1 (speaksP_eq f▸h.sp)).2 k hk⟩
theorem FOk.leaf(h:FOk p l f)(hl:leafP f=true):(0<=f.arg/\f.arg<l.length)/\(∀s∈f.path,0<=s/\s<(worldOf p).owner.length)/\f.path.length<=2/\(f.op=2->0<=f.cls/\f.cls<manyC p):=by
 have h1:=(wfB_iff.1 h.wf).1;simp only[nodeOkB,Bool.and_eq_true] at h1;have h2:=h1.2;rw[hl,if_pos rfl,Bool.and_eq_true] at h2;have h3:=h2.1;simp only[argP,pathP,Bool.not_eq_true',Bool.or_eq_false_iff,Bool.not_eq_false',Bool.and_eq_true,decide_eq_false_iff_not,decide_eq_true_eq] at h3;have h4:=((speaksL_le _ _ _).1 (speaksP_eq f▸h.sp)).1;simp only[leafP,Bool.and_eq_true,decide_eq_true_eq] at hl;rw[argB,if_pos (by omega)] at h4;refine⟨⟨by omega,by omega⟩,λs hs=>?_,h3.2.1,λho=>?_⟩
 ·have:=List.all_eq_true.1 h3.2.2 s hs;simpa only[Fc.slotP,Bool.and_eq_true,decide_eq_true_eq] using this
 ·have h5:=h2.2;rw[leafOkP,if_pos ho,Bool.and_eq_true] at h5;have h6:=h5.2;simp only[classP,Bool.and_eq_true,decide_eq_true_eq] at h6;rw[world_pl] at h6;exact⟨h6.1,by unfold manyC;omega⟩
theorem FOk.ops(h:FOk p l f):(f.op=5->f.kids.length=1)/\(f.op=6\/f.op=7->f.kids.length=2)/\(f.op≠1->f.op≠5->f.op≠6->f.op≠7->leafP f=true):=by
 have h1:=(wfB_iff.1 h.wf).1;simp only[nodeOkB,Bool.and_eq_true,decide_eq_true_eq,beq_iff_eq] at h1;obtain⟨⟨⟨h2,h3⟩,h4⟩,_⟩:=h1;refine⟨λh=>?_,λh=>?_,λa b c d=>?_⟩
 ·rw[h] at h4;simp[kidsP] at h4;omega
 ·rcases h with h | h <;> rw[h] at h4 <;> simp[kidsP] at h4 <;> omega
 ·simp only[leafP,Bool.and_eq_true,decide_eq_true_eq];omega
section
variable{p:Prog}{t:Tbl}{l:List Int}{f:Fact}
end
end Go.Eng.Bd

namespace Go.Proofs.YtogjaoodkaahoaaGreat
open Go.Eng
open Go.Eng.Fc
open Go.Eng.Bd
variable{c:Vc}{U:List Nat}{W:Fc.FW}{f:Fact}{fs cs:List AV}{q:Th->Bool}{objs:List Th}{args:List (Int×Int)}{a:Int}{p:Prog}
theorem handed{J Jx:List Nat->List Ent->Prop}{k c:Nat}{H1 Hx H':List Ent}{y:AV}(hJ:J (bitsTo k c) H1)(h1:k.testBit c=true->∃b H2,y= .b b/\H'=H2++Hx/\(b=true->J (bitsTo k c++[c]) H2)/\(b=false->Jx (bitsTo k c++[c]) H2))(h2:k.testBit c=false->y= .b false/\H'=H1++Hx):
  ∃b H2,y= .b b/\H'=H2++Hx/\((bif k.testBit c then !b else false)=false->J (bitsTo k (c+1)) H2)/\((bif k.testBit c then !b else false)=true->Jx (bitsTo k (c+1)) H2):=by
 rw[bitsTo_step];cases h:k.testBit c with
 | true=>
  obtain⟨b,H2,rfl,rfl,e1,e2⟩:=h1 h;exact⟨b,H2,rfl,rfl,λh=>e1 (by simpa using h),λh=>e2 (by simpa using h)⟩
 | false=>
  obtain⟨rfl,rfl⟩:=h2 h;exact⟨false,H1,rfl,rfl,λ_=>by simpa using hJ,λh=>by simp at h⟩
theorem setHas(s:Nat)(c:Int)(hc:0<=c)(hs:s<18446744073709551616):PCall Tryz.prog 251 [AV.set s,.i c] (.b (s.testBit c.toNat)):=by
 intro H;refine aC (n:=10) Tryz.func251 λB I w0=>?_;refine Z9 ?_;refine oP (POp.shift rfl rfl rfl rfl rfl hc (sh_right s c)) ?_;refine oP (POp.bits rfl rfl rfl rfl rfl (bit_and _ 1 (by have:=Nat.div_le_self s (2^min c.toNat 64);omega) (by decide))) ?_;refine Z5 ?_;refine r1 4 (H) ?_;exact⟨retB (has_bit s c hs),rfl⟩
theorem upsFrom_lenB:∀(l:List (List Int)) (i:Nat) (U:List Nat),(upsFrom l i U).length=U.length
 | [],_,_=>rfl
 | x::r,i,U=>by rw[upsFrom,upsFrom_lenB r];simp
theorem ups_lenB(W:FW):(upsP W).length=63:=by rw[upsP,upsFrom_lenB];rfl
theorem upFold_ltB(hU:∀x∈U,x<18446744073709551616){i:Nat}(hi:i<61)(l:List Int):upFold U i l<18446744073709551616:=by
 unfold upFold;have:∀(l:List Int) (s:Nat),s<18446744073709551616->l.foldl (λs (p:Int)=>s ||| U.getD p.toNat 0) s<18446744073709551616:=by
  intro l
  induction l with
  | nil=>intro s hs;exact hs
  | cons p r ih=>intro s hs;exact ih _ (or64 hs (u_get hU _))
 exact this l _ (or64 (by omega) (pow64 (by omega)))
theorem upsFrom_ltB:∀(l:List (List Int)) (i:Nat) (U:List Nat),i+l.length<=61->(∀x∈U,x<18446744073709551616)->∀x∈upsFrom l i U,x<18446744073709551616
 | [],_,_,_,h=>h
 | y::r,i,U,hi,h=>by
  rw[upsFrom];simp only[List.length_cons] at hi;exact upsFrom_ltB r (i+1) _ (by omega) (u_set h (upFold_ltB h (by omega) y))
theorem ups_ltB{W:FW}(h:W.parents.length<=60):∀x∈upsP W,x<18446744073709551616:=upsFrom_ltB _ _ _ (by omega) (by decide)
theorem up_dropB{c:Nat}(h:c<U.length):(List.drop (c*1) (List.drop 2 (Wcells W++U.map λs=>AV.set s)))[0]? =some (AV.set (U.getD c 0)):=by
 rw[Nat.mul_one,List.drop_drop,List.getElem?_drop];exact up_get (W:=W) (U:=U) (i:=c) h
theorem own_rngH{c:Int}(h:ownP W c=true):3<=c/\c<3+W.parents.length:=by simpa only[ownP,Bool.and_eq_true,decide_eq_true_eq] using h
theorem slotsR_len(W:Fc.FW)(c:Int):(slotsR W c).length<=W.owner.length:=by rw[<-slotsU_all];exact slotsU_len W c _
theorem all_not{α:Type}(q:α->Bool)(l:List α):(!(l.any λx=>!q x))=l.all q:=by
 induction l with
 | nil=>rfl
 | cons x r ih=>rw[List.any_cons,List.all_cons, <-ih,Bool.not_or,Bool.not_not]
theorem valueH(x:Int×Int)(n:Int):PCall Tryz.prog 323 [AV.mv x,.i n] (.b (valueP n x)):=by
 intro H;refine aC (n:=36) Tryz.func323 λB I w0=>?_;refine Z20 ?_;refine cd (λh0=>?_) λh0=>?_
 ·refine Z16 ?_;refine r1 4 (H) ?_;exact⟨retB (by rw[valueP,if_pos h0,inP];rw[Bool.cond_false_right]),rfl⟩
 ·refine Z6 ?_;refine cd (λh1=>?_) λh1=>?_
  ·refine Z11 ?_;refine r1 4 (H) ?_;exact⟨retB (by rw[valueP,if_neg h0,if_pos h1]),rfl⟩
  ·refine Z23 ?_;refine r1 4 (H) ?_;exact⟨retB (by rw[valueP,if_neg h0,if_neg h1];by_cases h3:x.1=3 <;> simp[h3]),rfl⟩
theorem all1MV{f:Fn}{q:Int×Int->Bool}(hg:PredOk Tryz.prog (.fn f fs cs) (AV.mv) q)(x:Int×Int):PCall Tryz.prog 388 [AV.mv x,.ptr [.fn f fs cs]] (.b (!q x)):=by
 intro H;refine aC (n:=8) Tryz.func388 λB I w0=>?_;refine Z10 ?_;refine OL.vcallC rfl rfl rfl rfl rfl rfl rfl rfl (AVleL.refl _) (hg B _ _) ?_;rintro _ H1 ⟨rfl,e⟩;replace e:=e.symm;subst e;refine Z5 ?_;refine r1 3 (H) ?_;exact⟨by first | rfl | exact retI (by simp_all) | exact retB (by simp_all) | simp_all,rfl⟩
theorem allMV{f:Fn}{q:Int×Int->Bool}(hg:PredOk Tryz.prog (.fn f fs cs) (AV.mv) q)(l:List (Int×Int)):PCall Tryz.prog 321 [AV.mvs l,.fn f fs cs] (.b (l.all q)):=by
 intro H;refine aC (n:=9) Tryz.func321 λB I w0=>?_;refine Z10 ?_;refine oP (POp.call .k (hasMV (q:=λx=>!q x) (.of (all1MV hg)) l)) ?_;refine Z5 ?_;refine r1 4 (H) ?_;exact⟨retB (all_not q l),rfl⟩
theorem idxTH{f:Fn}(hg:PredOk Tryz.prog (.fn f fs cs) (λt:Th=>.agg (thA t)) q)(l:List Th):PCall Tryz.prog 458 [AV.ths l,.fn f fs cs] (.i (idxG l q)):=by
 intro H;refine aC (n:=19) Tryz.func458 λB I w0=>?_;refine CW.boundM (t:=0) rfl (λhb0=>?_);refine Z14 ?_;refine lj (λm st=>∃k:Nat,st=⟨[(8,.i k),(7,.i l.length),(0,AV.ths l),(1,.fn f fs cs)],H⟩/\m=l.length - k/\k<=l.length/\∀x∈l.take k,q x=false) (⟨0,rfl,rfl,by simp,by simp⟩) ?_;rintro m _ ⟨k,rfl,rfl,hk,hp⟩;refine Z6 ?_;refine cd (λh0=>?_) λh0=>?_
 ·have hkl:k<l.length:=by omega
  refine Z17 ?_;refine OL.vcallC rfl rfl rfl rfl rfl rfl rfl rfl (AVleL.refl _) (hg B _ _) ?_;rintro _ H1 ⟨rfl,e⟩;replace e:=e.symm;subst e;refine Z2 ?_;refine cd (λh1=>?_) λh1=>?_
  ·refine Z12 ?_;refine r1 4 (H) ?_;exact⟨retI (idxG_at hkl hp h1),rfl⟩
  ·refine Z7 ?_;exact ag (⟨k+1,rfl,rfl,hkl,λx hx=>by rw[<-take_getD hkl,List.mem_append,List.mem_singleton] at hx;rcases hx with hx | rfl;exact hp x hx;exact h1⟩)
 ·refine Z11 ?_;refine r1 4 (H) ?_;exact⟨retI (idxG_none (by have e:k=l.length:=(by omega);rw[e,List.take_length] at hp;exact hp)),rfl⟩
theorem hasTH{f:Fn}(hg:PredOk Tryz.prog (.fn f fs cs) (λt:Th=>.agg (thA t)) q)(l:List Th):PCall Tryz.prog 429 [AV.ths l,.fn f fs cs] (.b (l.any q)):=by
 intro H;refine aC (n:=9) Tryz.func429 λB I w0=>?_;refine Z9 ?_;refine oP (POp.call .k (idxTH hg l)) ?_;refine Z5 ?_;refine r1 4 (H) ?_;exact⟨retB (idxG_any _ _),rfl⟩
theorem all1TH{f:Fn}(hg:PredOk Tryz.prog (.fn f fs cs) ((λt:Th=>.agg (thA t))) q)(x:Th):PCall Tryz.prog 430 [(λt:Th=>.agg (thA t)) x,.ptr [.fn f fs cs]] (.b (!q x)):=by
 intro H;refine aC (n:=8) Tryz.func430 λB I w0=>?_;refine Z10 ?_;refine OL.vcallC rfl rfl rfl rfl rfl rfl rfl rfl (AVleL.refl _) (hg B _ _) ?_;rintro _ H1 ⟨rfl,e⟩;replace e:=e.symm;subst e;refine Z5 ?_;refine r1 3 (H) ?_;exact⟨by first | rfl | exact retI (by simp_all) | exact retB (by simp_all) | simp_all,rfl⟩
theorem allTH{f:Fn}(hg:PredOk Tryz.prog (.fn f fs cs) ((λt:Th=>.agg (thA t))) q)(l:List (Th)):PCall Tryz.prog 384 [AV.ths l,.fn f fs cs] (.b (l.all q)):=by
 intro H;refine aC (n:=9) Tryz.func384 λB I w0=>?_;refine Z10 ?_;refine oP (POp.call .k (hasTH (q:=λx=>!q x) (.of (all1TH hg)) l)) ?_;refine Z5 ?_;refine r1 4 (H) ?_;exact⟨retB (all_not q l),rfl⟩
theorem hasWH(h:worldP W=true){c:Int}(hc:3<=c/\c<3+W.parents.length){s:Nat}(hs:s<W.owner.length):PCall Tryz.prog 389 [Wptr W,.i c,.i s] (.b (hasH W c s)):=by
 intro H;refine aC (n:=22) Tryz.func389 λB I w0=>?_;have hW:=world_len h;have ho:=world_ownR h hs;have hlt:=ups_ltB hW;refine Z6 ?_;refine CW.dp mixed ?_;refine DP.anyC 0 14 22 rfl (by decide+kernel) rfl rfl (by decide+kernel) ?_;refine Z5 ?_;refine AD.popC rfl rfl rfl (POp.ld1 rfl rfl rfl (up_dropB (c:=c.toNat) (by rw[ups_lenB];omega))) ?_;refine Z10 ?_;refine oP (POp.call .k (setHas _ _ (by omega) (u_get hlt _))) ?_;refine Z4 ?_;refine r1 6 (H) ?_;exact⟨by rfl,rfl⟩
theorem slotsWH(h:worldP W=true){c:Int}(hc:3<=c/\c<3+W.parents.length):PCall Tryz.prog 386 [Wptr W,.i c] (AV.ints (slotsR W c)):=by
 intro H;refine aC (n:=26) Tryz.func386 λB I w0=>?_;have hol:=world_own h;refine Z12 ?_;refine CW.ownNil 5 3 1 rfl ?_;refine Z11 ?_;refine lj (λm st=>∃(i:Nat) (v:Value),st=⟨[(13,.i i),(12,.i W.owner.length),(5,.as (AV.ints (slotsU W c i)) v),(0,Wptr W),(1,.i c)],.own 3 1 v::H⟩/\m=W.owner.length - i/\i<=W.owner.length) (⟨0,_,rfl,rfl,by omega⟩) ?_;rintro m _ ⟨i,v,rfl,rfl,hi⟩;refine Z6 ?_;refine cd (λh0=>?_) λh0=>?_
 ·have hil:i<W.owner.length:=by omega
  refine Z15 ?_;refine oP (POp.call .k (hasWH h hc hil)) ?_;refine Z2 ?_;refine CW.cond rfl (λh1=>?_) (λh1=>?_)
  ·refine Z3 ?_;refine OL.popC (x:=.sl 1 [[.i i]]) rfl rfl rfl (POp.row rfl rfl (by first | rfl | simp_all [strip]) rfl rfl rfl rfl rfl rfl) ?_;refine OL.appendC rfl rfl rfl rfl rfl rfl rfl rfl (AVle.refl _) (rfl) (λv=>by repeat (first | exact Upd.head _ _ _ | apply Upd.tail)) (by have h9:=slotsU_len W c i;simp only[List.length_map,List.length_singleton] at*;omega) (by have h9:=slotsU_len W c i;simp only[List.length_map,List.length_singleton] at*;omega) (λv23=>?_);refine Z8 ?_;exact ag (⟨i+1,v23,by rw[slotsU_yes h1],rfl,hil⟩)
  ·refine Z7 ?_;exact ag (⟨i+1,v,by rw[slotsU_no h1],rfl,hil⟩)
 ·obtain rfl:i=W.owner.length:=by omega
  rw[slotsU_all];refine Z12 ?_;refine Done.retR (rs:=[.tmp 4]) (H':=H) rfl (.tmp rfl (.nil)) (.cons (AVle.asL _ _) .nil) (by repeat (first | exact List.Sublist.refl _ | refine List.Sublist.cons _ ?_)) ?_;exact⟨by rfl,rfl⟩
theorem handed1H(objs:List Th)(x:Int×Int):PCall Tryz.prog 322 [AV.mv x,.ptr [AV.ths objs]] (.b (valueP objs.length x)):=by
 intro H;refine aC (n:=8) Tryz.func322 λB I w0=>?_;refine Z11 ?_;refine oP (POp.call .k (valueH x _)) ?_;refine Z4 ?_;refine r1 3 (H) ?_;exact⟨by first | rfl | exact retI (by simp_all) | exact retB (by simp_all) | simp_all,rfl⟩
theorem things11H(objs:List Th)(x:Int×Int):PCall Tryz.prog 387 [AV.mv x,.ptr [AV.ths objs]] (.b (valueP objs.length x)):=by
 intro H;refine aC (n:=8) Tryz.func387 λB I w0=>?_;refine Z11 ?_;refine oP (POp.call .k (valueH x _)) ?_;refine Z4 ?_;refine r1 3 (H) ?_;exact⟨by first | rfl | exact retI (by simp_all) | exact retB (by simp_all) | simp_all,rfl⟩
theorem things1H(h:worldP W=true)(objs:List Th)(t:Th):PCall Tryz.prog 385 [.agg (thA t),.ptr [Wptr W],.ptr [AV.ths objs]] (.b (thingH W objs.length t)):=by
 intro H;refine aC (n:=26) Tryz.func385 λB I w0=>?_;have hW:=world_len h;refine Z7 ?_;refine CW.dp mixed ?_;refine DP.anyC 0 3 26 rfl (by decide+kernel) rfl rfl (by decide+kernel) ?_;refine Z5 ?_;refine oP (POp.call .k (p153 W t.cls hW)) ?_;refine Z6 ?_;refine DP.anyC 5 13 26 rfl (by decide+kernel) rfl rfl (by decide+kernel) ?_;refine Z6 ?_;refine AD.guardC rfl rfl rfl rfl rfl (λhg=>POp.call (.mk' rfl rfl rfl rfl (by first | rfl | ((repeat (first | exact hg | rfl | refine Bool.and_eq_true_iff.2 ⟨?_,?_⟩));done) | simp_all [strip,constAV])) (slotsWH h (own_rngH hg))) ?_;refine Z14 ?_;refine DP.anyC 16 19 26 rfl (by decide+kernel) rfl rfl (by decide+kernel) ?_;refine Z5 ?_;refine OL.guardC rfl rfl rfl rfl rfl rfl (λhg=>POp.call (.mk' rfl rfl rfl rfl (by first | rfl | ((repeat (first | exact hg | rfl | refine Bool.and_eq_true_iff.2 ⟨?_,?_⟩));done) | simp_all [strip,constAV])) (allMV (.of (things11H objs)) t.slots)) ?_;refine Z5 ?_;refine r1 4 (H) ?_;exact⟨retB (by rw[thingH,show ((slotsR W t.cls).length==t.slots.length)=((t.slots.length:Int)==((slotsR W t.cls).length:Int)) by rw[Bool.eq_iff_iff];simp;omega];cases ownP W t.cls <;> simp),rfl⟩
theorem thingsWH(h:worldP W=true)(objs:List Th):PCall Tryz.prog 320 [Wptr W,AV.ths objs] (.b (objsH W objs)):=by
 intro H;refine aC (n:=13) Tryz.func320 λB I w0=>?_;refine CW.boundM (t:=1) rfl (λhb=>?_);refine Z15 ?_;refine OL.guardC rfl rfl rfl rfl rfl rfl (λhg=>POp.call (.mk' rfl rfl rfl rfl (by first | rfl | ((repeat (first | exact hg | rfl | refine Bool.and_eq_true_iff.2 ⟨?_,?_⟩));done) | simp_all [strip,constAV])) (allTH (.of (things1H h objs)) objs)) ?_;refine Z5 ?_;refine r1 4 (H) ?_;exact⟨retB (by rw[objsH,show decide (objs.length<=40)=decide ((objs.length:Int)<=40) by simp;omega];cases decide ((objs.length:Int)<=40) <;> rfl),rfl⟩
theorem handedWH(h:worldP W=true)(objs:List Th)(args:List (Int×Int)):PCall Tryz.prog 270 [Wptr W,AV.ths objs,AV.mvs args] (.b (handedH W objs args)):=by
 intro H;refine aC (n:=25) Tryz.func270 λB I w0=>?_;refine CW.boundM (t:=2) rfl (λhb=>?_);refine Z10 ?_;refine oP (POp.call .k (thingsWH h objs)) ?_;refine Z13 ?_;refine OL.guardC rfl rfl rfl rfl rfl rfl (λhg=>POp.call (.mk' rfl rfl rfl rfl (by first | rfl | ((repeat (first | exact hg | rfl | refine Bool.and_eq_true_iff.2 ⟨?_,?_⟩));done) | simp_all [strip,constAV])) (allMV (.of (handed1H objs)) args)) ?_;refine Z5 ?_;refine r1 6 (H) ?_;exact⟨retB (by rw[handedH,argsH,show decide (1<=args.length)=decide ((args.length:Int)>=1) by simp;omega,show decide (args.length<=3)=decide ((args.length:Int)<=3) by simp;omega];cases objsH W objs <;> cases decide ((args.length:Int)>=1) <;> cases decide ((args.length:Int)<=3) <;> rfl),rfl⟩
theorem speaksH_step(f:Fact)(hf:smallA f=true)(ih:∀k∈f.kids,PCall Tryz.prog 271 [AV.fact k] (.i (speaksP k))):PCall Tryz.prog 271 [AV.fact f] (.i (speaksP f)):=by
 intro H;refine aC (n:=24) Tryz.func271 λB I w0=>?_;rw[speaksP_eq];obtain⟨ha1,ha2,hk⟩:=smallA_iff hf;refine Z11 ?_;refine CW.cutJ (λst=>st=⟨[(3,.i (argB f)),(1,.ptr (Fcells f))],H⟩) ?_ ?_
 ·refine Z3 ?_;refine oP (POp.call .k (p134 f)) ?_;refine Z2 ?_;refine CW.cond rfl (λh0=>?_) (λh0=>?_)
  ·have ha:argB f=f.arg+1:=by unfold argB;rw[if_pos (by simp at h0;omega)]
   rw[ha] at ha1 ha2;refine Z6 ?_;refine Done.le 3 (y:=.i (argB f)) rfl (AVle.eqI (by rw[ha])) ?_;exact cj rfl
  ·have ha:argB f=0:=by unfold argB;rw[if_neg (by simp at h0;omega)]
   refine Z1 ?_;refine Done.le 3 (y:=.i (argB f)) rfl (AVle.eqI (by rw[ha])) ?_;exact cj rfl
 ·rintro _ rfl;refine Z10 ?_;refine CW.boundM (t:=12) rfl (λhb12=>?_);refine lj (λm st=>∃j:Nat,st=⟨[(14,.i j),(13,.i f.kids.length),(12,AV.facts f.kids),(3,.i (speaksL (f.kids.take j) (argB f)))],H⟩/\m=f.kids.length - j/\j<=f.kids.length) (⟨0,rfl,rfl,by omega⟩) ?_;rintro m _ ⟨j,rfl,rfl,hj⟩;refine Z6 ?_;refine cd (λh1=>?_) λh1=>?_
  ·have hjl:j<f.kids.length:=by omega
   have hkm:=getD_memB hjl;have hsn:=speaksL_snoc (f.kids.getD j default) (f.kids.take j) (argB f);rw[take_getD hjl] at hsn;refine Z8 ?_;refine OL.alC rfl rfl rfl rfl (λkb=>?_);refine Z3 ?_;refine CW.freezeP (d:=5) rfl (by repeat (first | exact Del.head _ _ | apply Del.tail)) ?_;refine Z3 ?_;refine oP (POp.call .k (ih _ hkm)) ?_;refine oP (POp.max2 rfl rfl rfl rfl rfl rfl) ?_;refine Z4 ?_;refine CW.le 3 (y:=.i (speaksL (f.kids.take (j+1)) (argB f))) rfl (AVle.eqI (by rw[hsn,Int.max_def];split <;> (try split) <;> omega)) ?_;refine Z4 ?_;exact ag (⟨j+1,rfl,rfl,by omega⟩)
  ·obtain rfl:j=f.kids.length:=by omega
   rw[List.take_length];refine Z12 ?_;refine r1 2 (H) ?_;exact⟨by rfl,rfl⟩
theorem speaksH:∀f:Fact,smallA f=true->PCall Tryz.prog 271 [AV.fact f] (.i (speaksP f)):=Fact.ind1 λf ih hf=>speaksH_step f hf λk hk=>ih k hk ((smallA_iff hf).2.2 k hk)
theorem hasWI(h:worldP W=true){c:Int}(hc:3<=c/\c<3+W.parents.length){s:Int}(hs:0<=s/\s<W.owner.length):PCall Tryz.prog 389 [Wptr W,.i c,.i s] (.b (hasH W c s.toNat)):=by
 obtain⟨k,rfl⟩:=Int.eq_ofNat_of_zero_le hs.1;exact hasWH h hc (by omega)
theorem getD_drop{l:List Int}{j:Nat}(h:j<l.length):l.drop j=l.getD j default::l.drop (j+1):=by
 rw[List.drop_eq_getElem_cons h,List.getD_eq_getElem?_getD,List.getElem?_eq_getElem h];rfl
theorem num_altH{op cls n:Int}(h34:op=3\/op=4){r:(Int×Int)×Bool}(hb:r.2=true):
  (bif (bif r.1.1==1 then (r.1.2==n)==(op==4) else false) then decide (r.1.2<=n) else false)=leafH W objs op cls n r:=by
 rw[leafH,if_neg (by omega),hb];rcases h34 with e | e
 ·rw[if_pos e,e];cases hk:(r.1.1==1) with
  | false=>rfl
  | true=>
   simp only[Bool.true_and,cond_true];by_cases hlt:r.1.2<n
   ·have h1:(r.1.2==n)=false:=by simp;omega
    rw[h1,decide_eq_true hlt,decide_eq_true (Int.le_of_lt hlt)];rfl
   ·by_cases heq:r.1.2=n
    ·rw[heq];simp
    ·rw[decide_eq_false hlt,decide_eq_false (show ¬r.1.2<=n by omega)];cases ((r.1.2==n)==((3:Int)==4)) <;> rfl
 ·rw[if_neg (by omega),e];cases hk:(r.1.1==1) with
  | false=>rfl
  | true=>
   simp only[Bool.true_and,cond_true];by_cases heq:r.1.2=n
   ·rw[heq];simp
   ·have h1:(r.1.2==n)=false:=by simpa using heq
    rw[h1];rfl
theorem atWH(h:ObjsH W objs){v:Int×Int}(hv:valueP objs.length v=true){p:List Int}(hp:∀s∈p,0<=s/\s<W.owner.length):PCall Tryz.prog 325 [Wptr W,AV.ths objs,AV.mv v,AV.ints p] (.tup [AV.mv (atH W objs v p).1,.b (atH W objs v p).2]):=by
 intro H;refine aC (n:=54) Tryz.func325 λB I w0=>?_;refine Z2 ?_;refine OL.boxC rfl rfl rfl rfl rfl rfl rfl (λvb=>?_);refine OL.alC rfl rfl rfl rfl (λrb=>?_);refine Z12 ?_;refine lj (λm st=>∃(j:Nat) (cur:Int×Int),st=⟨[(14,.i j),(13,.i p.length),(12,AV.ints p),(9,.b false),(8,.p rb 0),(6,.p vb 0),(1,AV.ths objs),(0,Wptr W)],.blk rb 50 [.i 0,.i 0]::.blk vb 50 [AV.i cur.1,AV.i cur.2]::H⟩/\m=p.length - j/\j<=p.length/\valueP objs.length cur=true/\atH W objs cur (p.drop j)=atH W objs v p) (⟨0,v,rfl,rfl,by omega,hv,rfl⟩) ?_;rintro m _ ⟨j,cur,rfl,rfl,hj,hc,hat⟩;refine CW.boundM (t:=12) rfl (λhb=>?_);refine Z6 ?_;refine cd (λh0=>?_) λh0=>?_
 ·have hjl:j<p.length:=by omega
  have hsr:=hp _ (getD_memB hjl);rw[getD_drop hjl,atH] at hat;refine Z22 ?_;refine OL.guardC rfl rfl rfl rfl rfl rfl (λhg=>(by first | exact POp.ixM rfl rfl (gd hg) rfl (gd hg) (by have hk3:cur.1=3:=(by simpa using hg);have:=value_obj hc hk3;omega) | exact POp.ixI rfl rfl (gd hg) rfl (gd hg) (by have hk3:cur.1=3:=(by simpa using hg);have:=value_obj hc hk3;omega))) ?_;refine Z3 ?_;refine OL.guardC rfl rfl rfl rfl rfl rfl (λhg=>POp.call (.mk' rfl rfl rfl rfl (by first | rfl | ((repeat (first | exact hg | rfl | refine Bool.and_eq_true_iff.2 ⟨?_,?_⟩));done) | simp_all [strip,constAV])) (hasWI (W:=W) (c:=(clsH objs cur)) h.w (by have hk3:cur.1=3:=(by simpa using hg);have:=cls_h h hc hk3;omega) hsr)) ?_;refine Z4 ?_;refine CW.cond rfl (λh1=>?_) (λh1=>?_)
  ·have hno:okH W objs cur (p.getD j default)=false:=by rw[okH];by_cases hk3:cur.1=3 <;> simp_all [clsH]
   rw[if_neg (by rw[hno];simp)] at hat;refine Z14 ?_;refine Done.retR (rs:=[.cell 8 50,.tmp 9]) (H':=H) rfl ((by first | exact .cellA inferInstance rfl (by repeat (first | exact .head _ | refine .tail _ ?_)) rfl rfl (.tmp rfl (.nil)) | exact .ptrA inferInstance rfl rfl (.tmp rfl (.nil)))) (AVleL.refl _) (by repeat (first | exact List.Sublist.refl _ | refine List.Sublist.cons _ ?_)) ?_;exact⟨by rw[<-hat];rfl,rfl⟩
  ·have hok:okH W objs cur (p.getD j default)=true:=by rw[okH];by_cases hk3:cur.1=3 <;> simp_all [clsH]
   rw[if_pos hok] at hat;have hk3:cur.1=3:=by rw[okH,Bool.and_eq_true,beq_iff_eq] at hok;exact hok.1
   have hvr:=value_obj hc hk3;have hcr:=cls_h h hc hk3;obtain⟨k0,hk1,hk2,hk5,hk6,hk7,hse,hsv⟩:=ok_h h hc hsr hok;refine Z2 ?_;refine CW.dp mixed ?_;refine DP.anyC 0 16 54 rfl (by decide+kernel) rfl rfl (by decide+kernel) ?_;refine Z13 ?_;refine AD.popC rfl rfl rfl (POp.call .k (slotsWH (c:=(clsH objs cur)) h.w hcr)) ?_;refine Z1 ?_;refine AD.popC rfl rfl rfl (POp.call .k ((by have:=p100 (slotsR W (clsH objs cur)) (p.getD j default);rw[show idxP (slotsR W (clsH objs cur)) (p.getD j default)=k0 from hk1] at this;exact this))) ?_;refine Z2 ?_;refine oP ((by first | exact POp.ixM rfl rfl rfl rfl rfl (by exact hk5) | exact POp.ixI rfl rfl rfl rfl rfl (by exact hk5))) ?_;refine Z9 ?_;exact ag (⟨j+1,stepH W objs cur (p.getD j default),by rw[hse],rfl,by omega,hsv,hat⟩)
 ·obtain rfl:j=p.length:=by omega
  rw[List.drop_length,atH] at hat;refine Z13 ?_;refine Done.retR (rs:=[.cell 8 50,.tmp 9]) (H':=H) rfl ((by first | exact .cellA inferInstance rfl (by repeat (first | exact .head _ | refine .tail _ ?_)) rfl rfl (.tmp rfl (.nil)) | exact .ptrA inferInstance rfl rfl (.tmp rfl (.nil)))) (AVleL.refl _) (by repeat (first | exact List.Sublist.refl _ | refine List.Sublist.cons _ ?_)) ?_;exact⟨by rw[<-hat];rfl,rfl⟩
theorem holdsW_step(h:HOk W objs args f)(ih:∀k∈f.kids,PCall Tryz.prog 272 [Wptr W,AV.fact k,AV.ths objs,AV.mvs args] (.b (holdH W objs args k))):PCall Tryz.prog 272 [Wptr W,AV.fact f,AV.ths objs,AV.mvs args] (.b (holdH W objs args f)):=by
 intro H;refine aC (n:=135) Tryz.func272 λB I w0=>?_;refine Z20 ?_;refine cd (λh0=>?_) λh0=>?_
 ·refine Z8 ?_;refine r1 8 (H) ?_;exact⟨retB (holdH_one h0).symm,rfl⟩
 ·refine Z6 ?_;refine cd (λh1=>?_) λh1=>?_
  ·have hk:=h.ops.1 h1;refine Z9 ?_;refine oP (POp.call .k (ih (f.kids.getD 0 default) (getD_memB (by omega)))) ?_;refine Z7 ?_;refine r1 8 (H) ?_;exact⟨retB (holdH_five h1 hk).symm,rfl⟩
  ·refine Z6 ?_;refine cd (λh2=>?_) λh2=>?_
   ·have hk:=h.ops.2.1 (.inl h2);refine Z9 ?_;refine oP (POp.call .k (ih (f.kids.getD 0 default) (getD_memB (by omega)))) ?_;refine Z8 ?_;refine OL.guardC rfl rfl rfl rfl rfl rfl (λhg=>POp.call (.mk' rfl rfl rfl rfl (by first | rfl | ((repeat (first | exact hg | rfl | refine Bool.and_eq_true_iff.2 ⟨?_,?_⟩));done) | simp_all [strip,constAV])) (ih (f.kids.getD 1 default) (getD_memB (by omega)))) ?_;refine Z7 ?_;refine r1 8 (H) ?_;exact⟨retB (by rw[holdH_six h2 hk];simp),rfl⟩
   ·refine Z6 ?_;refine cd (λh3=>?_) λh3=>?_
    ·have hk:=h.ops.2.1 (.inr h3);refine Z9 ?_;refine oP (POp.call .k (ih (f.kids.getD 0 default) (getD_memB (by omega)))) ?_;refine Z8 ?_;refine OL.guardC rfl rfl rfl rfl rfl rfl (λhg=>POp.call (.mk' rfl rfl rfl rfl (by first | rfl | ((repeat (first | exact hg | rfl | refine Bool.and_eq_true_iff.2 ⟨?_,?_⟩));done) | simp_all [strip,constAV])) (ih (f.kids.getD 1 default) (getD_memB (by omega)))) ?_;refine Z7 ?_;refine r1 8 (H) ?_;exact⟨retB (by rw[holdH_seven h3 hk];simp),rfl⟩
    ·have hlf:=h.ops.2.2 h0 h1 h2 h3;obtain⟨hav,hpr,hcl⟩:=h.leaf hlf;have hl2:f.op=2\/f.op=3\/f.op=4:=by simp only[leafP,Bool.and_eq_true,decide_eq_true_eq] at hlf;omega
     have hva:=h.a _ (getD_memB (l:=args) (k:=f.arg.toNat) (by omega));have hrv:=at_value h.o f.path _ hva hpr;have hat:PCall Tryz.prog 325 [Wptr W,AV.ths objs,AV.mv (args.getD f.arg.toNat default),AV.ints f.path] _:=atWH h.o hva hpr;have hev:=holdH_leaf (W:=W) (objs:=objs) (args:=args) h0 h1 h2 h3;generalize hr:atH W objs (args.getD f.arg.toNat default) f.path=r at hev hrv hat;refine Z4 ?_;refine CW.dp mixed ?_;refine DP.anyAC (λsj b=>match sj with | 0=>.blk b 50 [.i 0,.i 0]::H | _=>.blk b 50 [AV.i r.1.1,AV.i r.1.2]::H) 9 [13,14] 1 0 15 135 rfl (by decide+kernel) rfl rfl rfl rfl (by decide+kernel) ?_;refine TD.popA (by decide+kernel) rfl rfl rfl rfl (λ_=>POp.move rfl rfl rfl) ?_;refine TD.popA (by decide+kernel) rfl rfl rfl rfl (λ_=>POp.move rfl rfl rfl) ?_;refine TD.popA (by decide+kernel) rfl rfl rfl rfl (λ_=>POp.move rfl rfl rfl) ?_;refine TD.popA (by decide+kernel) rfl rfl rfl rfl (λ_=>(by first | exact POp.fa rfl rfl rfl rfl | exact POp.faP rfl rfl rfl rfl)) ?_;refine TD.popA (by decide+kernel) rfl rfl rfl rfl (λ_=>(by first | exact POp.ld1 rfl rfl rfl rfl | (apply POp.ld1H rfl rfl rfl;(case hm=>repeat (first | exact .head _ | refine .tail _ ?_));(case hy=>rfl)))) ?_;refine TD.popA (by decide+kernel) rfl rfl rfl rfl (λ_=>(by first | exact POp.ixM rfl rfl rfl rfl rfl (by omega) | exact POp.ixI rfl rfl rfl rfl rfl (by omega))) ?_;refine TD.popA (by decide+kernel) rfl rfl rfl rfl (λ_=>(by first | exact POp.ldA rfl rfl rfl rfl | (apply POp.ldAH rfl rfl rfl;(case hm=>repeat (first | exact .head _ | refine .tail _ ?_));(case hy=>rfl);(case hn=>rfl)))) ?_;refine TD.popA (by decide+kernel) rfl rfl rfl rfl (λ_=>(by first | exact POp.fa rfl rfl rfl rfl | exact POp.faP rfl rfl rfl rfl)) ?_;refine TD.popA (by decide+kernel) rfl rfl rfl rfl (λ_=>(by first | exact POp.ld1 rfl rfl rfl rfl | (apply POp.ld1H rfl rfl rfl;(case hm=>repeat (first | exact .head _ | refine .tail _ ?_));(case hy=>rfl)))) ?_;refine TD.popA (by decide+kernel) rfl rfl rfl rfl (λ_=>POp.call .k (hat)) ?_;refine TD.popA (by decide+kernel) rfl rfl rfl rfl (λ_=>POp.move rfl rfl rfl) ?_;refine TD.popA (by decide+kernel) rfl rfl rfl rfl (λ_=>POp.extract rfl rfl rfl rfl) ?_;refine TD.popA (by decide+kernel) rfl rfl rfl rfl (λ_=>POp.extract rfl rfl rfl rfl) ?_;refine TD.effA (by decide+kernel) (by decide+kernel) rfl rfl rfl rfl (λ_=>rfl) ?_;refine TD.stoA 0 (by decide+kernel) (by decide+kernel) (by decide+kernel) rfl rfl (λb=>.store rfl rfl rfl rfl rfl rfl rfl rfl (by repeat (first | exact Upd.head _ _ _ | apply Upd.tail)) (by exact rfl) (by exact rfl)) ?_;refine TD.nil (λvb=>?_);refine Z7 ?_;refine CW.freezeP (d:=9) rfl (by repeat (first | exact Del.head _ _ | apply Del.tail)) ?_;refine Z6 ?_;refine CW.cond rfl (λh4=>?_) (λh4=>?_)
     ·have hb:r.2=false:=by simpa using h4
      refine Z8 ?_;refine r1 8 (H) ?_;exact⟨retB (by rw[hev,leafH,hb];simp),rfl⟩
     ·have hb:r.2=true:=by simpa using h4
      have hrv:=hrv hb;refine Z8 ?_;refine CW.cond rfl (λh5=>?_) (λh5=>?_)
      ·have h5:f.op≠2:=by simpa using h5
       refine Z29 ?_;refine r1 8 (H) ?_;exact⟨retB (by rw[hev];exact num_altH (by omega) hb),rfl⟩
      ·replace h5:=nm h5;have h5:f.op=2:=by simpa using h5
       have hcl:=hcl h5;have hkd:=value_kind hrv;have hP:=world_len h.o.w;have hlt:=ups_ltB hP;simp only[classP,Bool.and_eq_true,decide_eq_true_eq] at hcl;refine Z8 ?_;refine cd (λh6=>?_) λh6=>?_
       ·have hro:=value_obj hrv h6;have hcr:=cls_h h.o hrv h6;have hcr2:=hcr;unfold clsH at hcr2;refine Z1 ?_;refine CW.dp mixed ?_;refine DP.anyC 0 13 135 rfl (by decide+kernel) rfl rfl (by decide+kernel) ?_;refine Z10 ?_;refine AD.popC rfl rfl rfl (POp.ld1 rfl rfl rfl (up_dropB (c:=(clsH objs r.1).toNat) (by rw[ups_lenB];omega))) ?_;refine Z4 ?_;refine oP (POp.call .k (setHas _ _ (by omega) (u_get hlt _))) ?_;refine Z6 ?_;refine r1 8 (H) ?_;exact⟨retB (by rw[hev,leafH,if_pos h5,hb,if_neg (by omega),if_neg (by omega)];rfl),rfl⟩
       ·refine Z4 ?_;refine CW.dp mixed ?_;refine DP.anyC 0 9 135 rfl (by decide+kernel) rfl rfl (by decide+kernel) ?_;refine Z6 ?_;refine AD.popC rfl rfl rfl (POp.ld1 rfl rfl rfl (up_dropB (c:=r.1.1.toNat) (by rw[ups_lenB];omega))) ?_;refine Z4 ?_;refine oP (POp.call .k (setHas _ _ (by omega) (u_get hlt _))) ?_;refine Z4 ?_;refine r1 8 (H) ?_;exact⟨retB (by rw[hev,leafH,if_pos h5,hb];rcases hkd with e | e | e;rw[if_pos e,e];rfl;rw[if_neg (by omega),if_pos e,e];rfl;exact absurd e h6),rfl⟩
theorem holdsW:∀f:Fact,HOk W objs args f->PCall Tryz.prog 272 [Wptr W,AV.fact f,AV.ths objs,AV.mvs args] (.b (holdH W objs args f)):=Fact.ind1 λf ih h=>holdsW_step h λk hk=>ih k hk (h.kid k hk)
theorem factHolds(hw:worldP W=true)(f:Fact)(objs:List Th)(args:List (Int×Int)):PCall Tryz.prog 206 [AV.world W,AV.fact f,AV.ths objs,AV.mvs args] (.tup [.b (takesH W objs args f && holdH W objs args f),.i (if takesH W objs args f=true then 0 else 2)]):=by
 intro H;refine aC (n:=40) Tryz.func206 λB I w0=>?_;refine CW.boundM (t:=3) rfl (λhb3=>?_);refine Z12 ?_;refine oP (POp.row rfl rfl (by first | rfl | simp_all [strip]) rfl rfl rfl rfl rfl rfl) ?_;refine oP (POp.callLe .k (.cons (.refl _) (.cons (AVle_facts [f] (by rfl)) .nil)) (by have:=p80t hw [f];rwa [List.all_cons,List.all_nil,Bool.and_true] at this)) ?_;refine Z16 ?_;refine OL.guardC rfl rfl rfl rfl rfl rfl (λhg=>POp.call (.mk' rfl rfl rfl rfl (by first | rfl | ((repeat (first | exact hg | rfl | refine Bool.and_eq_true_iff.2 ⟨?_,?_⟩));done) | simp_all [strip,constAV])) (handedWH hw objs args)) ?_;refine Z4 ?_;refine OL.guardC rfl rfl rfl rfl rfl rfl (λhg=>POp.call (.mk' rfl rfl rfl rfl (by first | rfl | ((repeat (first | exact hg | rfl | refine Bool.and_eq_true_iff.2 ⟨?_,?_⟩));done) | simp_all [strip,constAV])) (speaksH f (formed_smallA (w:=W) (by simp_all)))) ?_;refine Z6 ?_;refine CW.cond rfl (λh0=>?_) (λh0=>?_)
 ·have hno:takesH W objs args f=false:=by
   rw[takesH,Bool.eq_false_iff];intro hy;rw[Bool.and_eq_true,Bool.and_eq_true,decide_eq_true_eq] at hy;simp_all;omega
  refine Z8 ?_;refine rR [.tmp 8,.tmp 9] (H) ?_;exact⟨by rw[hno];rfl,rfl⟩
 ·have hyes:takesH W objs args f=true:=by
   rw[takesH];simp_all
  refine Z8 ?_;refine oP (POp.call .k (holdsW f (takes_ok hw hyes))) ?_;refine Z5 ?_;refine rR [.tmp 8,.tmp 9] (H) ?_;exact⟨by rw[hyes];rfl,rfl⟩
theorem holdsV(p:Prog){W:Fc.FW}(hw:worldP W=true)(f:Fact)(objs:List Th)(args:List (Int×Int)):PCall Tryz.prog 127 [AV.pg p W,AV.fact f,AV.ths objs,AV.mvs args] (.tup [.b (takesH W objs args f && holdH W objs args f),.b (takesH W objs args f)]):=by
 intro H;refine aC (n:=24) Tryz.func127 λB I w0=>?_;refine Z15 ?_;refine oP (POp.call .k (factHolds hw f objs args)) ?_;refine Z17 ?_;refine rR [.tmp 8,.tmp 9] (H) ?_;exact⟨by rw[if_zero];rfl,rfl⟩
theorem callerV:PCall Tryz.prog 128 [] (AV.bl (2,0)):=by
 intro H;refine aC (n:=2) Tryz.func128 λB I w0=>?_;refine Z2 ?_;refine OL.alC rfl rfl rfl rfl (λrb=>?_);refine Z9 ?_;refine rR [.cell 0 55] (H) ?_;exact⟨by rfl,rfl⟩
theorem nobodyV:PCall Tryz.prog 130 [] (AV.bl (1,0)):=by
 intro H;refine aC (n:=2) Tryz.func130 λB I w0=>?_;refine Z2 ?_;refine OL.alC rfl rfl rfl rfl (λrb=>?_);refine Z9 ?_;refine rR [.cell 0 55] (H) ?_;exact⟨by rfl,rfl⟩
theorem truthH:PCall Tryz.prog 115 [] (AV.fact (.mk 1 0 [] 0 0 [])):=by
 intro H;refine aC (n:=2) Tryz.func115 λB I w0=>?_;refine Z2 ?_;refine OL.alC rfl rfl rfl rfl (λb0=>?_);refine Z9 ?_;refine Done.retR (rs:=[.cell 0 38]) (H':=H) rfl ((by first | exact .cellA inferInstance rfl (by repeat (first | exact .head _ | refine .tail _ ?_)) rfl rfl (.nil) | exact .ptrA inferInstance rfl rfl (.nil))) (.cons (AVle.agg (.cons (.refl _) (.cons (.refl _) (.cons (AVle.nil 1) (.cons (.refl _) (.cons (.refl _) (.cons (AVle.nil 6) .nil))))))) .nil) (by repeat (first | exact List.Sublist.refl _ | refine List.Sublist.cons _ ?_)) ?_;exact⟨by rfl,rfl⟩
theorem truth_good(W:Fc.FW)(a:Int)(ha:0<=a):goodF W (.mk 1 0 [] 0 0 []) a=true:=by
 rw[goodF,spkP_eq _ ha];rfl
theorem takes_hand(h:takesH W objs args f=true):handedH W objs args=true:=by
 simp only[takesH,Bool.and_eq_true] at h;exact h.1.2
theorem judge_bif(A B D:Bool):(bif bif !A then true else !B then true else D)= !(A && B && !D):=by cases A <;> cases B <;> cases D <;> rfl
theorem judge_call{v:Vw}(ha:1<=a/\a<=3)(hb:goodF W v.before a=true):(takesH W c.objs c.args v.before && takesH W c.after [c.val] (.mk 1 0 [] 0 0 []) && !((c.args.length:Int) !=a))=callT W a c:=by
 cases hc:callT W a c with
 | true=>
  rw[takes_of hc ha hb,takes_after hc ha (truth_good W 1 (by decide))];simp only[callT,Bool.and_eq_true,beq_iff_eq] at hc;simp[hc.1.1.1.1]
 | false=>
  rcases hand_call hc ha with h | h | h
  ·have:takesH W c.objs c.args v.before=false:=by
    cases ht:takesH W c.objs c.args v.before with
    | false=>rfl
    | true=>rw[takes_hand ht] at h;cases h
   rw[this];rfl
  ·have:takesH W c.after [c.val] (.mk 1 0 [] 0 0 [])=false:=by
    cases ht:takesH W c.after [c.val] (.mk 1 0 [] 0 0 []) with
    | false=>rfl
    | true=>rw[takes_hand ht] at h;cases h
   rw[this,Bool.and_false];rfl
  ·simp[h]
def judgeOk(p:Prog)(v:Vw)(c:Vc):Bool:=(sizesP p).isSome && isGen p v.of && vowT (wOf p) v (argsG p v.of) && callT (wOf p) (argsG p v.of) c
def judgeR(p:Prog)(v:Vw)(c:Vc):Int×Int:=if judgeOk p v c=true then judgeT (wOf p) v c else (0,0)
theorem gens_rng(h:(sizesP p).isSome=true){n:Int}(hn:isGen p n=true):1<=argsG p n/\argsG p n<=3:=by
 obtain⟨o,ho⟩:=Option.isSome_iff_exists.1 h;simp only[isGen,Bool.and_eq_true,decide_eq_true_eq] at hn;have:=gens_in (sizes_parts ho).2.2.1 (getD_memB (l:=p.gens) (k:=n.toNat) (by omega));show 1<=p.gens.getD n.toNat default/\p.gens.getD n.toNat default<=3;omega
theorem judgeV(p:Prog){W:Fc.FW}(hw:worldP W=true){v:Vw}(c:Vc)(hgn:isGen p v.of=true)(ha:1<=argsG p v.of/\argsG p v.of<=3)(hv:vowT W v (argsG p v.of)=true):PCall Tryz.prog 71 [AV.pg p W,AV.vow v,AV.vcall c] (.tup [AV.bl (if callT W (argsG p v.of) c=true then judgeT W v c else (0,0)),.b (callT W (argsG p v.of) c)]):=by
 intro H;refine aC (n:=100) Tryz.func71 λB I w0=>?_;have hv2:=hv;simp only[vowT,Bool.and_eq_true,decide_eq_true_eq,List.all_eq_true] at hv2;obtain⟨⟨hv3,hvb⟩,hvc⟩:=hv2;have hjc:=judge_call (c:=c) ha hvb;refine Z5 ?_;refine OL.alC rfl rfl rfl rfl (λrb=>?_);refine Z12 ?_;refine oP (POp.call .k (holdsV p hw v.before c.objs c.args)) ?_;refine Z9 ?_;refine CW.dp mixed ?_;refine DP.anyC 0 7 100 rfl (by decide+kernel) rfl rfl (by decide+kernel) ?_;refine Z1 ?_;refine AD.popC rfl rfl rfl (POp.call .k (truthH)) ?_;refine Z4 ?_;refine AD.popC (x:=AV.mvs [c.val]) rfl rfl rfl (POp.row rfl rfl (by first | rfl | simp_all [strip]) rfl rfl rfl rfl rfl rfl) ?_;refine Z2 ?_;refine oP (POp.call .k (holdsV p hw (.mk 1 0 [] 0 0 []) c.after [c.val])) ?_;refine Z6 ?_;refine DP.anyC 9 12 100 rfl (by decide+kernel) rfl rfl (by decide+kernel) ?_;refine Z9 ?_;refine CW.dp mixed ?_;refine Z28 ?_;refine DP.anyC 7 14 100 rfl (by decide+kernel) rfl rfl (by decide+kernel) ?_;refine Z6 ?_;refine AD.guardC rfl rfl rfl rfl rfl (λhg=>POp.call (.mk' rfl rfl rfl rfl (by first | rfl | ((repeat (first | exact hg | rfl | refine Bool.and_eq_true_iff.2 ⟨?_,?_⟩));done) | simp_all [strip,constAV])) (argsV W hgn)) ?_;refine Z6 ?_;rw[judge_bif,hjc];refine CW.cond rfl (λh0=>?_) (λh0=>?_)
 ·rw[Bool.not_eq_true'] at h0;rw[h0];refine Z9 ?_;refine Done.retR (rs:=[.cell 6 55,.tmp 7]) (H':=H) rfl ((by first | exact .cellA inferInstance rfl (by repeat (first | exact .head _ | refine .tail _ ?_)) rfl rfl (.tmp rfl (.nil)) | exact .ptrA inferInstance rfl rfl (.tmp rfl (.nil)))) (AVleL.refl _) (by repeat (first | exact List.Sublist.refl _ | refine List.Sublist.cons _ ?_)) ?_;exact⟨by rfl,rfl⟩
 ·rw[Bool.not_eq_false'] at h0;rw[h0,if_pos rfl,takes_of h0 ha hvb,Bool.true_and];refine Z9 ?_;refine CW.cond rfl (λh1=>?_) (λh1=>?_)
  ·have h1:holdH W c.objs c.args v.before=false:=by simpa using h1
   rw[judgeT,if_neg (by rw[h1];simp)];refine Z2 ?_;refine oP (POp.call .k (callerV)) ?_;refine Z6 ?_;refine Done.retR (rs:=[.cell 6 55,.tmp 7]) (H':=H) rfl ((by first | exact .cellA inferInstance rfl (by repeat (first | exact .head _ | refine .tail _ ?_)) rfl rfl (.tmp rfl (.nil)) | exact .ptrA inferInstance rfl rfl (.tmp rfl (.nil)))) (AVleL.refl _) (by repeat (first | exact List.Sublist.refl _ | refine List.Sublist.cons _ ?_)) ?_;exact⟨by rfl,rfl⟩
  ·have h1:holdH W c.objs c.args v.before=true:=by simpa using h1
   rw[judgeT,if_pos h1];refine Z12 ?_;refine CW.boundM (t:=61) rfl (λhb61=>?_);refine lj (λm st=>∃i:Nat,st=⟨[(63,.i i),(62,.i v.cases.length),(61,AV.vcs v.cases),(7,.b false),(6,.p rb 0),(5,.ptr (callA c)),(3,.ptr (pgA p W))],.blk rb 55 [.i 0,.i 0]::H⟩/\m=v.cases.length - i/\i<=v.cases.length/\judgeL W c (v.cases.drop i) i=judgeL W c v.cases 0) (⟨0,rfl,rfl,by omega,rfl⟩) ?_;rintro m _ ⟨i,rfl,rfl,hi,hst⟩;refine Z6 ?_;refine cd (λh2=>?_) λh2=>?_
   ·have hil:i<v.cases.length:=by omega
    obtain⟨x,hx⟩:∃x,x=v.cases.getD i default:=⟨_,rfl⟩;rw[judgeL_step hil, <-hx] at hst;have hxc:=hvc x (hx▸getD_memB hil);simp only[caseT,Bool.and_eq_true] at hxc;refine Z9 ?_;refine OL.alC rfl rfl rfl rfl (λcb=>?_);refine Z5 ?_;rw[<-hx];refine CW.freezeP (d:=13) rfl (by repeat (first | exact Del.head _ _ | apply Del.tail)) ?_;refine Z8 ?_;refine oP (POp.call .k (holdsV p hw x.whn c.objs c.args)) ?_;refine Z16 ?_;refine OL.popC (x:=AV.mvs [c.val]) rfl rfl rfl (POp.row rfl rfl (by first | rfl | simp_all [strip]) rfl rfl rfl rfl rfl rfl) ?_;refine oP (POp.call .k (holdsV p hw x.thn c.after [c.val])) ?_;refine Z16 ?_;rw[takes_of h0 ha hxc.1,takes_after h0 ha hxc.2,Bool.true_and,Bool.true_and,Bool.cond_false_right];refine CW.cond rfl (λh3=>?_) (λh3=>?_)
    ·rw[if_pos h3] at hst;refine Z14 ?_;refine Done.retR (rs:=[.cell 6 55,.tmp 7]) (H':=H) rfl ((by first | exact .cellA inferInstance rfl (by repeat (first | exact .head _ | refine .tail _ ?_)) rfl rfl (.tmp rfl (.nil)) | exact .ptrA inferInstance rfl rfl (.tmp rfl (.nil)))) (AVleL.refl _) (by repeat (first | exact List.Sublist.refl _ | refine List.Sublist.cons _ ?_)) ?_;exact⟨by rw[<-hst];rfl,rfl⟩
    ·rw[if_neg (by rw[h3];simp)] at hst;refine Z7 ?_;exact ag (⟨i+1,rfl,rfl,hil,hst⟩)
   ·obtain rfl:i=v.cases.length:=by omega
    rw[List.drop_length,judgeL] at hst;refine Z7 ?_;refine oP (POp.call .k (nobodyV)) ?_;refine Z5 ?_;refine Done.retR (rs:=[.cell 6 55,.tmp 7]) (H':=H) rfl ((by first | exact .cellA inferInstance rfl (by repeat (first | exact .head _ | refine .tail _ ?_)) rfl rfl (.tmp rfl (.nil)) | exact .ptrA inferInstance rfl rfl (.tmp rfl (.nil)))) (AVleL.refl _) (by repeat (first | exact List.Sublist.refl _ | refine List.Sublist.cons _ ?_)) ?_;exact⟨by rw[<-hst];rfl,rfl⟩
theorem judge_bif2(S G V:Bool):(bif bif !S then true else !G then true else !V)= !(S && G && V):=by cases S <;> cases G <;> cases V <;> rfl
theorem judgeC(hp:p.Small)(v:Vw)(c:Vc):PCall Tryz.prog 15 [AV.prog p,AV.vow v,AV.vcall c] (.tup [AV.bl (judgeR p v c),.i (if judgeOk p v c=true then 0 else 2)]):=by
 intro H;refine aC (n:=47) Tryz.func15 λB I w0=>?_;refine Z5 ?_;refine OL.alC rfl rfl rfl rfl (λrb=>?_);refine Z6 ?_;refine oP (POp.call .k (readV hp)) ?_;refine Z3 ?_;refine OL.alC rfl rfl rfl rfl (λpb=>?_);refine Z6 ?_;refine CW.freezeP (d:=8) rfl (by repeat (first | exact Del.head _ _ | apply Del.tail)) ?_;refine CW.dp mixed ?_;refine Z12 ?_;refine DP.anyC 3 6 47 rfl (by decide+kernel) rfl rfl (by decide+kernel) ?_;refine Z5 ?_;refine OL.guardC rfl rfl rfl rfl rfl rfl (λhg=>POp.call (.mk' rfl rfl rfl rfl (by first | rfl | ((repeat (first | exact hg | rfl | refine Bool.and_eq_true_iff.2 ⟨?_,?_⟩));done) | simp_all [strip,constAV])) (genV p (wOf p) v.of)) ?_;refine Z14 ?_;refine DP.anyC 10 16 47 rfl (by decide+kernel) rfl rfl (by decide+kernel) ?_;refine Z5 ?_;refine AD.guardC rfl rfl rfl rfl rfl (λhg=>POp.call (.mk' rfl rfl (gd hg) rfl (by first | rfl | ((repeat (first | exact hg | rfl | refine Bool.and_eq_true_iff.2 ⟨?_,?_⟩));done) | simp_all [strip,constAV])) (argsV (wOf p) (by have h9:=hg;revert h9;cases (sizesP p).isSome <;> cases isGen p v.of <;> simp))) ?_;refine Z2 ?_;refine OL.guardC rfl rfl rfl rfl rfl rfl (λhg=>POp.call (.mk' rfl rfl rfl rfl (by first | rfl | ((repeat (first | exact hg | rfl | refine Bool.and_eq_true_iff.2 ⟨?_,?_⟩));done) | simp_all [strip,constAV])) (vowC p (W:=wOf p) (by rw[wOf_yes (by have h9:=hg;revert h9;cases (sizesP p).isSome <;> simp)];exact (heads_of (by have h9:=hg;revert h9;cases (sizesP p).isSome <;> simp)).world) v (by have h1:=gens_rng (by have h9:=hg;revert h9;cases (sizesP p).isSome <;> simp) (by have h9:=hg;revert h9;cases (sizesP p).isSome <;> cases isGen p v.of <;> simp);omega))) ?_;refine Z4 ?_;rw[judge_bif2];refine CW.cond rfl (λh0=>?_) (λh0=>?_)
 ·rw[Bool.not_eq_true'] at h0;have hno:judgeOk p v c=false:=by rw[judgeOk,h0];rfl
  rw[judgeR,hno];refine Z9 ?_;refine Done.retR (rs:=[.cell 6 55,.tmp 7]) (H':=H) rfl ((by first | exact .cellA inferInstance rfl (by repeat (first | exact .head _ | refine .tail _ ?_)) rfl rfl (.tmp rfl (.nil)) | exact .ptrA inferInstance rfl rfl (.tmp rfl (.nil)))) (AVleL.refl _) (by repeat (first | exact List.Sublist.refl _ | refine List.Sublist.cons _ ?_)) ?_;exact⟨by rfl,rfl⟩
 ·rw[Bool.not_eq_false'] at h0;have hok:judgeOk p v c=callT (wOf p) (argsG p v.of) c:=by rw[judgeOk,h0,Bool.true_and]
  rw[Bool.and_eq_true,Bool.and_eq_true] at h0;obtain⟨⟨hz,hgn⟩,hvw⟩:=h0;have ha:=gens_rng hz hgn;have hw:worldP (wOf p)=true:=by rw[wOf_yes hz];exact (heads_of hz).world
  rw[judgeR,hok];refine Z7 ?_;refine oP (POp.call .k (judgeV p hw c hgn ha hvw)) ?_;refine Z3 ?_;refine OL.alC rfl rfl rfl rfl (λjb=>?_);refine Z11 ?_;refine CW.cond rfl (λh1=>?_) (λh1=>?_)
  ·have h1:callT (wOf p) (argsG p v.of) c=false:=by simpa using h1
   rw[h1];refine Z9 ?_;refine Done.retR (rs:=[.cell 6 55,.tmp 7]) (H':=H) rfl ((by first | exact .cellA inferInstance rfl (by repeat (first | exact .head _ | refine .tail _ ?_)) rfl rfl (.tmp rfl (.nil)) | exact .ptrA inferInstance rfl rfl (.tmp rfl (.nil)))) (AVleL.refl _) (by repeat (first | exact List.Sublist.refl _ | refine List.Sublist.cons _ ?_)) ?_;exact⟨by rfl,rfl⟩
  ·have h1:callT (wOf p) (argsG p v.of) c=true:=by simpa using h1
   rw[h1];refine Z10 ?_;refine Done.retR (rs:=[.cell 6 55,.tmp 7]) (H':=H) rfl ((by first | exact .cellA inferInstance rfl (by repeat (first | exact .head _ | refine .tail _ ?_)) rfl rfl (.tmp rfl (.nil)) | exact .ptrA inferInstance rfl rfl (.tmp rfl (.nil)))) (AVleL.refl _) (by repeat (first | exact List.Sublist.refl _ | refine List.Sublist.cons _ ?_)) ?_;exact⟨by rfl,rfl⟩
theorem rHasI(h:worldP W=true){c:Int}(hc:3<=c/\c<3+W.parents.length){s:Int}(hs:0<=s/\s<W.owner.length):PCall Tryz.prog 174 [AV.world W,.i c,.i s] (.b (hasH W c s.toNat)):=by
 obtain⟨k,rfl⟩:=Int.eq_ofNat_of_zero_le hs.1;exact rHasS h hc.1 hc.2 (by omega)
theorem rAtH(h:ObjsH W objs){v:Int×Int}(hv:valueP objs.length v=true){p:List Int}(hp:∀s∈p,0<=s/\s<W.owner.length):PCall Tryz.prog 220 [AV.world W,AV.ths objs,AV.mv v,AV.ints p] (.tup [AV.mv (atH W objs v p).1,.b (atH W objs v p).2]):=by
 intro H;refine aC (n:=67) Tryz.func220 λB I w0=>?_;refine Z3 ?_;refine OL.boxC rfl rfl rfl rfl rfl rfl rfl (λvb=>?_);refine OL.alC rfl rfl rfl rfl (λrb=>?_);refine Z12 ?_;refine lj (λm st=>∃(j:Nat) (cur:Int×Int),st=⟨[(17,.i j),(16,.i p.length),(15,AV.ints p),(9,.b false),(8,.p rb 0),(6,.p vb 0),(4,.ptr (Wcells W)),(1,AV.ths objs)],.blk rb 50 [.i 0,.i 0]::.blk vb 50 [AV.i cur.1,AV.i cur.2]::H⟩/\m=p.length - j/\j<=p.length/\valueP objs.length cur=true/\atH W objs cur (p.drop j)=atH W objs v p) (⟨0,v,rfl,rfl,by omega,hv,rfl⟩) ?_;rintro m _ ⟨j,cur,rfl,rfl,hj,hc,hat⟩;refine CW.boundM (t:=15) rfl (λhb=>?_);refine Z6 ?_;refine cd (λh0=>?_) λh0=>?_
 ·have hjl:j<p.length:=by omega
  have hsr:=hp _ (getD_memB hjl);rw[getD_drop hjl,atH] at hat;refine Z13 ?_;refine CW.dp mixed ?_;refine Z16 ?_;refine DP.anyC 4 12 67 rfl (by decide+kernel) rfl rfl (by decide+kernel) ?_;refine Z4 ?_;refine AD.guardC rfl rfl rfl rfl rfl (λhg=>(by first | exact POp.ixM rfl rfl (gd hg) rfl (gd hg) (by have hk3:cur.1=3:=(by simpa using hg);have:=value_obj hc hk3;omega) | exact POp.ixI rfl rfl (gd hg) rfl (gd hg) (by have hk3:cur.1=3:=(by simpa using hg);have:=value_obj hc hk3;omega))) ?_;refine Z5 ?_;refine OL.guardC rfl rfl rfl rfl rfl rfl (λhg=>POp.call (.mk' rfl rfl rfl rfl (by first | rfl | ((repeat (first | exact hg | rfl | refine Bool.and_eq_true_iff.2 ⟨?_,?_⟩));done) | simp_all [strip,constAV])) (rHasI (W:=W) (c:=(clsH objs cur)) h.w (by have hk3:cur.1=3:=(by simpa using hg);have:=cls_h h hc hk3;omega) hsr)) ?_;refine Z4 ?_;refine CW.cond rfl (λh1=>?_) (λh1=>?_)
  ·have hno:okH W objs cur (p.getD j default)=false:=by rw[okH];by_cases hk3:cur.1=3 <;> simp_all [clsH]
   rw[if_neg (by rw[hno];simp)] at hat;refine Z14 ?_;refine Done.retR (rs:=[.cell 8 50,.tmp 9]) (H':=H) rfl ((by first | exact .cellA inferInstance rfl (by repeat (first | exact .head _ | refine .tail _ ?_)) rfl rfl (.tmp rfl (.nil)) | exact .ptrA inferInstance rfl rfl (.tmp rfl (.nil)))) (AVleL.refl _) (by repeat (first | exact List.Sublist.refl _ | refine List.Sublist.cons _ ?_)) ?_;exact⟨by rw[<-hat];rfl,rfl⟩
  ·have hok:okH W objs cur (p.getD j default)=true:=by rw[okH];by_cases hk3:cur.1=3 <;> simp_all [clsH]
   rw[if_pos hok] at hat;have hk3:cur.1=3:=by rw[okH,Bool.and_eq_true,beq_iff_eq] at hok;exact hok.1
   have hvr:=value_obj hc hk3;have hcr:=cls_h h hc hk3;obtain⟨k0,hk1,hk2,hk5,hk6,hk7,hse,hsv⟩:=ok_h h hc hsr hok;have hol:(slotsR W (clsH objs cur)).length<=40:=Nat.le_trans (slotsR_len _ _) (world_own h.w);refine Z3 ?_;refine CW.dp mixed ?_;refine DP.anyC 0 7 67 rfl (by decide+kernel) rfl rfl (by decide+kernel) ?_;refine Z9 ?_;refine oP (POp.call .k (rSlots (c:=(clsH objs cur)) h.w hcr.1 hcr.2)) ?_;refine Z11 ?_;refine lj (λm st=>∃k:Nat,st=⟨[(47,.i k),(46,.i (slotsR W (clsH objs cur)).length),(45,AV.ints (slotsR W (clsH objs cur))),(11,.i (p.getD j default)),(17,.i j),(16,.i p.length),(15,AV.ints p),(9,.b false),(8,.p rb 0),(6,.p vb 0),(4,.ptr (Wcells W)),(1,AV.ths objs)],.blk rb 50 [.i 0,.i 0]::.blk vb 50 [AV.i cur.1,AV.i cur.2]::H⟩/\m=(slotsR W (clsH objs cur)).length - k/\k<=(slotsR W (clsH objs cur)).length/\k<=k0) (⟨0,rfl,rfl,by omega,by omega⟩) ?_;rintro m _ ⟨k,rfl,rfl,hk,hne⟩;refine Z6 ?_;refine CW.cond rfl (λh2=>?_) (λh2=>?_)
   ·replace h2:=nm h2;have hkl:k<(slotsR W (clsH objs cur)).length:=by omega
    refine Z20 ?_;refine cd (λh3=>?_) λh3=>?_
    ·have hidx:k=k0:=by
      rcases Nat.lt_or_ge k k0 with hlt | hge
      ·exact absurd h3 (hk7 k hlt)
      ·omega
     refine Z9 ?_;refine oP ((by first | exact POp.ixM rfl rfl rfl rfl rfl (by rw[hidx];exact hk5) | exact POp.ixI rfl rfl rfl rfl rfl (by rw[hidx];exact hk5))) ?_;refine Z11 ?_;rw[show ((objs.getD cur.2.toNat default).slots.getD k default)=stepH W objs cur (p.getD j default) by rw[hse,hidx]];refine Z4 ?_;exact ag (⟨j+1,stepH W objs cur (p.getD j default),rfl,rfl,by omega,hsv,hat⟩)
    ·have hne2:k+1<=k0:=by
      rcases Nat.lt_or_ge k k0 with hlt | hge
      ·omega
      ·have e:k=k0:=by omega
       exact absurd (by rw[e];exact hk6) h3
     refine Z7 ?_;exact ag (⟨k+1,rfl,rfl,by omega,hne2⟩)
   ·exfalso;simp only[decide_eq_false_iff_not] at h2;omega
 ·obtain rfl:j=p.length:=by omega
  rw[List.drop_length,atH] at hat;refine Z13 ?_;refine Done.retR (rs:=[.cell 8 50,.tmp 9]) (H':=H) rfl ((by first | exact .cellA inferInstance rfl (by repeat (first | exact .head _ | refine .tail _ ?_)) rfl rfl (.tmp rfl (.nil)) | exact .ptrA inferInstance rfl rfl (.tmp rfl (.nil)))) (AVleL.refl _) (by repeat (first | exact List.Sublist.refl _ | refine List.Sublist.cons _ ?_)) ?_;exact⟨by rw[<-hat];rfl,rfl⟩
theorem rClassOf(h:ObjsH W objs){v:Int×Int}(hv:valueP objs.length v=true):PCall Tryz.prog 221 [AV.ths objs,AV.mv v] (.i (if v.1=1 then 1 else if v.1=2 then 2 else clsH objs v)):=by
 intro H;refine aC (n:=17) Tryz.func221 λB I w0=>?_;refine Z20 ?_;refine cd (λh0=>?_) λh0=>?_
 ·refine Z8 ?_;refine r1 4 (H) ?_;exact⟨retI (by rw[if_pos h0]),rfl⟩
 ·refine Z6 ?_;refine cd (λh1=>?_) λh1=>?_
  ·refine Z8 ?_;refine r1 4 (H) ?_;exact⟨retI (by rw[if_neg h0,if_pos h1]),rfl⟩
  ·have hr:=value_obj hv (by have:=value_kind hv;omega);refine Z15 ?_;refine r1 4 (H) ?_;exact⟨retI (by rw[if_neg h0,if_neg h1];rfl),rfl⟩
theorem rHolds_step(h:HOk W objs args f)(ih:∀k∈f.kids,PCall Tryz.prog 139 [AV.world W,AV.fact k,AV.ths objs,AV.mvs args] (.b (holdH W objs args k))):PCall Tryz.prog 139 [AV.world W,AV.fact f,AV.ths objs,AV.mvs args] (.b (holdH W objs args f)):=by
 intro H;refine aC (n:=121) Tryz.func139 λB I w0=>?_;refine Z21 ?_;refine cd (λh0=>?_) λh0=>?_
 ·refine Z8 ?_;refine r1 8 (H) ?_;exact⟨retB (holdH_one h0).symm,rfl⟩
 ·refine Z6 ?_;refine cd (λh1=>?_) λh1=>?_
  ·have hk:=h.ops.1 h1;refine Z1 ?_;refine CW.dp mixed ?_;refine DP.anyC 0 7 121 rfl (by decide+kernel) rfl rfl (by decide+kernel) ?_;refine Z9 ?_;refine oP (POp.call .k (ih (f.kids.getD 0 default) (getD_memB (by omega)))) ?_;refine Z7 ?_;refine r1 8 (H) ?_;exact⟨retB (holdH_five h1 hk).symm,rfl⟩
  ·refine Z6 ?_;refine cd (λh2=>?_) λh2=>?_
   ·have hk:=h.ops.2.1 (.inl h2);refine Z1 ?_;refine CW.dp mixed ?_;refine DP.anyC 0 7 121 rfl (by decide+kernel) rfl rfl (by decide+kernel) ?_;refine Z9 ?_;refine oP (POp.call .k (ih (f.kids.getD 0 default) (getD_memB (by omega)))) ?_;refine Z6 ?_;refine DP.anyC 9 16 121 rfl (by decide+kernel) rfl rfl (by decide+kernel) ?_;refine Z9 ?_;refine OL.guardC rfl rfl rfl rfl rfl rfl (λhg=>POp.call (.mk' rfl rfl rfl rfl (by first | rfl | ((repeat (first | exact hg | rfl | refine Bool.and_eq_true_iff.2 ⟨?_,?_⟩));done) | simp_all [strip,constAV])) (ih (f.kids.getD 1 default) (getD_memB (by omega)))) ?_;refine Z7 ?_;refine r1 8 (H) ?_;exact⟨retB (by rw[holdH_six h2 hk];simp),rfl⟩
   ·refine Z6 ?_;refine cd (λh3=>?_) λh3=>?_
    ·have hk:=h.ops.2.1 (.inr h3);refine Z1 ?_;refine CW.dp mixed ?_;refine DP.anyC 0 7 121 rfl (by decide+kernel) rfl rfl (by decide+kernel) ?_;refine Z9 ?_;refine oP (POp.call .k (ih (f.kids.getD 0 default) (getD_memB (by omega)))) ?_;refine Z6 ?_;refine DP.anyC 9 16 121 rfl (by decide+kernel) rfl rfl (by decide+kernel) ?_;refine Z9 ?_;refine OL.guardC rfl rfl rfl rfl rfl rfl (λhg=>POp.call (.mk' rfl rfl rfl rfl (by first | rfl | ((repeat (first | exact hg | rfl | refine Bool.and_eq_true_iff.2 ⟨?_,?_⟩));done) | simp_all [strip,constAV])) (ih (f.kids.getD 1 default) (getD_memB (by omega)))) ?_;refine Z7 ?_;refine r1 8 (H) ?_;exact⟨retB (by rw[holdH_seven h3 hk];simp),rfl⟩
    ·have hlf:=h.ops.2.2 h0 h1 h2 h3;obtain⟨hav,hpr,hcl⟩:=h.leaf hlf;have hl2:f.op=2\/f.op=3\/f.op=4:=by simp only[leafP,Bool.and_eq_true,decide_eq_true_eq] at hlf;omega
     have hva:=h.a _ (getD_memB (l:=args) (k:=f.arg.toNat) (by omega));have hrv:=at_value h.o f.path _ hva hpr;have hat:PCall Tryz.prog 220 [AV.world W,AV.ths objs,AV.mv (args.getD f.arg.toNat default),AV.ints f.path] _:=rAtH h.o hva hpr;have hev:=holdH_leaf (W:=W) (objs:=objs) (args:=args) h0 h1 h2 h3;generalize hr:atH W objs (args.getD f.arg.toNat default) f.path=r at hev hrv hat;refine Z4 ?_;refine CW.dp mixed ?_;refine DP.anyAC (λsj b=>match sj with | 0=>.blk b 50 [.i 0,.i 0]::H | _=>.blk b 50 [AV.i r.1.1,AV.i r.1.2]::H) 9 [13,14] 1 0 15 121 rfl (by decide+kernel) rfl rfl rfl rfl (by decide+kernel) ?_;refine TD.popA (by decide+kernel) rfl rfl rfl rfl (λ_=>(by first | exact POp.ldA rfl rfl rfl rfl | (apply POp.ldAH rfl rfl rfl;(case hm=>repeat (first | exact .head _ | refine .tail _ ?_));(case hy=>rfl);(case hn=>rfl)))) ?_;refine TD.popA (by decide+kernel) rfl rfl rfl rfl (λ_=>POp.move rfl rfl rfl) ?_;refine TD.popA (by decide+kernel) rfl rfl rfl rfl (λ_=>POp.move rfl rfl rfl) ?_;refine TD.popA (by decide+kernel) rfl rfl rfl rfl (λ_=>(by first | exact POp.fa rfl rfl rfl rfl | exact POp.faP rfl rfl rfl rfl)) ?_;refine TD.popA (by decide+kernel) rfl rfl rfl rfl (λ_=>(by first | exact POp.ld1 rfl rfl rfl rfl | (apply POp.ld1H rfl rfl rfl;(case hm=>repeat (first | exact .head _ | refine .tail _ ?_));(case hy=>rfl)))) ?_;refine TD.popA (by decide+kernel) rfl rfl rfl rfl (λ_=>(by first | exact POp.ixM rfl rfl rfl rfl rfl (by omega) | exact POp.ixI rfl rfl rfl rfl rfl (by omega))) ?_;refine TD.popA (by decide+kernel) rfl rfl rfl rfl (λ_=>(by first | exact POp.ldA rfl rfl rfl rfl | (apply POp.ldAH rfl rfl rfl;(case hm=>repeat (first | exact .head _ | refine .tail _ ?_));(case hy=>rfl);(case hn=>rfl)))) ?_;refine TD.popA (by decide+kernel) rfl rfl rfl rfl (λ_=>(by first | exact POp.fa rfl rfl rfl rfl | exact POp.faP rfl rfl rfl rfl)) ?_;refine TD.popA (by decide+kernel) rfl rfl rfl rfl (λ_=>(by first | exact POp.ld1 rfl rfl rfl rfl | (apply POp.ld1H rfl rfl rfl;(case hm=>repeat (first | exact .head _ | refine .tail _ ?_));(case hy=>rfl)))) ?_;refine TD.popA (by decide+kernel) rfl rfl rfl rfl (λ_=>POp.call .k (hat)) ?_;refine TD.popA (by decide+kernel) rfl rfl rfl rfl (λ_=>POp.move rfl rfl rfl) ?_;refine TD.popA (by decide+kernel) rfl rfl rfl rfl (λ_=>POp.extract rfl rfl rfl rfl) ?_;refine TD.popA (by decide+kernel) rfl rfl rfl rfl (λ_=>POp.extract rfl rfl rfl rfl) ?_;refine TD.effA (by decide+kernel) (by decide+kernel) rfl rfl rfl rfl (λ_=>rfl) ?_;refine TD.stoA 0 (by decide+kernel) (by decide+kernel) (by decide+kernel) rfl rfl (λb=>.store rfl rfl rfl rfl rfl rfl rfl rfl (by repeat (first | exact Upd.head _ _ _ | apply Upd.tail)) (by exact rfl) (by exact rfl)) ?_;refine TD.nil (λvb=>?_);refine Z6 ?_;refine CW.freezeP (d:=9) rfl (by repeat (first | exact Del.head _ _ | apply Del.tail)) ?_;refine Z12 ?_;refine CW.cond rfl (λh4=>?_) (λh4=>?_)
     ·replace h4:=nm h4;have h4:f.op=2:=by simpa using h4
      have hcl:=hcl h4;have hkd:r.2=true->classP W (if r.1.1=1 then 1 else if r.1.1=2 then 2 else clsH objs r.1)=true:=λhb=>by
       have hrv:=hrv hb;rcases value_kind hrv with e | e | e
       ·rw[if_pos e,classP,Bool.and_eq_true,decide_eq_true_eq,decide_eq_true_eq];omega
       ·rw[if_neg (by omega),if_pos e,classP,Bool.and_eq_true,decide_eq_true_eq,decide_eq_true_eq];omega
       ·have:=cls_h h.o hrv e;rw[if_neg (by omega),if_neg (by omega),classP,Bool.and_eq_true,decide_eq_true_eq,decide_eq_true_eq];omega
      refine Z1 ?_;refine CW.dp mixed ?_;refine Z8 ?_;refine DP.anyC 2 8 121 rfl (by decide+kernel) rfl rfl (by decide+kernel) ?_;refine Z3 ?_;refine AD.guardC rfl rfl rfl rfl rfl (λhg=>POp.call (.mk' rfl rfl rfl rfl (by first | rfl | ((repeat (first | exact hg | rfl | refine Bool.and_eq_true_iff.2 ⟨?_,?_⟩));done) | simp_all [strip,constAV])) (rClassOf h.o (hrv hg))) ?_;refine Z4 ?_;refine OL.guardC rfl rfl rfl rfl rfl rfl (λhg=>POp.call (.mk' rfl rfl rfl rfl (by first | rfl | ((repeat (first | exact hg | rfl | refine Bool.and_eq_true_iff.2 ⟨?_,?_⟩));done) | simp_all [strip,constAV])) (p52 h.o.w (hkd hg) hcl)) ?_;refine Z7 ?_;refine r1 8 (H) ?_;exact⟨retB (by rw[hev,leafH,if_pos h4];cases r.2 <;> rfl),rfl⟩
     ·have h4: ¬f.op=2:=by simpa using h4
      refine Z6 ?_;refine cd (λh5=>?_) λh5=>?_
      ·refine Z21 ?_;refine r1 8 (H) ?_;exact⟨retB (by have h5:f.op=3:=(by simpa using h5);rw[hev,leafH,if_neg h4,if_pos h5];cases r.2 <;> cases (r.1.1==1) <;> rfl),rfl⟩
      ·refine Z22 ?_;refine r1 8 (H) ?_;exact⟨retB (by have h5: ¬f.op=3:=(by simpa using h5);rw[hev,leafH,if_neg h4,if_neg h5];cases r.2 <;> cases (r.1.1==1) <;> rfl),rfl⟩
theorem rHolds:∀f:Fact,HOk W objs args f->PCall Tryz.prog 139 [AV.world W,AV.fact f,AV.ths objs,AV.mvs args] (.b (holdH W objs args f)):=Fact.ind1 λf ih h=>rHolds_step h λk hk=>ih k hk (h.kid k hk)
theorem call_bif:(bif bif bif bif ((c.args.length:Int)==a) then objsR W c.objs else false then c.args.all (valueP c.objs.length) else false then objsR W c.after else false then valueP c.after.length c.val else false)=callT W a c:=by
 simp only[Bool.cond_false_right];rfl
theorem rCall(hp:p.Small)(hz:(sizesP p).isSome=true){n:Int}(hn:isGen p n=true)(c:Vc):PCall Tryz.prog 73 [AV.prog p,.i n,AV.vcall c] (.b (callT (wOf p) (argsG p n) c)):=by
 intro H;refine aC (n:=47) Tryz.func73 λB I w0=>?_;have hw:worldP (worldOf p)=true:=(heads_of hz).world;have hgn:=gen_in2 hn;rw[wOf_yes hz];refine Z10 ?_;refine oP (POp.call .k (world_of hp hz)) ?_;refine OL.alC rfl rfl rfl rfl (λwb=>?_);refine Z4 ?_;refine CW.freezeP (d:=7) rfl (by repeat (first | exact Del.head _ _ | apply Del.tail)) ?_;refine CW.dp mixed ?_;refine DP.anyC 0 8 47 rfl (by decide+kernel) rfl rfl (by decide+kernel) ?_;refine Z6 ?_;refine AD.popC rfl rfl rfl ((by first | exact POp.ixM rfl rfl rfl rfl rfl ⟨by omega,by omega⟩ | exact POp.ixI rfl rfl rfl rfl rfl ⟨by omega,by omega⟩)) ?_;refine Z10 ?_;refine DP.anyC 10 13 47 rfl (by decide+kernel) rfl rfl (by decide+kernel) ?_;refine Z5 ?_;refine OL.guardC rfl rfl rfl rfl rfl rfl (λhg=>POp.call (.mk' rfl rfl rfl rfl (by first | rfl | ((repeat (first | exact hg | rfl | refine Bool.and_eq_true_iff.2 ⟨?_,?_⟩));done) | simp_all [strip,constAV])) (rObjs hw c.objs)) ?_;refine Z10 ?_;refine DP.anyC 16 21 47 rfl (by decide+kernel) rfl rfl (by decide+kernel) ?_;refine Z7 ?_;refine OL.guardC rfl rfl rfl rfl rfl rfl (λhg=>POp.call (.mk' rfl rfl rfl rfl (by first | rfl | ((repeat (first | exact hg | rfl | refine Bool.and_eq_true_iff.2 ⟨?_,?_⟩));done) | simp_all [strip,constAV])) (rVals c.args c.objs.length)) ?_;refine Z10 ?_;refine DP.anyC 24 27 47 rfl (by decide+kernel) rfl rfl (by decide+kernel) ?_;refine Z5 ?_;refine OL.guardC rfl rfl rfl rfl rfl rfl (λhg=>POp.call (.mk' rfl rfl rfl rfl (by first | rfl | ((repeat (first | exact hg | rfl | refine Bool.and_eq_true_iff.2 ⟨?_,?_⟩));done) | simp_all [strip,constAV])) (rObjs hw c.after)) ?_;refine Z10 ?_;refine DP.anyC 30 35 47 rfl (by decide+kernel) rfl rfl (by decide+kernel) ?_;refine Z7 ?_;refine OL.guardC rfl rfl rfl rfl rfl rfl (λhg=>POp.call (.mk' rfl rfl rfl rfl (by first | rfl | ((repeat (first | exact hg | rfl | refine Bool.and_eq_true_iff.2 ⟨?_,?_⟩));done) | simp_all [strip,constAV])) (rVal c.val c.after.length)) ?_;refine Z5 ?_;refine r1 6 (H) ?_;exact⟨retB call_bif,rfl⟩
theorem gens_args(hw:worldP W=true)(hc:callT W a c=true)(ha:1<=a/\a<=3)(hf:goodF W f a=true):HOk W c.objs c.args f:=takes_ok hw (takes_of hc ha hf)
theorem gens_after(hw:worldP W=true)(hc:callT W a c=true)(ha:1<=a/\a<=3)(hf:goodF W f 1=true):HOk W c.after [c.val] f:=takes_ok hw (takes_after hc ha hf)
theorem rJudgeOf(hp:p.Small)(hz:(sizesP p).isSome=true){v:Vw}{c:Vc}{a:Int}(ha:1<=a/\a<=3)(hv:vowT (wOf p) v a=true)(hc:callT (wOf p) a c=true):PCall Tryz.prog 74 [AV.prog p,AV.vow v,AV.vcall c] (AV.bl (judgeT (wOf p) v c)):=by
 intro H;refine aC (n:=54) Tryz.func74 λB I w0=>?_;have hw:worldP (worldOf p)=true:=(heads_of hz).world;rw[wOf_yes hz] at hv hc ⊢;simp only[vowT,Bool.and_eq_true,decide_eq_true_eq,List.all_eq_true] at hv;obtain⟨⟨hv3,hvb⟩,hvc⟩:=hv;refine Z5 ?_;refine OL.alC rfl rfl rfl rfl (λrb=>?_);refine Z5 ?_;refine oP (POp.call .k (world_of hp hz)) ?_;refine OL.alC rfl rfl rfl rfl (λwb=>?_);refine Z5 ?_;refine CW.freezeP (d:=7) rfl (by repeat (first | exact Del.head _ _ | apply Del.tail)) ?_;refine Z8 ?_;refine oP (POp.call .k (rHolds v.before (gens_args hw hc ha hvb))) ?_;refine Z3 ?_;refine CW.cond rfl (λh0=>?_) (λh0=>?_)
 ·have h0:holdH (worldOf p) c.objs c.args v.before=false:=by simpa using h0
  rw[judgeT,if_neg (by rw[h0];simp)];refine Z8 ?_;refine rR [.cell 6 55] (H) ?_;exact⟨by rfl,rfl⟩
 ·have h0:holdH (worldOf p) c.objs c.args v.before=true:=by simpa using h0
  rw[judgeT,if_pos h0];refine Z12 ?_;refine CW.boundM (t:=23) rfl (λhb23=>?_);refine lj (λm st=>∃i:Nat,st=⟨[(25,.i i),(24,.i v.cases.length),(23,AV.vcs v.cases),(7,.ptr (Wcells (worldOf p))),(6,.p rb 0),(5,.ptr (callA c))],.blk rb 55 [.i 0,.i 0]::H⟩/\m=v.cases.length - i/\i<=v.cases.length/\judgeL (worldOf p) c (v.cases.drop i) i=judgeL (worldOf p) c v.cases 0) (⟨0,rfl,rfl,by omega,rfl⟩) ?_;rintro m _ ⟨i,rfl,rfl,hi,hst⟩;refine Z6 ?_;refine cd (λh1=>?_) λh1=>?_
  ·have hil:i<v.cases.length:=by omega
   obtain⟨x,hx⟩:∃x,x=v.cases.getD i default:=⟨_,rfl⟩;rw[judgeL_step hil, <-hx] at hst;have hxc:=hvc x (hx▸getD_memB hil);simp only[caseT,Bool.and_eq_true] at hxc;refine Z9 ?_;refine OL.alC rfl rfl rfl rfl (λcb=>?_);refine Z5 ?_;rw[<-hx];refine CW.freezeP (d:=9) rfl (by repeat (first | exact Del.head _ _ | apply Del.tail)) ?_;refine Z8 ?_;refine oP (POp.call .k (rHolds x.whn (gens_args hw hc ha hxc.1))) ?_;refine Z8 ?_;refine OL.guardC (x:=AV.mvs [c.val]) rfl rfl rfl rfl rfl rfl (λhg=>POp.row rfl rfl (by first | rfl | simp_all [strip]) rfl rfl rfl rfl rfl rfl) ?_;refine OL.guardC rfl rfl rfl rfl rfl rfl (λhg=>POp.call (.mk' rfl rfl rfl rfl (by first | rfl | ((repeat (first | exact hg | rfl | refine Bool.and_eq_true_iff.2 ⟨?_,?_⟩));done) | simp_all [strip,constAV])) (rHolds x.thn (gens_after hw hc ha hxc.2))) ?_;refine Z4 ?_;rw[Bool.cond_false_right];refine CW.cond rfl (λh2=>?_) (λh2=>?_)
   ·rw[if_pos h2] at hst;refine Z13 ?_;refine rR [.cell 6 55] (H) ?_;exact⟨by rw[<-hst];rfl,rfl⟩
   ·rw[if_neg (by rw[h2];simp)] at hst;refine Z7 ?_;exact ag (⟨i+1,rfl,rfl,hil,hst⟩)
  ·obtain rfl:i=v.cases.length:=by omega
   rw[List.drop_length,judgeL] at hst;refine Z12 ?_;refine rR [.cell 6 55] (H) ?_;exact⟨by rw[<-hst];rfl,rfl⟩
theorem rjudge_bif(S G C:Bool):(bif bif !S then true else !G then true else !C)= !(S && G && C):=by cases S <;> cases G <;> cases C <;> rfl
theorem rjudge_ok{v:Vw}(S:Bool)(hS:S=(sizesP p).isSome):(S && (isGen p v.of && vowT (worldOf p) v (argsG p v.of)) && callT (wOf p) (argsG p v.of) c)=judgeOk p v c:=by
 subst hS;unfold judgeOk;cases h:(sizesP p).isSome with
 | false=>rfl
 | true=>rw[wOf_yes h];simp[Bool.and_assoc]
theorem rJudge(hp:p.Small)(v:Vw)(c:Vc):PCall Tryz.prog 16 [AV.prog p,AV.vow v,AV.vcall c] (.tup [AV.bl (judgeR p v c),.i (if judgeOk p v c=true then 0 else 2)]):=by
 intro H;refine aC (n:=30) Tryz.func16 λB I w0=>?_;refine Z5 ?_;refine OL.alC rfl rfl rfl rfl (λrb=>?_);refine Z7 ?_;refine oP (POp.call .k (rProg hp)) ?_;refine Z4 ?_;refine OL.guardC rfl rfl rfl rfl rfl rfl (λhg=>POp.call (.mk' rfl rfl rfl rfl (by first | rfl | ((repeat (first | exact hg | rfl | refine Bool.and_eq_true_iff.2 ⟨?_,?_⟩));done) | simp_all [strip,constAV])) (rVow hp (by have h9:=hg;revert h9;cases (sizesP p).isSome <;> simp) v)) ?_;refine Z7 ?_;refine OL.guardC rfl rfl rfl rfl rfl rfl (λhg=>POp.call (.mk' rfl rfl rfl rfl (by first | rfl | ((repeat (first | exact hg | rfl | refine Bool.and_eq_true_iff.2 ⟨?_,?_⟩));done) | simp_all [strip,constAV])) (rCall hp (by have h9:=hg;revert h9;cases (sizesP p).isSome <;> simp) (by have h9:=hg;revert h9;cases (sizesP p).isSome <;> cases isGen p v.of <;> simp) c)) ?_;refine Z4 ?_;rw[rjudge_bif,rjudge_ok _ rfl];refine CW.cond rfl (λh0=>?_) (λh0=>?_)
 ·rw[Bool.not_eq_true'] at h0;rw[judgeR,h0];refine Z9 ?_;refine Done.retR (rs:=[.cell 6 55,.tmp 7]) (H':=H) rfl ((by first | exact .cellA inferInstance rfl (by repeat (first | exact .head _ | refine .tail _ ?_)) rfl rfl (.tmp rfl (.nil)) | exact .ptrA inferInstance rfl rfl (.tmp rfl (.nil)))) (AVleL.refl _) (by repeat (first | exact List.Sublist.refl _ | refine List.Sublist.cons _ ?_)) ?_;exact⟨by rfl,rfl⟩
 ·rw[Bool.not_eq_false'] at h0;have hok:=h0;simp only[judgeOk,Bool.and_eq_true] at h0;obtain⟨⟨⟨hz,hgn⟩,hvw⟩,hcl⟩:=h0;have ha:=gens_rng hz hgn;rw[judgeR,hok,if_pos rfl];refine Z7 ?_;refine oP (POp.call .k (rJudgeOf hp hz ha hvw hcl)) ?_;refine Z5 ?_;refine Done.retR (rs:=[.cell 6 55,.tmp 7]) (H':=H) rfl ((by first | exact .cellA inferInstance rfl (by repeat (first | exact .head _ | refine .tail _ ?_)) rfl rfl (.tmp rfl (.nil)) | exact .ptrA inferInstance rfl rfl (.tmp rfl (.nil)))) (AVleL.refl _) (by repeat (first | exact List.Sublist.refl _ | refine List.Sublist.cons _ ?_)) ?_;exact⟨by rfl,rfl⟩
instance:HasEq Tryz.prog 55 2:=⟨by kernel_rfl⟩
theorem vowJudgesC(hk:PCall Tryz.prog 14 [] (.b true)){p:Prog}(hp:p.Small)(v:Vw)(c:Vc):PCall Tryz.prog 4 [AV.prog p,AV.vow v,AV.vcall c] (.b true):=by
 intro H;refine aC (n:=36) Tryz.func4 λB I w0=>?_;refine Z13 ?_;refine oP (POp.call .k (judgeC hp v c)) ?_;refine Z3 ?_;refine OL.alC rfl rfl rfl rfl (λxb=>?_);refine Z5 ?_;refine CW.freezeP (d:=7) rfl (by repeat (first | exact Del.head _ _ | apply Del.tail)) ?_;refine Z4 ?_;refine oP (POp.call .k (rJudge hp v c)) ?_;refine Z3 ?_;refine OL.alC rfl rfl rfl rfl (λyb=>?_);refine Z5 ?_;refine CW.freezeP (d:=9) rfl (by repeat (first | exact Del.head _ _ | apply Del.tail)) ?_;refine Z7 ?_;refine OL.guardC rfl rfl rfl rfl rfl rfl (λhg=>POp.eqI [(judgeR p v c).1,(judgeR p v c).2] [(judgeR p v c).1,(judgeR p v c).2] rfl rfl rfl (gd hg) (gd hg) rfl rfl) ?_;refine Z2 ?_;refine OL.guardC rfl rfl rfl rfl rfl rfl (λhg=>POp.call .k (hk)) ?_;refine Z5 ?_;refine r1 6 (H) ?_;exact⟨retB (by simp),rfl⟩
end Go.Proofs.YtogjaoodkaahoaaGreat
