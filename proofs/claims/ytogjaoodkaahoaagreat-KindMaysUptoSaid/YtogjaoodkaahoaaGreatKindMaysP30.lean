/- Part 30 of the proof: contracts of functions of the program and what they need. No condition beyond those that each theorem names. -/
import Derived.Test.YtogjaoodkaahoaaGreatKindMaysP18
set_option maxHeartbeats 1000000
set_option maxRecDepth 100000
namespace Go.Proofs.YtogjaoodkaahoaaGreat
open Go.Ev Go.Eng
end Go.Proofs.YtogjaoodkaahoaaGreat

set_option linter.unusedVariables false
namespace Go.Eng.Bd
open Go.Eng.Fc
variable{p:Prog}{c:Int}
def initsL(p:Prog)(c:Int):List (Int×Int):=(linP (graphP p) c).reverse.flatMap λk=>if k>=3 then (p.classes.getD (k - 3).toNat default).inits else []
def lastOf(L:List (Int×Int))(s:Int):Option Int:=(L.reverse.find? λx=>x.1==s).map (·.2)
theorem lastOf_snoc(L:List (Int×Int))(x:Int×Int)(s:Int):lastOf (L++[x]) s=if x.1=s then some x.2 else lastOf L s:=by
 unfold lastOf;rw[List.reverse_append,List.reverse_singleton,List.singleton_append,List.find?_cons];by_cases h:x.1=s
 ·simp[h]
 ·rw[if_neg h,show (x.1==s)=false by simpa using h]
def beginP(p:Prog)(c:Int):List (Int×Int):=(hasP p c).filterMap λs=>(lastOf (initsL p c) s).map λn=>(s,n)
def slotP(p:Prog)(c s:Int):Int×Int:=match lastOf (initsL p c) s with | some n=>(1,n) | none=>(2,0)
structure MapLast(l:List (Int×AV))(L:List (Int×Int)):Prop where
 ok:IMapOk l
 get:∀s,getI l s=(lastOf L s).map AV.i
theorem MapLast.nil:MapLast [] []:=⟨IMapOk.nil,λs=>rfl⟩
theorem MapLast.put{l:List (Int×AV)}{L:List (Int×Int)}(h:MapLast l L){x:Int×Int}(hk:smallKey x.1):MapLast (putI l x.1 (.i x.2)) (L++[x]):=by
 refine⟨h.ok.put hk _,λs=>?_⟩;rw[getI_put,lastOf_snoc,h.get];by_cases e:x.1=s
 ·rw[if_pos e.symm,if_pos e];rfl
 ·rw[if_neg (λh=>e h.symm),if_neg e]
def initsC(p:Prog)(k:Int):List (Int×Int):=if k>=3 then (p.classes.getD (k - 3).toNat default).inits else []
theorem hasN_lenB{p:Prog}(h:∀c∈p.classes,c.slots.length<=1000):∀(n:Nat) (S out:List Int),(hasN p n S out).length<=out.length+1000*n
 | 0,S,out=>by rw[hasN];omega
 | n+1,S,out=>by
  rw[hasN];split
  ·have h1:=hasN_lenB h n (S++(p.classes.getD n default).parents) (out++(p.classes.getD n default).slots);rw[List.length_append] at h1;have:(p.classes.getD n default).slots.length<=1000:=by
    by_cases hn:n<p.classes.length
    ·exact h _ (getD_memB hn)
    ·rw[List.getD_eq_getElem?_getD,List.getElem?_eq_none (by omega)];exact Nat.zero_le _
   omega
  ·have:=hasN_lenB h n S out;omega
theorem initsC_at{k:Int}(h3:3<=k):initsC p k=(p.classes.getD (k - 3).toNat default).inits:=by rw[initsC,if_pos h3]
theorem inits1_mem(mine:List Int):∀(l:List (Int×Int)) (seen:List Int),inits1 mine l seen=true->∀x∈l,x.1∈mine
 | y::r,seen,h,x,hx=>by
  simp only[inits1,Bool.and_eq_true] at h;rcases List.mem_cons.1 hx with rfl | hx
  ·exact List.contains_iff_mem.1 h.1.1.1
  ·exact inits1_mem mine r _ h.2 x hx
structure ClsOk(p:Prog)(c:Int):Prop where
 c3:3<=c
 cl:c<3+p.classes.length
 c10:p.classes.length<=10
 sl:∀c∈p.classes,c.parents.length<=4000000/\c.slots.length<=1000
 pk:∀c∈p.classes,∀x∈c.parents,smallKey x
 fine:fineP (graphP p)=true
 ne:linP (graphP p) c≠ []
 len:(linP (graphP p) c).length<=1000
 in_:∀y∈linP (graphP p) c,0<=y/\y<3+p.classes.length
 ini:∀k∈p.classes,∀x∈k.inits,smallKey x.1
 has:∀s∈hasP p c,smallKey s
 hl:(hasP p c).length<=20000
theorem clsOk_of(h:ownC p c=true):ClsOk p c:=by
 obtain⟨⟨h3,hc⟩,hcl⟩:=own_parts h;obtain⟨h10,hs⟩:=classes_small hcl;have hcl2:=hcl;simp only[classesP,Bool.and_eq_true,decide_eq_true_eq] at hcl2;obtain⟨⟨⟨h10',hA⟩,hcn,hg⟩,hR⟩:=hcl2;have hgl:(graphP p).length=p.classes.length:=by simp[graphP]
 have hm:=slotsA_mem _ _ hA;have hk:∀(k s:Int),s∈hasP p k->smallKey s:=λk s h=>by
  obtain⟨c,h1,h2⟩:=hasP_mem h;have:=(hm c h1).2 _ h2;unfold smallKey;omega
 have hO:=ordT_ok hg (3+(graphP p).length) (Nat.le_refl _);have hOl:=ordT_len (g:=graphP p) (Nat.le_refl _);rw[ordT_all] at hO hOl;have hok:=List.all_eq_true.1 hR;have hcls:∀i,i<p.classes.length->clsOk p i=true:=λi hi=>hok i (List.mem_range.2 hi);have hlin:linP (graphP p) c=(ordersP (graphP p)).getD c.toNat []:=rfl;have hco:=hO c.toNat (by omega);refine⟨h3,hc,h10,hs,classes_keys hcl,hg,?_,?_,?_,?_,hk c,?_⟩
 ·have:=hcls (c - 3).toNat (by omega);rw[clsOk,Bool.and_eq_true,show (((c - 3).toNat:Nat):Int)+3=c by omega] at this;intro e;rw[e] at this;simp at this
 ·have:=hco.len;rw[hlin];omega
 ·intro y hy;rw[hlin] at hy;have:=hco.in_ y hy;omega
 ·intro k hk1 x hx;obtain⟨i,hi,rfl⟩:=List.mem_iff_getElem.1 hk1;have:=hcls i hi;rw[clsOk,Bool.and_eq_true] at this;have e:p.classes.getD i default=p.classes[i]:=by rw[List.getD_eq_getElem?_getD,List.getElem?_eq_getElem hi];rfl
  rw[e] at this;exact hk _ _ (inits1_mem _ _ _ this.2 x hx)
 ·have:=hasN_lenB (p:=p) (λc h=>(hs c h).2) (c - 2).toNat [c] [];unfold hasP sortI;rw[List.length_mergeSort];simp only[List.length_nil] at this;omega
def initsAt(p:Prog)(l:List Int)(is:List Nat):List (Int×Int):=is.flatMap λi=>initsC p (l.getD i default)
theorem range_rev(l:List Int):(List.range l.length).map (λi=>l.getD i default)=l:=by
 apply List.ext_getElem
 ·simp
 ·intro i h1 h2;rw[List.getElem_map,List.getElem_range,List.getD_eq_getElem?_getD,List.getElem?_eq_getElem (by simpa using h1)];rfl
theorem initsAt_all(p:Prog)(c:Int):initsAt p (linP (graphP p) c) (List.range (linP (graphP p) c).length).reverse=initsL p c:=by
 unfold initsAt initsL;show _=(linP (graphP p) c).reverse.flatMap (initsC p);rw[show (linP (graphP p) c).reverse=(List.range (linP (graphP p) c).length).reverse.map (λi=>(linP (graphP p) c).getD i default) by rw[List.map_reverse,range_rev],List.flatMap_map]
theorem initsAt_snoc(p:Prog)(l:List Int)(is:List Nat)(i:Nat):initsAt p l (is++[i])=initsAt p l is++initsC p (l.getD i default):=by
 rw[initsAt,List.flatMap_append];simp[initsAt]
theorem last_take{A:List (Int×Int)}{l:List (Int×Int)}{j:Nat}(h:j<l.length):A++l.take (j+1)=(A++l.take j)++[l.getD j default]:=by
 rw[List.append_assoc,take_getD h]
theorem begin_yes{k:Nat}(hk:k<(hasP p c).length)(h:(lastOf (initsL p c) ((hasP p c).getD k default)).isSome=true):((hasP p c).take (k+1)).filterMap (λs=>(lastOf (initsL p c) s).map λn=>(s,n))=((hasP p c).take k).filterMap (λs=>(lastOf (initsL p c) s).map λn=>(s,n))++[((hasP p c).getD k default,(lastOf (initsL p c) ((hasP p c).getD k default)).getD 0)]:=by
 rw[<-take_getD hk,List.filterMap_append];generalize (hasP p c).getD k default=s at*;obtain⟨n,hn⟩:=Option.isSome_iff_exists.1 h;simp[hn]
theorem begin_no{k:Nat}(hk:k<(hasP p c).length)(h:(lastOf (initsL p c) ((hasP p c).getD k default)).isSome=false):((hasP p c).take (k+1)).filterMap (λs=>(lastOf (initsL p c) s).map λn=>(s,n))=((hasP p c).take k).filterMap (λs=>(lastOf (initsL p c) s).map λn=>(s,n)):=by
 rw[<-take_getD hk,List.filterMap_append];generalize (hasP p c).getD k default=s at*;cases hn:lastOf (initsL p c) s with
 | none=>simp[hn]
 | some n=>rw[hn] at h;cases h
structure MapOf(f:Int->AV)(l:List (Int×AV))(n:Nat):Prop where
 ok:IMapOk l
 get:∀k,getI l k=if 3<=k/\k<3+n then some (f k) else none
theorem MapOf.nil(f:Int->AV):MapOf f [] 0:=⟨IMapOk.nil,λk=>by rw[if_neg (by omega)];rfl⟩
theorem MapOf.put{f:Int->AV}{l:List (Int×AV)}{n:Nat}(h:MapOf f l n)(hn:n<=1000):MapOf f (putI l ((n:Int)+3) (f ((n:Int)+3))) (n+1):=by
 refine⟨h.ok.put (by unfold smallKey;omega) _,λk=>?_⟩;rw[getI_put,h.get];by_cases e:k=(n:Int)+3
 ·rw[if_pos e,if_pos (by omega),e]
 ·rw[if_neg e];by_cases h2:3<=k/\k<3+n
  ·rw[if_pos h2,if_pos (by omega)]
  ·rw[if_neg h2,if_neg (by omega)]
theorem MapOf.look{f:Int->AV}{l:List (Int×AV)}{n:Nat}(h:MapOf f l n){k:Int}(hk:3<=k/\k<3+n)(z:AV):AVle ((getI l k).getD z) (f k):=by
 rw[h.get,if_pos hk];exact AVle.refl _
theorem begin_len(p:Prog)(c:Int):(beginP p c).length<=(hasP p c).length:=List.length_filterMap_le _ _
end Go.Eng.Bd

set_option linter.unusedSimpArgs false
set_option maxRecDepth 10000
namespace Go.Proofs.YtogjaoodkaahoaaGreat
open Go.Eng
open Go.Eng.Fc
open Go.Eng.Bd
theorem CWF.weaken{f:FuncId}{c:Ctx}{r:Option Nat}{P:Program}{st:St}{Q:Exit->Act->World->Prop}{p:Code}{st':St}(he:envLe st'.env st.env)(hH:st'.H.Sublist st.H)(h:CWF f c r P p st' Q):CWF f c r P p st Q:=
 λa w s=>h a w (s.weaken (envLe_get he) hH)
def backP(n k:Nat):List Nat:=((List.range n).drop k).reverse
theorem backP_nil(n:Nat):backP n n= []:=by rw[backP,List.drop_of_length_le (by simp)];rfl
theorem backP_step{n j:Nat}(h:j<n):backP n (j+1)++[j]=backP n j:=by
 have e:(List.range n).drop j=j::(List.range n).drop (j+1):=by
  rw[List.drop_eq_getElem_cons (by simpa using h)];simp
 rw[backP,backP,e,List.reverse_cons]
theorem backP_pre(n j:Nat):backP n j<+:(List.range n).reverse:=by
 refine⟨((List.range n).take j).reverse,?_⟩;rw[backP, <-List.reverse_append,List.take_append_drop]
instance:HasMapI Tryz.prog 330 (3,3):=⟨by kernel_rfl,by kernel_rfl⟩
instance:HasZ Tryz.prog 3 (.int .i64 0):=⟨by kernel_rfl⟩
theorem mvsB_snoc(l:List (Int×Int))(x:Int×Int):AV.mvs (l++[x])= .sl 2 (l.map initA++[initA x]):=by
 show AV.sl 2 (List.map _ (_++_))=_;rw[List.map_append];rfl
theorem last_le2{m:List (Int×AV)}{L:List (Int×Int)}(h:MapLast m L)(s:Int):AVle (.tup [(getI m s).getD (.val (.int .i64 0)),.b (getI m s).isSome]) (.tup [.i ((lastOf L s).getD 0),.b (lastOf L s).isSome]):=by
 rw[h.get];cases lastOf L s <;> exact AVle.refl _
theorem back1{B:Nat}{g:Fn}{fs cs:List AV}{l:List Int}(hl:l.length<=1000000){J:List Nat->List Ent->Prop}{Jp:AV->List Ent->Prop}(hcb:CbP B Tryz.prog (.fn g fs cs) (λi:Nat=>.i i) (λi=>.i (l.getD i default)) (List.range l.length).reverse false J Jp){H0 Hx:List Ent}(hJ:J [] H0):
  BCall B Tryz.prog 307 [.fn g fs cs,.ptr [AV.ints l]] (H0++Hx) (λ_ H'=>∃H1,H'=H1++Hx/\J (List.range l.length).reverse H1) (λ_ _=>False):=by
 refine BCall.of (n:=19) Tryz.func307 rfl (by kernel_rfl) rfl rfl (λI w0=>?_);refine Z9 ?_;refine lj (λm st=>∃(c:Int) (H1:List Ent),st=⟨[(3,.i c),(0,.fn g fs cs),(1,.ptr [AV.ints l])],H1++Hx⟩/\m=(c+1).toNat/\(-1<=c/\c<l.length)/\J (backP l.length (c+1).toNat) H1) (⟨(l.length:Int) - 1,H0,rfl,rfl,⟨by omega,by omega⟩,by rw[show ((l.length:Int) - 1+1).toNat=l.length by omega,backP_nil];exact hJ⟩) ?_;rintro m _ ⟨c,H1,rfl,rfl,hc,hJ1⟩;refine Z7 ?_;refine cd (λh0=>?_) λh0=>?_
 ·obtain⟨j,rfl⟩:∃j:Nat,c=j:=⟨c.toNat,by omega⟩;have hjl:j<l.length:=by omega
  rw[show ((j:Int)+1).toNat=j+1 by omega] at hJ1;refine Z12 ?_;refine OL.vcallC rfl rfl rfl rfl rfl rfl rfl rfl (AVleL.refl _) ((hcb (backP l.length (j+1)) j H1 Hx (by rw[backP_step hjl];exact backP_pre _ _) hJ1).mono (λ_ _ h=>h) (λ_ _ h=>by obtain⟨_,_,_,h,_⟩:=h;cases h)) ?_;rintro y _ ⟨H2,rfl,rfl,_,hJ2⟩;rw[backP_step hjl] at hJ2;refine Z3 ?_;refine CW.cond rfl (λh1=>?_) (λh1=>?_)
  ·simp at h1
  ·replace h1:=nm h1;refine Z8 ?_;exact ag (⟨(j:Int) - 1,H2,rfl,rfl,⟨by omega,by omega⟩,by rw[show ((j:Int) - 1+1).toNat=j by omega];exact hJ2⟩)
 ·obtain rfl:c= -1:=by omega
  refine Z4 ?_;refine Done.norR (rs:=[]) rfl (.nil) (AVleL.refl _) (by repeat (first | exact List.Sublist.refl _ | refine List.Sublist.cons _ ?_)) ?_;exact⟨H1,rfl,hJ1⟩
theorem backward(l:List Int):PCall Tryz.prog 256 [AV.ints l] (.fn (.func 307) [] [.ptr [AV.ints l]]):=by
 intro H;refine aC (n:=4) Tryz.func256 λB I w0=>?_;refine Z13 ?_;refine r1 2 (H) ?_;exact⟨by first | rfl | exact retI (by simp_all) | exact retB (by simp_all) | simp_all,rfl⟩
theorem back_seq(B:Nat)(l:List Int)(hl:l.length<=1000000):SeqP B Tryz.prog (.fn (.func 307) [] [.ptr [AV.ints l]]) (λi:Nat=>.i i) (λi=>.i (l.getD i default)) (List.range l.length).reverse false [] (λ_=>True):=by
 intro J Jp g fs cs hcon hcb H Hx hJ;refine VCall.fnB ((back1 hl hcb hJ).imp ?_ (λ_ _ h=>h.elim));rintro y H' ⟨H1,rfl,hJ1⟩;exact⟨rfl,H1,[],rfl,trivial,hJ1⟩
theorem clipB(els:List (List AV)):PCall Tryz.prog 257 [.sl 2 els] (.sl 2 els):=by
 intro H;refine aC (n:=9) Tryz.func257 λB I w0=>?_;refine Z12 ?_;refine oP (POp.slClip rfl rfl rfl rfl rfl rfl rfl) ?_;refine Z4 ?_;refine r1 2 (H) ?_;exact⟨by first | rfl | exact retI (by simp_all) | exact retB (by simp_all) | simp_all,rfl⟩
theorem beginC{p:Prog}(hp:p.Small){c:Int}(ho:ownC p c=true):PCall Tryz.prog 179 [AV.prog p,.i c] (.tup [AV.mvs (beginP p c),.i 0]):=by
 intro H;refine ACall.mkF (n:=81) Tryz.func179 rfl (by kernel_rfl) rfl rfl (λB I w0=>?_);obtain⟨h3,hcl,h10,hsl,hpk,hfine,hne,hlen,hin,hini,hhas,hhl⟩:=clsOk_of ho;have hgl:(graphP p).length=p.classes.length:=by simp[graphP]
 refine CWF.seq ?_;refine CW.atF ?_;refine Z5 ?_;refine CWF.done ?_;refine CWF.seq ?_;refine CWF.seq ?_;refine CW.atF ?_;refine Z3 ?_;refine oP (POp.call .k (ownB hp c)) ?_;refine Z2 ?_;refine CWF.done ?_;refine CW.atF ?_;refine CW.cond rfl (λh0=>?_) (λh0=>?_)
 ·simp[ho] at h0
 ·replace h0:=nm h0;refine Z1 ?_;refine CWF.done ?_;refine CWF.seq ?_;refine CW.atF ?_;refine Z2 ?_;refine oP (POp.call .k (graph p (by omega) (λc h=>(hsl c h).1))) ?_;refine Z1 ?_;refine oP (POp.call .k (linT hfine (c:=c) (by omega))) ?_;refine Z6 ?_;refine CWF.done ?_;refine CWF.seq ?_;refine CWF.seq ?_;refine CW.atF ?_;refine Z4 ?_;refine CWF.done ?_;refine CW.atF ?_;refine CW.cond rfl (λh1=>?_) (λh1=>?_)
  ·simp[hne] at h1
  ·replace h1:=nm h1;refine Z1 ?_;refine CWF.done ?_;refine CWF.seq ?_;refine CW.atF ?_;refine Z1 ?_;refine OL.mkMap rfl rfl rfl rfl (λmb=>?_);refine OL.alC rfl rfl rfl rfl (λtb=>?_);refine Z2 ?_;refine CWF.done ?_;refine CWF.seq ?_;refine CWF.seq ?_;refine CW.atF ?_;refine CW.freezeP (d:=8) rfl (by repeat (first | exact Del.head _ _ | apply Del.tail)) ?_;refine Z2 ?_;refine oP (POp.call .k (backward (linP (graphP p) c))) ?_;refine Z1 ?_;refine CWF.done ?_;refine CWF.block ?_;refine CWF.weaken (st':=⟨[(34,.fn (.func 307) [] [.ptr [AV.ints (linP (graphP p) c)]]),(8,.ptr [.val (.map (some mb))]),(2,.ptr (progC p)),(1,.i c)],[imapE mb []]++([]++H)⟩) (by repeat (first | exact trivial | refine⟨rfl,?_⟩)) (by repeat (first | exact List.Sublist.refl _ | refine List.Sublist.cons _ ?_)) ?_;refine CWF.rangeFuncP Tryz.func179 (λi:Nat=>.i i) (λi=>.i ((linP (graphP p) c).getD i default)) ((List.range (linP (graphP p) c).length).reverse) (false) (λpre H=>∃l,H= [imapE mb l]/\MapLast l (initsAt p (linP (graphP p) c) pre)) (λ_ _=>False) ([imapE mb []]) ([]) (H) (λ_=>True) (λx=>[(10,.i ((linP (graphP p) c).getD x default)),(8,.ptr [.val (.map (some mb))]),(2,.ptr (progC p))]) rfl rfl rfl rfl rfl (back_seq B (linP (graphP p) c) (by omega)) (⟨[],rfl,MapLast.nil⟩) (λ_ _ h=>h.elim) ?_ ?_ ?_ ?_
   ·intro l0 I1 w1 x Hy;refine Z3 ?_;exact λa w s=>⟨_,rfl,s.weaken (envLe_get (by repeat (first | exact trivial | refine⟨rfl,?_⟩))) (List.Sublist.refl _)⟩
   ·intro l0 D0 lp pre x H1 Hy I1 w1 hpre hJ;obtain⟨l,rfl,hM⟩:=hJ;have hxl:x<(linP (graphP p) c).length:=by have:=hpre.subset (show x∈pre++[x] by simp);simpa using this
    obtain⟨k,hk⟩:∃k,k=((linP (graphP p) c).getD x default):=⟨_,rfl⟩;have hkr:=hin k (hk▸getD_memB hxl);have hsn:=initsAt_snoc p (linP (graphP p) c) pre x;rw[<-hk] at hsn ⊢;refine Z7 ?_;refine cd (λh2=>?_) λh2=>?_
    ·have hil:(k - 3).toNat<p.classes.length:=by omega
     rw[initsC_at h2] at hsn;obtain⟨I,hI⟩:∃I,I=(p.classes.getD (k - 3).toNat default).inits:=⟨_,rfl⟩;have hik:∀x∈I,smallKey x.1:=λx hx=>hini _ (getD_memB hil) x (hI▸hx);rw[<-hI] at hsn;refine Z6 ?_;refine oP ((by first | exact POp.ixM rfl rfl rfl rfl rfl ⟨by omega,by omega⟩ | exact POp.ixI rfl rfl rfl rfl rfl ⟨by omega,by omega⟩)) ?_;refine Z7 ?_;rw[<-hI];refine CW.boundM (t:=45) rfl (λhb45=>?_);refine lj (λm st=>∃(j:Nat) (l2:List (Int×AV)),st=⟨[(47,.i j),(46,.i I.length),(45,AV.mvs I),(8,.ptr [.val (.map (some mb))])],(.loop l0 lp (envGet [(34,.fn (.func 307) [] [.ptr [AV.ints (linP (graphP p) c)]]),(8,.ptr [.val (.map (some mb))]),(2,.ptr (progC p)),(1,.i c)])::.obj D0 (.deferred (some []))::([imapE mb l2]++Hy))⟩/\m=I.length - j/\j<=I.length/\MapLast l2 (initsAt p (linP (graphP p) c) pre++I.take j)) (⟨0,l,rfl,rfl,by omega,by simpa using hM⟩) ?_;rintro m _ ⟨j,l2,rfl,rfl,hj,hM2⟩;refine Z6 ?_;refine cd (λh3=>?_) λh3=>?_
     ·have hjl:j<I.length:=by omega
      obtain⟨Y,hY⟩:∃Y,Y=I.getD j default:=⟨_,rfl⟩;have hYk:smallKey Y.1:=hik _ (hY▸getD_memB hjl);refine Z8 ?_;refine OL.alC rfl rfl rfl rfl (λib=>?_);refine Z3 ?_;rw[<-hY];refine CW.freezeP (d:=12) rfl (by repeat (first | exact Del.head _ _ | apply Del.tail)) ?_;refine Z6 ?_;refine OL.mapPut (u':=.i Y.2) rfl rfl (.inl rfl) rfl rfl rfl rfl rfl rfl (AVle.refl _) (.tail _ _ _ _ _ (.tail _ _ _ _ _ (.head _ _ _))) hM2.ok hYk ?_;refine Z7 ?_;exact ag (⟨j+1,_,rfl,rfl,hjl,by rw[last_take hjl, <-hY];exact hM2.put hYk⟩)
     ·obtain rfl:j=I.length:=by omega
      rw[List.take_length, <-hsn] at hM2;refine Z5 ?_;exact Done.roundNP (H:=[imapE mb l2]) (by repeat (first | exact List.Sublist.refl _ | refine List.Sublist.cons _ ?_)) (λ_=>rfl) (⟨l2,rfl,hM2⟩)
    ·refine Z2 ?_;exact Done.roundNP (H:=[imapE mb l]) (by repeat (first | exact List.Sublist.refl _ | refine List.Sublist.cons _ ?_)) (λ_=>rfl) (⟨l,rfl,by rw[hsn,initsC,if_neg (by omega),List.append_nil];exact hM⟩)
   ·intro D0 H1 Hs1 hfl hHn hJ;obtain⟨l,rfl,hM⟩:=hJ;rw[initsAt_all] at hM;refine Done.subH (H':=.obj D0 (.deferred (some []))::imapE mb l::H) (.cons_cons _ (.cons_cons _ (List.sublist_append_right _ _))) ?_;refine Z1 ?_;refine CWF.done ?_;refine CWF.seq ?_;refine CW.atF ?_;refine Z3 ?_;refine CWF.done ?_;refine CWF.seq ?_;refine CWF.seq ?_;refine CW.atF ?_;refine Z3 ?_;refine oP (POp.call .k (hasC p (by omega) (λc h=>(hsl c h).2) hpk (k:=c) (by unfold smallKey;omega) (by omega))) ?_;refine Z3 ?_;refine CWF.done ?_;refine CWF.block ?_;refine CW.atF ?_;refine CW.ownNil 13 215 2 rfl ?_;refine lj (λm st=>∃(k:Nat) (v:Value),st=⟨[(61,.i k),(60,.i (hasP p c).length),(59,AV.ints (hasP p c)),(13,.as (AV.mvs (((hasP p c).take k).filterMap (λs=>(lastOf (initsL p c) s).map λn=>(s,n)))) v),(8,.ptr [.val (.map (some mb))])],.own 215 2 v::.obj D0 (.deferred (some []))::imapE mb l::H⟩/\m=(hasP p c).length - k/\k<=(hasP p c).length) (⟨0,_,rfl,rfl,by omega⟩) ?_;rintro m _ ⟨k,v,rfl,rfl,hk⟩;refine Z6 ?_;refine cd (λh4=>?_) λh4=>?_
    ·have hkl:k<(hasP p c).length:=by omega
     have hyes:=begin_yes hkl;have hno:=begin_no hkl;have hsm:=hhas _ (getD_memB hkl);obtain⟨s,hs⟩:∃s,s=(hasP p c).getD k default:=⟨_,rfl⟩;rw[<-hs] at hyes hno hsm;refine Z12 ?_;rw[<-hs];refine Z3 ?_;refine oP (POp.le (POp.lookupI2 rfl rfl rfl rfl rfl (.tail _ (.tail _ (.head _))) hM.ok hsm) (last_le2 hM s)) ?_;refine Z12 ?_;refine CW.cond rfl (λh5=>?_) (λh5=>?_)
     ·refine Z5 ?_;refine OL.popC (x:=.sl 2 [[.i s,.i ((lastOf (initsL p c) s).getD 0)]]) rfl rfl rfl (POp.row rfl rfl (by first | rfl | simp_all [strip]) rfl rfl rfl rfl rfl rfl) ?_;refine OL.appendC rfl rfl rfl rfl rfl rfl rfl rfl (AVle.refl _) (rfl) (λv=>by repeat (first | exact Upd.head _ _ _ | apply Upd.tail)) (by simp only[List.length_map,List.length_singleton] at*;have h9:=List.length_filterMap_le (λs=>(lastOf (initsL p c) s).map λn=>(s,n)) ((hasP p c).take k);rw[List.length_take] at h9;omega) (by simp only[List.length_map,List.length_singleton] at*;have h9:=List.length_filterMap_le (λs=>(lastOf (initsL p c) s).map λn=>(s,n)) ((hasP p c).take k);rw[List.length_take] at h9;omega) (λv77=>?_);refine Z8 ?_;exact ag (⟨k+1,v77,by rw[hyes h5,mvsB_snoc],rfl,hkl⟩)
     ·refine Z7 ?_;exact ag (⟨k+1,v,by rw[hno h5],rfl,hkl⟩)
    ·obtain rfl:k=(hasP p c).length:=by omega
     rw[List.take_length];refine Z4 ?_;refine CWF.done ?_;refine CWF.seq ?_;refine CW.atF ?_;refine Z2 ?_;refine oP (POp.callLe .k (.cons (AVle.asL _ _) .nil) (clipB _)) ?_;refine Z3 ?_;refine CWF.done ?_;refine CW.atF ?_;refine Z1 ?_;refine Done.retM1 (rs:=[.tmp 4,.tmp 5]) (H':=H) rfl (by repeat (first | exact Del.head _ _ | apply Del.tail)) (.tmp rfl (.tmp rfl (.nil))) (AVleL.refl _) (by repeat (first | exact List.Sublist.refl _ | refine List.Sublist.cons _ ?_)) ?_;exact⟨by rfl,rfl⟩
   ·intro D0 y H1 Hs1 hfl hJp I1 v1 a1 w1 hs1 hv1;exact hJp.elim
end Go.Proofs.YtogjaoodkaahoaaGreat

namespace Go.Eng.Bd
open Go.Eng.Fc
variable{k n:Nat}{p:Prog}{l:List Int}{f:Fact}
theorem bvI(n:Nat)(h:n<9223372036854775808):(BitVec.ofInt IntKind.i64.bits (n:Int)).toNat=n:=by
 simp[IntKind.bits];omega
theorem i64_wrap(n:Nat)(h:n<9223372036854775808):IntKind.i64.wrap (n:Int)=n:=by
 simp only[IntKind.wrap,IntKind.bits,IntKind.signed];simp;omega
theorem ibit_or(s t:Nat)(hs:s<9223372036854775808)(ht:t<9223372036854775808):bitI .or .i64 (s:Int) (t:Int)=some ((s ||| t:Nat):Int):=by
 show some (IntKind.i64.wrap _)=_;rw[BitVec.toNat_or,bvI s hs,bvI t ht,i64_wrap _ (Nat.or_lt_two_pow (n:=63) hs ht)]
theorem ibit_and(s t:Nat)(hs:s<9223372036854775808)(ht:t<9223372036854775808):bitI .and .i64 (s:Int) (t:Int)=some ((s &&& t:Nat):Int):=by
 show some (IntKind.i64.wrap _)=_;rw[BitVec.toNat_and,bvI s hs,bvI t ht,i64_wrap _ (Nat.lt_of_le_of_lt Nat.and_le_left hs)]
theorem ish_right(s:Nat)(c:Int):shI .shr .i64 (s:Int) c=some ((s / 2^min c.toNat 64:Nat):Int):=by
 show some ((s:Int).fdiv (2^(min c.toNat 64)))=_;congr 1;have:((2:Int)^min c.toNat 64)=((2^min c.toNat 64:Nat):Int):=by simp
 rw[this];exact (Int.ofNat_fdiv _ _).symm
theorem ish_left(c:Int)(h:0<=c/\c<63):shI .shl .i64 1 c=some ((2^c.toNat:Nat):Int):=by
 show some (IntKind.i64.wrap _)=_;have e:min c.toNat IntKind.i64.bits=c.toNat:=Nat.min_eq_left (by simp[IntKind.bits];omega);have h2:(1:Int)*2^(min c.toNat IntKind.i64.bits)=((2^c.toNat:Nat):Int):=by rw[e];simp
 rw[h2,i64_wrap _ (Nat.pow_lt_pow_right (a:=2) (n:=63) (by omega) (by omega))]
theorem ihas_bit(s:Nat)(c:Int)(hs:s<9223372036854775808):((((s / 2^min c.toNat 64) &&& 1:Nat):Int)==1)=s.testBit c.toNat:=has_bit s c (by omega)
def bitsTo(k n:Nat):List Nat:=(List.range n).filter k.testBit
abbrev bitsK(k:Nat):List Nat:=bitsTo k 62
theorem bitsTo_step(k n:Nat):bitsTo k (n+1)=bitsTo k n++if k.testBit n then [n] else []:=by
 rw[bitsTo,List.range_succ,List.filter_append];cases h:k.testBit n <;> simp[h,bitsTo]
theorem bitsTo_add(k n:Nat):∀d,∃r,bitsTo k (n+d)=bitsTo k n++r
 | 0=>⟨[],by simp⟩
 | d+1=>by
  obtain⟨r,hr⟩:=bitsTo_add k n d;exact⟨_,by rw[<-Nat.add_assoc,bitsTo_step,hr,List.append_assoc]⟩
theorem bitsTo_pre(k:Nat){n:Nat}(h:n<=62):bitsTo k n<+:bitsK k:=by
 obtain⟨r,hr⟩:=bitsTo_add k n (62 - n);exact⟨r,by rw[<-hr,show n+(62 - n)=62 by omega]⟩
theorem bit_high{k n j:Nat}(h:k<2^n)(hj:n<=j):k.testBit j=false:=Nat.testBit_lt_two_pow (Nat.lt_of_lt_of_le h (Nat.pow_le_pow_right (by omega) hj))
theorem bitsTo_more{k n:Nat}(h:k<2^n):∀d,bitsTo k (n+d)=bitsTo k n
 | 0=>rfl
 | d+1=>by rw[<-Nat.add_assoc,bitsTo_step,bitsTo_more h d,bit_high h (by omega)];simp
theorem bitsTo_all(h:k<2^n)(hn:n<=62):bitsTo k n=bitsK k:=by
 have:=bitsTo_more h (62 - n);rw[show n+(62 - n)=62 by omega] at this;exact this.symm
theorem mem_bits{k c:Nat}:c∈bitsK k↔c<62/\k.testBit c=true:=by simp[bitsTo]
theorem mem_bits_lt{k n c:Nat}(h:k<2^n)(hc:c∈bitsK k):c<n:=by
 have:=(mem_bits.1 hc).2;apply Decidable.byContradiction;intro h2;rw[bit_high h (by omega)] at this;cases this
theorem any_range{m k:Nat}(h:k<2^m)(hm:m<=62)(q:Nat->Bool):((List.range m).any λc=>k.testBit c && q c)=(bitsK k).any q:=by
 rw[Bool.eq_iff_iff,List.any_eq_true,List.any_eq_true];constructor
 ·rintro⟨c,hc,h2⟩;rw[Bool.and_eq_true] at h2;exact⟨c,mem_bits.2 ⟨by have:=List.mem_range.1 hc;omega,h2.1⟩,h2.2⟩
 ·rintro⟨c,hc,h2⟩;exact⟨c,List.mem_range.2 (mem_bits_lt h hc),by rw[Bool.and_eq_true];exact⟨(mem_bits.1 hc).2,h2⟩⟩
def choicesK:List Int->List (List Int)
 | []=>[[]]
 | k::r=>(bitsK k.toNat).flatMap λ(c:Nat)=>(choicesK r).map λl=>(c:Int)::l
def getK(L:List (List Int))(i:Nat):Nat:=L.foldl (λa l=>a ||| 2^(l.getD i default).toNat) 0
def yesK(p:Prog)(t:Tbl)(f:Fact)(kinds:List Int):List (List Int):=(choicesK kinds).filter λl=>(outK p t l f).1
def getsK(L:List (List Int))(n:Nat):List Int:=(List.range n).map λi=>(getK L i:Int)
def mayN(p:Prog)(t:Tbl)(gen:Int)(kinds:List Int)(n:Nat):List (Int×List Int):=
 (List.range n).filterMap λm=>if(p.methods.getD m default).gen=gen/\yesK p t (p.methods.getD m default).fact kinds≠ [] then some ((m:Int),getsK (yesK p t (p.methods.getD m default).fact kinds) kinds.length) else none
def mayP(p:Prog)(t:Tbl)(gen:Int)(kinds:List Int):List (Int×List Int):=mayN p t gen kinds p.methods.length
theorem many_le(hz:(sizesP p).isSome=true):manyC p<=13:=by
 obtain⟨o,ho⟩:=Option.isSome_iff_exists.1 hz;have:=(Heads.of (sizes_parts ho).1).cl;unfold manyC;omega
theorem pow_many(hz:(sizesP p).isSome=true):2^manyC p<=8192:=show 2^manyC p<=2^13 from Nat.pow_le_pow_right (by decide) (many_le hz)
def andO(x y:Bool×Bool):Bool×Bool:=(x.1 && y.1,x.1 && y.2 || x.2 && y.1 || x.2 && y.2)
def orO(x y:Bool×Bool):Bool×Bool:=(x.1 && y.1 || x.1 && y.2 || x.2 && y.1,x.2 && y.2)
theorem or_swap(x y:Bool×Bool):(andO x.swap y.swap).swap=orO x y:=by
 obtain⟨a,b⟩:=x;obtain⟨c,d⟩:=y;cases a <;> cases b <;> cases c <;> cases d <;> rfl
structure FOk(p:Prog)(l:List Int)(f:Fact):Prop where
 wf:wfB (worldOf p) f=true
 sp:speaksP f<=l.length
theorem FOk.kid(h:FOk p l f):∀k∈f.kids,FOk p l k:=λk hk=>
 ⟨(wfB_iff.1 h.wf).2 k hk,((speaksL_le _ _ _).1 (speaksP_eq f▸h.sp)).2 k hk⟩
theorem FOk.leaf(h:FOk p l f)(hl:leafP f=true):(0<=f.arg/\f.arg<l.length)/\(∀s∈f.path,0<=s/\s<(worldOf p).owner.length)/\f.path.length<=2/\(f.op=2->0<=f.cls/\f.cls<manyC p):=by
 have h1:=(wfB_iff.1 h.wf).1;simp only[nodeOkB,Bool.and_eq_true] at h1;have h2:=h1.2;rw[hl,if_pos rfl,Bool.and_eq_true] at h2;have h3:=h2.1;simp only[argP,pathP,Bool.not_eq_true',Bool.or_eq_false_iff,Bool.not_eq_false',Bool.and_eq_true,decide_eq_false_iff_not,decide_eq_true_eq] at h3;have h4:=((speaksL_le _ _ _).1 (speaksP_eq f▸h.sp)).1;simp only[leafP,Bool.and_eq_true,decide_eq_true_eq] at hl;rw[argB,if_pos (by omega)] at h4;refine⟨⟨by omega,by omega⟩,λs hs=>?_,h3.2.1,λho=>?_⟩
 ·have:=List.all_eq_true.1 h3.2.2 s hs;simpa only[Fc.slotP,Bool.and_eq_true,decide_eq_true_eq] using this
 ·have h5:=h2.2;rw[leafOkP,if_pos ho,Bool.and_eq_true] at h5;have h6:=h5.2;simp only[classP,Bool.and_eq_true,decide_eq_true_eq] at h6;rw[world_pl] at h6;exact⟨h6.1,by unfold manyC;omega⟩
theorem FOk.ops(h:FOk p l f):(f.op=5->f.kids.length=1)/\(f.op=6\/f.op=7->f.kids.length=2)/\(f.op≠1->f.op≠5->f.op≠6->f.op≠7->leafP f=true):=by
 have h1:=(wfB_iff.1 h.wf).1;simp only[nodeOkB,Bool.and_eq_true,decide_eq_true_eq,beq_iff_eq] at h1;obtain⟨⟨⟨h2,h3⟩,h4⟩,_⟩:=h1;refine⟨λh=>?_,λh=>?_,λa b c d=>?_⟩
 ·rw[h] at h4;simp[kidsP] at h4;omega
 ·rcases h with h | h <;> rw[h] at h4 <;> simp[kidsP] at h4 <;> omega
 ·simp only[leafP,Bool.and_eq_true,decide_eq_true_eq];omega
section
variable{p:Prog}{t:Tbl}{l:List Int}{f:Fact}
theorem outKs_at{i:Nat}{r:List Fact}(h:i<r.length):(outKs p t l r).getD i default=outK p t l (r.getD i default):=by
 rw[outKs_map,List.getD_eq_getElem?_getD,List.getElem?_map,List.getD_eq_getElem?_getD,List.getElem?_eq_getElem h];rfl
theorem outK_one(h:f.op=1):outK p t l f=(true,false):=by
 obtain⟨op,arg,path,cls,n,kids⟩:=f;change op=1 at h;subst h;rw[outK,if_pos rfl]
theorem outK_five(h:f.op=5)(hk:f.kids.length=1):outK p t l f=(outK p t l (f.kids.getD 0 default)).swap:=by
 obtain⟨op,arg,path,cls,n,kids⟩:=f;change op=5 at h;change kids.length=1 at hk;subst h;rw[outK,if_neg (by decide),if_pos rfl,outKs_at (by omega)];rfl
theorem outK_six(h:f.op=6)(hk:f.kids.length=2):outK p t l f=andO (outK p t l (f.kids.getD 0 default)) (outK p t l (f.kids.getD 1 default)):=by
 obtain⟨op,arg,path,cls,n,kids⟩:=f;change op=6 at h;change kids.length=2 at hk;subst h;rw[outK,if_neg (by decide),if_neg (by decide),if_pos rfl,outKs_at (by omega),outKs_at (by omega)];rfl
theorem outK_seven(h:f.op=7)(hk:f.kids.length=2):outK p t l f=orO (outK p t l (f.kids.getD 0 default)) (outK p t l (f.kids.getD 1 default)):=by
 obtain⟨op,arg,path,cls,n,kids⟩:=f;change op=7 at h;change kids.length=2 at hk;subst h;rw[outK,if_neg (by decide),if_neg (by decide),if_neg (by decide),if_pos rfl,outKs_at (by omega),outKs_at (by omega)];rfl
theorem outK_leaf(h1:f.op≠1)(h5:f.op≠5)(h6:f.op≠6)(h7:f.op≠7):outK p t l f=(let k:=standK p t (l.getD f.arg.toNat default) f.path
   if f.op=2 then ((List.range (manyC p)).any (λc=>k.1.testBit c && belowP (worldOf p) c f.cls),k.2 || (List.range (manyC p)).any λc=>k.1.testBit c && !belowP (worldOf p) c f.cls) else (k.1.testBit 1,k.2 || decide (k.1≠0))):=by
 obtain⟨op,arg,path,cls,n,kids⟩:=f;change op≠1 at h1;change op≠5 at h5;change op≠6 at h6;change op≠7 at h7;rw[outK,if_neg h1,if_neg h5,if_neg h6,if_neg h7];rfl
def SlotsOk(p:Prog)(t:Tbl):Prop:=∀s∈t.slots,kindB (manyC p) s=true
theorem kindB_nat{m:Nat}{k:Int}(h:kindB m k=true):k=(k.toNat:Int)/\k.toNat<2^m/\k.toNat.testBit 0=false:=by
 simp only[kindB,Bool.and_eq_true,decide_eq_true_eq] at h;have h1:k=(k.toNat:Int):=by omega
 refine⟨h1,?_,?_⟩
 ·have:=h.2;rw[h1] at this
  exact_mod_cast this
 ·rw[Nat.testBit_zero];simp;omega
theorem slot_kind(h:SlotsOk p t)(i:Nat):t.slots.getD i default=((t.slots.getD i default).toNat:Int)/\(t.slots.getD i default).toNat<2^manyC p/\(t.slots.getD i default).toNat.testBit 0=false:=by
 by_cases hi:i<t.slots.length
 ·exact kindB_nat (h _ (getD_memB hi))
 ·rw[List.getD_eq_getElem?_getD,List.getElem?_eq_none (by omega)];exact⟨rfl,Nat.pow_pos (by decide),rfl⟩
theorem step_lt(h:SlotsOk p t)(s:Int)(k:Nat×Bool):(stepK p t s k).1<2^manyC p:=by
 unfold stepK;split
 ·exact (slot_kind h _).2.1
 ·exact Nat.pow_pos (by decide)
theorem stand_snoc(c:Int)(path:List Int)(s:Int):standK p t c (path++[s])=stepK p t s (standK p t c path):=by
 rw[standK,List.foldl_append];rfl
theorem stand_lt(h:SlotsOk p t){c:Int}(hc:c.toNat<manyC p):∀path:List Int,(standK p t c path).1<2^manyC p:=λpath=>by
 rcases List.eq_nil_or_concat path with rfl | ⟨q,s,rfl⟩
 ·exact Nat.pow_lt_pow_right (by decide) hc
 ·rw[List.concat_eq_append,stand_snoc];exact step_lt h s _
theorem step_bits{k:Nat×Bool}(h:k.1<2^manyC p)(hm:manyC p<=62)(s:Int):stepK p t s k=(if(bitsK k.1).any (λc=>hasCl p c s) then (t.slots.getD s.toNat default).toNat else 0,k.2 || (bitsK k.1).any λc=>!hasCl p c s):=by
 unfold stepK;rw[any_range h hm,any_range h hm]
end
end Go.Eng.Bd

namespace Go.Proofs.YtogjaoodkaahoaaGreat
open Go.Eng
open Go.Eng.Fc
open Go.Eng.Bd
variable{x k c:Nat}{p:Prog}{b:Bool}{U pre:List Nat}{W:Fc.FW}{t:Tbl}{l:List Int}
def ocI(x:Bool×Bool):Int:=(if x.1 then 1 else 0)+(if x.2 then 2 else 0)
abbrev AV.oc(x:Bool×Bool):AV:=.val (.int .u8 (ocI x))
theorem oc_and1(x:Bool×Bool):bitI .and .u8 (ocI x) 1=some (if x.1 then 1 else 0):=by
 obtain⟨a,b⟩:=x;cases a <;> cases b <;> rfl
theorem oc_and2(x:Bool×Bool):bitI .and .u8 (ocI x) 2=some (if x.2 then 2 else 0):=by
 obtain⟨a,b⟩:=x;cases a <;> cases b <;> rfl
theorem oc_or(x y:Bool×Bool):bitI .or .u8 (ocI x) (ocI y)=some (ocI (x.1 || y.1,x.2 || y.2)):=by
 obtain⟨a,b⟩:=x;obtain⟨c,d⟩:=y;cases a <;> cases b <;> cases c <;> cases d <;> rfl
theorem retO{x y:Bool×Bool}(h:x=y):tupOf [AV.oc x]=AV.oc y:=by subst h;rfl
theorem ofK(a b:Bool):PCall Tryz.prog 141 [.b a,.b b] (AV.oc (a,b)):=by
 intro H;refine aC (n:=13) Tryz.func141 λB I w0=>?_;refine Z16 ?_;refine cd (λh0=>?_) λh0=>?_
 ·refine Z2 ?_;refine oP (POp.bits rfl rfl rfl rfl rfl rfl) ?_;refine Z9 ?_;refine cd (λh1=>?_) λh1=>?_
  ·refine Z2 ?_;refine oP (POp.bits rfl rfl rfl rfl rfl rfl) ?_;refine Z10 ?_;refine r1 4 (H) ?_;exact⟨by subst h0 h1;rfl,rfl⟩
  ·refine Z9 ?_;refine r1 4 (H) ?_;exact⟨by subst h0 h1;rfl,rfl⟩
 ·refine Z8 ?_;refine cd (λh2=>?_) λh2=>?_
  ·refine Z2 ?_;refine oP (POp.bits rfl rfl rfl rfl rfl rfl) ?_;refine Z10 ?_;refine r1 4 (H) ?_;exact⟨by subst h0 h2;rfl,rfl⟩
  ·refine Z9 ?_;refine r1 4 (H) ?_;exact⟨by subst h0 h2;rfl,rfl⟩
theorem yesO(x:Bool×Bool):PCall Tryz.prog 81 [AV.oc x] (.b x.1):=by
 intro H;refine aC (n:=6) Tryz.func81 λB I w0=>?_;refine Z8 ?_;refine oP (POp.bits rfl rfl rfl rfl rfl (oc_and1 x)) ?_;refine Z5 ?_;refine r1 2 (H) ?_;exact⟨retB (by cases x.1 <;> rfl),rfl⟩
theorem noO(x:Bool×Bool):PCall Tryz.prog 82 [AV.oc x] (.b x.2):=by
 intro H;refine aC (n:=6) Tryz.func82 λB I w0=>?_;refine Z8 ?_;refine oP (POp.bits rfl rfl rfl rfl rfl (oc_and2 x)) ?_;refine Z5 ?_;refine r1 2 (H) ?_;exact⟨retB (by cases x.2 <;> rfl),rfl⟩
theorem notO(x:Bool×Bool):PCall Tryz.prog 142 [AV.oc x] (AV.oc x.swap):=by
 intro H;refine aC (n:=8) Tryz.func142 λB I w0=>?_;refine Z8 ?_;refine oP (POp.call .k ((noO _))) ?_;refine Z1 ?_;refine oP (POp.call .k ((yesO _))) ?_;refine oP (POp.call .k ((ofK _ _))) ?_;refine Z4 ?_;refine r1 2 (H) ?_;exact⟨by rfl,rfl⟩
theorem andC(x y:Bool×Bool):PCall Tryz.prog 143 [AV.oc x,AV.oc y] (AV.oc (andO x y)):=by
 intro H;refine aC (n:=24) Tryz.func143 λB I w0=>?_;refine Z16 ?_;refine CW.cond rfl (λh0=>?_) (λh0=>?_)
 ·refine Z7 ?_;refine r1 4 (H) ?_;exact⟨by obtain⟨a,b⟩:=x;obtain⟨c,d⟩:=y;revert h0;cases a <;> cases b <;> cases c <;> cases d <;> first | (intro;rfl) | (intro h;exact absurd h (by decide)),rfl⟩
 ·refine Z5 ?_;refine oP (POp.call .k ((yesO _))) ?_;refine Z2 ?_;refine OL.guardC rfl rfl rfl rfl rfl rfl (λhg=>POp.call (.mk' rfl rfl rfl rfl (by first | rfl | ((repeat (first | exact hg | rfl | refine Bool.and_eq_true_iff.2 ⟨?_,?_⟩));done) | simp_all [strip,constAV])) ((yesO _))) ?_;refine Z2 ?_;refine oP (POp.call .k ((noO _))) ?_;refine Z2 ?_;refine OL.guardC rfl rfl rfl rfl rfl rfl (λhg=>POp.call (.mk' rfl rfl rfl rfl (by first | rfl | ((repeat (first | exact hg | rfl | refine Bool.and_eq_true_iff.2 ⟨?_,?_⟩));done) | simp_all [strip,constAV])) ((noO _))) ?_;refine Z1 ?_;refine oP (POp.call .k ((ofK _ _))) ?_;refine Z4 ?_;refine r1 4 (H) ?_;exact⟨retO (by obtain⟨a,b⟩:=x;obtain⟨c,d⟩:=y;revert h0;cases a <;> cases b <;> cases c <;> cases d <;> first | (intro;rfl) | (intro h;exact absurd h (by decide))),rfl⟩
theorem hasK(k c:Nat)(hk:k<9223372036854775808):PCall Tryz.prog 145 [.i k,.i c] (.b (k.testBit c)):=by
 intro H;refine aC (n:=10) Tryz.func145 λB I w0=>?_;refine Z9 ?_;refine oP (POp.shift rfl rfl rfl rfl rfl (by omega) (ish_right k c)) ?_;refine oP (POp.bits rfl rfl rfl rfl rfl (ibit_and _ 1 (by have:=Nat.div_le_self k (2^min (c:Int).toNat 64);omega) (by decide))) ?_;refine Z5 ?_;refine r1 4 (H) ?_;exact⟨retB (ihas_bit k c hk),rfl⟩
theorem classesK(k:Nat):PCall Tryz.prog 94 [.i k] (.fn (.func 170) [] [.ptr [.i k]]):=by
 intro H;refine aC (n:=4) Tryz.func94 λB I w0=>?_;refine Z13 ?_;refine r1 2 (H) ?_;exact⟨by first | rfl | exact retI (by simp_all) | exact retB (by simp_all) | simp_all,rfl⟩
theorem shr_pos(hc:c<=64):decide (((k / 2^min (c:Int).toNat 64:Nat):Int)>0)=decide (2^c<=k):=by
 rw[show min (c:Int).toNat 64=c by omega,Bool.eq_iff_iff,decide_eq_true_eq,decide_eq_true_eq];have h:0<2^c:=Nat.pow_pos (by decide);constructor
 ·intro h2;apply Decidable.byContradiction;intro h3;rw[Nat.div_eq_of_lt (by omega)] at h2;simp at h2
 ·intro h2;have:=Nat.div_pos h2 h;omega
theorem pow_bound(h:2^c<=k)(hk:k<2^60):c<60:=by
 apply Decidable.byContradiction;intro h2;have:=Nat.pow_le_pow_right (n:=2) (by decide) (show 60<=c by omega);omega
theorem handed{J Jx:List Nat->List Ent->Prop}{H1 Hx H':List Ent}{y:AV}(hJ:J (bitsTo k c) H1)(h1:k.testBit c=true->∃b H2,y= .b b/\H'=H2++Hx/\(b=true->J (bitsTo k c++[c]) H2)/\(b=false->Jx (bitsTo k c++[c]) H2))(h2:k.testBit c=false->y= .b false/\H'=H1++Hx):
  ∃b H2,y= .b b/\H'=H2++Hx/\((bif k.testBit c then !b else false)=false->J (bitsTo k (c+1)) H2)/\((bif k.testBit c then !b else false)=true->Jx (bitsTo k (c+1)) H2):=by
 rw[bitsTo_step];cases h:k.testBit c with
 | true=>
  obtain⟨b,H2,rfl,rfl,e1,e2⟩:=h1 h;exact⟨b,H2,rfl,rfl,λh=>e1 (by simpa using h),λh=>e2 (by simpa using h)⟩
 | false=>
  obtain⟨rfl,rfl⟩:=h2 h;exact⟨false,H1,rfl,rfl,λ_=>by simpa using hJ,λh=>by simp at h⟩
theorem classes1{B k:Nat}(hk:k<2^60){g:Fn}{gs gc:List AV}{J Jx:List Nat->List Ent->Prop}(hg:CbOk B Tryz.prog (.fn g gs gc) (λc:Nat=>.i c) (bitsK k) (λ_=>True) J Jx)(H Hx:List Ent)(hJ:J [] H):
  BCall B Tryz.prog 170 [.fn g gs gc,.ptr [.i k]] (H++Hx) (λ_ H'=>∃H1,H'=H1++Hx/\(J (bitsK k) H1\/∃pre,pre<+:bitsK k/\Jx pre H1)) (λ_ _=>False):=by
 refine BCall.of (n:=19) Tryz.func170 rfl (by kernel_rfl) rfl rfl (λI w0=>?_);refine Z6 ?_;refine lj (λm st=>∃(c:Nat) (H1:List Ent),st=⟨[(3,.i c),(0,.fn g gs gc),(1,.ptr [.i k])],H1++Hx⟩/\m=61 - c/\c<=60/\J (bitsTo k c) H1) (⟨0,H,rfl,rfl,by omega,hJ⟩) ?_;rintro m _ ⟨c,H1,rfl,rfl,hc,hJ1⟩;refine Z5 ?_;refine oP (POp.shift rfl rfl rfl rfl rfl (by omega) (ish_right k c)) ?_;refine Z3 ?_;rw[shr_pos (by omega)];refine cd (λh0=>?_) λh0=>?_
 ·have hc2:c<60:=pow_bound h0 hk;refine Z8 ?_;refine oP (POp.call .k (hasK k c (by omega))) ?_;refine Z3 ?_;refine OL.vcallG rfl rfl rfl rfl rfl rfl rfl rfl (λh=>h) rfl (λh=>by simp_all [strip]) (.cons (AVle.refl _) .nil) (λh=>hg (bitsTo k c) c H1 Hx (by have:=bitsTo_pre k (n:=c+1) (by omega);rwa [bitsTo_step,if_pos (by simpa using h)] at this) trivial hJ1) ?_;intro y H' hy1 hy2;obtain⟨bb,H2,rfl,rfl,e1,e2⟩:=handed hJ1 (λh=>hy1 (by simpa using h)) (λh=>hy2 (by simpa using h));refine Z4 ?_;refine CW.cond rfl (λh1=>?_) (λh1=>?_)
  ·refine Z5 ?_;refine rR [] (H2++Hx) ?_;exact⟨H2,rfl,.inr ⟨_,bitsTo_pre k (by omega),e2 h1⟩⟩
  ·have h1:(bif k.testBit c then !bb else false)=false:=by simpa using h1
   refine Z8 ?_;exact ag (⟨c+1,H2,rfl,rfl,by omega,e1 h1⟩)
 ·refine Z4 ?_;refine nR [] (H1++Hx) ?_;exact⟨H1,rfl,.inl (by rw[<-bitsTo_all (n:=c) (by omega) (by omega)];exact hJ1)⟩
theorem classes_seq(B:Nat){k:Nat}(hk:k<2^60):SeqOk B Tryz.prog (.fn (.func 170) [] [.ptr [.i k]]) (λc:Nat=>.i c) (bitsK k):=
 λJ Jx g gs gc hg H Hx hJ=>VCall.fnB (classes1 hk hg H Hx hJ)
def belowT(p:Prog):List (List Bool):=(List.range (manyC p)).map λ(a:Nat)=>(List.range (manyC p)).map λ(b:Nat)=>belowP (worldOf p) a b
def slotsT(p:Prog):List (List Int):=(List.range (manyC p)).map λ(a:Nat)=>if ownC p a then hasP p a else []
abbrev AV.boolss(l:List (List Bool)):AV:=.sl 1 (l.map λx=>[AV.bools x])
abbrev engC(p:Prog)(t:Tbl):List AV:=tblA t++progC p++Wcells (worldOf p)++[AV.boolss (belowT p),AV.intss (slotsT p),.any,.any,.any,.any]
abbrev AV.eng(p:Prog)(t:Tbl):AV:=.ptr (engC p t)
theorem slotsT_len(p:Prog):(slotsT p).length=manyC p:=by simp[slotsT]
theorem belowT_len(p:Prog):(belowT p).length=manyC p:=by simp[belowT]
theorem range_map{α:Type}[Inhabited α](f:Nat->α){n i:Nat}(h:i<n):((List.range n).map f).getD i default=f i:=by
 rw[List.getD_eq_getElem?_getD,List.getElem?_map,List.getElem?_range h];rfl
theorem belowT_row{a:Nat}(h:a<manyC p):(belowT p).getD a default=(List.range (manyC p)).map λ(b:Nat)=>belowP (worldOf p) a b:=range_map _ h
theorem belowT_at{a:Nat}{b:Int}(h:a<manyC p)(hb:0<=b/\b<manyC p):((belowT p).getD a default).getD b.toNat default=belowP (worldOf p) a b:=by
 rw[belowT_row h,range_map _ (by omega)];congr 1;omega
theorem slotsT_has(hz:(sizesP p).isSome=true){a:Nat}(h:a<manyC p)(s:Int):((slotsT p).getD a default).contains s=hasCl p a s:=by
 rw[slotsT,range_map _ h,hasCl,ownC,hz,Bool.and_true];have e:decide ((a:Int)<3+p.classes.length)=true:=by unfold manyC at h;simp;omega
 rw[e,Bool.and_true];by_cases h3:3<=a
 ·rw[if_pos (by simp;omega)];simp[h3]
 ·rw[if_neg (by simp;omega)];simp[h3]
theorem setHas(s:Nat)(c:Int)(hc:0<=c)(hs:s<18446744073709551616):PCall Tryz.prog 251 [AV.set s,.i c] (.b (s.testBit c.toNat)):=by
 intro H;refine aC (n:=10) Tryz.func251 λB I w0=>?_;refine Z9 ?_;refine oP (POp.shift rfl rfl rfl rfl rfl hc (sh_right s c)) ?_;refine oP (POp.bits rfl rfl rfl rfl rfl (bit_and _ 1 (by have:=Nat.div_le_self s (2^min c.toNat 64);omega) (by decide))) ?_;refine Z5 ?_;refine r1 4 (H) ?_;exact⟨retB (has_bit s c hs),rfl⟩
theorem upsFrom_lenB:∀(l:List (List Int)) (i:Nat) (U:List Nat),(upsFrom l i U).length=U.length
 | [],_,_=>rfl
 | x::r,i,U=>by rw[upsFrom,upsFrom_lenB r];simp
theorem ups_lenB(W:FW):(upsP W).length=63:=by rw[upsP,upsFrom_lenB];rfl
theorem upFold_ltB(hU:∀x∈U,x<18446744073709551616){i:Nat}(hi:i<61)(l:List Int):upFold U i l<18446744073709551616:=by
 unfold upFold;have:∀(l:List Int) (s:Nat),s<18446744073709551616->l.foldl (λs (p:Int)=>s ||| U.getD p.toNat 0) s<18446744073709551616:=by
  intro l
  induction l with
  | nil=>intro s hs;exact hs
  | cons p r ih=>intro s hs;exact ih _ (or64 hs (u_get hU _))
 exact this l _ (or64 (by omega) (pow64 (by omega)))
theorem upsFrom_ltB:∀(l:List (List Int)) (i:Nat) (U:List Nat),i+l.length<=61->(∀x∈U,x<18446744073709551616)->∀x∈upsFrom l i U,x<18446744073709551616
 | [],_,_,_,h=>h
 | y::r,i,U,hi,h=>by
  rw[upsFrom];simp only[List.length_cons] at hi;exact upsFrom_ltB r (i+1) _ (by omega) (u_set h (upFold_ltB h (by omega) y))
theorem ups_ltB{W:FW}(h:W.parents.length<=60):∀x∈upsP W,x<18446744073709551616:=upsFrom_ltB _ _ _ (by omega) (by decide)
theorem up_dropB(h:c<U.length):(List.drop (c*1) (List.drop 2 (Wcells W++U.map λs=>AV.set s)))[0]? =some (AV.set (U.getD c 0)):=by
 rw[Nat.mul_one,List.drop_drop,List.getElem?_drop];exact up_get (W:=W) (U:=U) (i:=c) h
theorem classP_iff{c:Int}:classP W c=true↔0<=c/\c<3+W.parents.length:=by simp[classP]
theorem belowC(hw:worldP W=true){a b:Int}(ha:classP W a=true)(hb:classP W b=true):PCall Tryz.prog 177 [AV.world W,.i a,.i b] (.tup [.b (belowP W a b),.i 0]):=by
 intro H;refine aC (n:=37) Tryz.func177 λB I w0=>?_;have hW:W.parents.length<=60:=by simp only[worldP,Bool.and_eq_true,decide_eq_true_eq] at hw;exact hw.1.1.1
 have ha2:=classP_iff.1 ha;have hb2:=classP_iff.1 hb;have hlt:=ups_ltB hW;refine Z10 ?_;refine oP (POp.call .k (p105t hw)) ?_;refine Z15 ?_;refine OL.guardC rfl rfl rfl rfl rfl rfl (λhg=>POp.call (.mk' rfl rfl rfl rfl (by first | rfl | ((repeat (first | exact hg | rfl | refine Bool.and_eq_true_iff.2 ⟨?_,?_⟩));done) | simp_all [strip,constAV])) (p106 W a hW)) ?_;refine Z5 ?_;refine OL.guardC rfl rfl rfl rfl rfl rfl (λhg=>POp.call (.mk' rfl rfl rfl rfl (by first | rfl | ((repeat (first | exact hg | rfl | refine Bool.and_eq_true_iff.2 ⟨?_,?_⟩));done) | simp_all [strip,constAV])) (p106 W b hW)) ?_;refine Z4 ?_;refine CW.cond rfl (λh0=>?_) (λh0=>?_)
 ·simp[ha,hb] at h0
 ·refine Z8 ?_;refine oP ((by first | exact POp.ia rfl rfl rfl rfl rfl ⟨by omega,by omega⟩ | exact POp.iaP rfl rfl rfl rfl rfl ⟨by omega,by omega⟩)) ?_;refine oP (POp.ld1 rfl rfl rfl (up_dropB (c:=a.toNat) (by rw[ups_lenB];omega))) ?_;refine Z1 ?_;refine oP (POp.call .k (setHas _ b (by omega) (u_get hlt _))) ?_;refine Z5 ?_;refine rR [.tmp 6,.tmp 7] (H) ?_;exact⟨by rfl,rfl⟩
theorem ownsK(t:Tbl)(hz:(sizesP p).isSome=true){c:Nat}(hc:c<manyC p)(s:Int):PCall Tryz.prog 95 [AV.eng p t,.i c,.i s] (.b (hasCl p c s)):=by
 intro H;refine aC (n:=16) Tryz.func95 λB I w0=>?_;refine Z12 ?_;refine oP ((by first | exact POp.ixM rfl rfl rfl rfl rfl (by rw[slotsT_len];exact hc) | exact POp.ixI rfl rfl rfl rfl rfl (by rw[slotsT_len];exact hc))) ?_;refine Z2 ?_;refine oP (POp.call .k ((sContains _ _))) ?_;refine Z4 ?_;refine r1 6 (H) ?_;exact⟨retB (slotsT_has hz hc s),rfl⟩
def nextK(p:Prog)(t:Tbl)(s:Int)(pre:List Nat):Nat:=if pre.any (λc=>hasCl p c s) then (t.slots.getD s.toNat default).toNat else 0
def lackK(p:Prog)(s:Int)(b:Bool)(pre:List Nat):Bool:=b || pre.any λc=>!hasCl p c s
abbrev standM(p:Prog)(t:Tbl)(s:Int)(b:Bool)(xb nb:Nat)(pre:List Nat):List Ent:=[.blk xb 3 [.i (nextK p t s pre)],.blk nb 4 [.b (lackK p s b pre)]]
theorem stand_yes{s:Int}{xb nb x:Nat}(h:hasCl p x s=true): [Ent.blk xb 3 [.i ((nextK p t s pre ||| (t.slots.getD s.toNat default).toNat:Nat):Int)],Ent.blk nb 4 [.b (lackK p s b pre)]]=standM p t s b xb nb (pre++[x]):=by
 have e1:nextK p t s pre ||| (t.slots.getD s.toNat default).toNat=nextK p t s (pre++[x]):=by
  unfold nextK;rw[List.any_append,List.any_cons,h,Bool.true_or,Bool.or_true,if_pos rfl];split <;> simp
 have e2:lackK p s b pre=lackK p s b (pre++[x]):=by unfold lackK;rw[List.any_append,List.any_cons,h];simp
 rw[e1,e2]
theorem stand_no{s:Int}{xb nb x:Nat}(h:hasCl p x s=false): [Ent.blk xb 3 [.i (nextK p t s pre)],Ent.blk nb 4 [.b true]]=standM p t s b xb nb (pre++[x]):=by
 have e1:nextK p t s pre=nextK p t s (pre++[x]):=by
  unfold nextK;rw[List.any_append,List.any_cons,h];simp
 have e2:true=lackK p s b (pre++[x]):=by unfold lackK;rw[List.any_append,List.any_cons,h];simp
 show _= [Ent.blk xb 3 [.i (nextK p t s (pre++[x]))],Ent.blk nb 4 [.b (lackK p s b (pre++[x]))]];rw[<-e1, <-e2]
theorem path_in{path:List Int}(h:∀s∈path,0<=s/\s<p.slots){i:Nat}(hi:i<path.length):0<=path.getD i default/\path.getD i default<p.slots:=h _ (getD_memB hi)
theorem stand_take(p:Prog)(t:Tbl)(c:Int){path:List Int}{i:Nat}(hi:i<path.length):standK p t c (path.take (i+1))=stepK p t (path.getD i default) (standK p t c (path.take i)):=by rw[<-take_getD hi,stand_snoc]
theorem standsK(hz:(sizesP p).isSome=true)(hs:SlotsOk p t)(hsl:(t.slots.length:Int)=p.slots){c:Nat}(hc:c<manyC p){path:List Int}(hpath:∀s∈path,0<=s/\s<p.slots):PCall Tryz.prog 144 [AV.eng p t,.i c,AV.ints path] (.tup [.i (standK p t c path).1,.b (standK p t c path).2]):=by
 intro H;refine ACall.mkM (n:=41) Tryz.func144 rfl (by kernel_rfl) rfl rfl (λB I w0=>?_);have hm:=many_le hz;have hpw:=pow_many hz;refine Z4 ?_;refine OL.alC rfl rfl rfl rfl (λnb=>?_);refine Z5 ?_;refine oP (POp.shift rfl rfl rfl rfl rfl (by omega) (ish_left c ⟨by omega,by omega⟩)) ?_;refine Z12 ?_;refine CW.boundM (t:=14) rfl (λhb14=>?_);refine CW.loopM (λm st=>∃(i:Nat) (k:Nat×Bool),st=⟨[(16,.i i),(15,.i path.length),(14,AV.ints path),(6,.i k.1),(7,.p nb 0),(3,.ptr [AV.eng p t])],[.blk nb 4 [.b k.2]]⟩/\m=path.length - i/\i<=path.length/\k=standK p t c (path.take i)) [] H ⟨_,_,⟨0,(2^c,false),rfl,rfl,by omega,rfl⟩,(by repeat (first | exact trivial | refine⟨rfl,?_⟩)),(by repeat (first | exact List.Sublist.refl _ | apply List.Sublist.cons_cons | refine List.Sublist.cons _ ?_))⟩ ?_;intro Ds0;rintro m _ ⟨i,k,rfl,rfl,hi,hk⟩;refine Z6 ?_;refine cd (λh0=>?_) λh0=>?_
 ·have hil:i<path.length:=by omega
  have hklt:k.1<2^manyC p:=by rw[hk];exact stand_lt hs (by simpa using hc) _
  have hsi:=path_in hpath hil;have hst:=stand_take p t c hil;rw[<-hk] at hst;obtain⟨s,hse⟩:∃s,s=path.getD i default:=⟨_,rfl⟩;rw[<-hse] at hsi hst;have hsv:=slot_kind hs s.toNat;refine Z8 ?_;refine OL.alC rfl rfl rfl rfl (λsb=>?_);refine Z4 ?_;rw[<-hse];refine CW.freezeP (d:=9) rfl (by repeat (first | exact Del.head _ _ | apply Del.tail)) ?_;refine Z1 ?_;refine OL.alC rfl rfl rfl rfl (λxb=>?_);refine Z7 ?_;refine oP (POp.call .k ((classesK _))) ?_;refine Z3 ?_;refine CW.weaken (st':=⟨[(10,.p xb 0),(21,.fn (.func 170) [] [.ptr [.i k.1]]),(9,.ptr [.i s]),(16,.i i),(15,.i path.length),(14,AV.ints path),(6,.i k.1),(7,.p nb 0),(3,.ptr [AV.eng p t])],[.blk xb 3 [.i 0],.blk nb 4 [.b k.2]]++(marksE Ds0++H)⟩) (by repeat (first | exact trivial | refine⟨rfl,?_⟩)) (by repeat (first | exact List.Sublist.refl _ | apply List.Sublist.cons_cons | refine List.Sublist.cons _ ?_)) ?_;refine CW.rangeFuncM Ds0 (λ_ (c:Nat)=>.i c) (λ_ _=>[]) (bitsK k.1) (λpre H=>H=standM p t s k.2 xb nb pre) (λ_ _ _=>False) ([.blk xb 3 [.i 0],.blk nb 4 [.b k.2]]) (H) (λ_ x=>[(11,.i x),(22,.i x),(10,.p xb 0),(9,.ptr [.i s]),(7,.p nb 0),(3,.ptr [AV.eng p t])]) rfl rfl rfl rfl ((classes_seq _ (by omega)).b) (by simp[lackK,nextK]) ?_ ?_ ?_ ?_
  ·intro l0 I1 w1 b9 x Hy;refine Z3 ?_;exact λa w s=>⟨_,rfl,s.weaken (envLe_get (by repeat (first | exact trivial | refine⟨rfl,?_⟩))) (List.Sublist.refl _)⟩
  ·intro l0 D0 lp pre b9 x H1 Hy I1 w1 hpre hJ;obtain rfl:=hJ;have hx:x<manyC p:=mem_bits_lt hklt (hpre.subset (by simp));refine Z6 ?_;refine oP (POp.call .k (ownsK t hz hx s)) ?_;refine Z2 ?_;refine CW.cond rfl (λh1=>?_) (λh1=>?_)
   ·have h1:=h1;refine CW.dp mixed ?_;refine DP.anyC 0 9 41 rfl (by decide+kernel) rfl rfl (by decide+kernel) ?_;refine Z7 ?_;refine AD.popC rfl rfl rfl ((by first | exact POp.ixM rfl rfl rfl rfl rfl ⟨by omega,by omega⟩ | exact POp.ixI rfl rfl rfl rfl rfl ⟨by omega,by omega⟩)) ?_;refine AD.popC rfl rfl rfl (POp.le (POp.ld1 rfl rfl rfl rfl) (AVle.eqI hsv.1)) ?_;refine Z2 ?_;refine oP (POp.bits rfl rfl rfl rfl rfl (ibit_or _ _ (by unfold nextK;split <;> omega) (by omega))) ?_;refine Z3 ?_;exact Done.roundN (by repeat (first | exact List.Sublist.refl _ | refine List.Sublist.cons _ ?_)) (stand_yes h1)
   ·have h1:=h1;refine Z4 ?_;exact Done.roundN (by repeat (first | exact List.Sublist.refl _ | refine List.Sublist.cons _ ?_)) (stand_no h1)
  ·intro D1 H1 hJ;obtain rfl:=hJ;have e1:nextK p t s (bitsK k.1)=(stepK p t s k).1:=by rw[step_bits hklt (by omega)];rfl
   have e2:lackK p s k.2 (bitsK k.1)=(stepK p t s k).2:=by rw[step_bits hklt (by omega)];rfl
   simp only[standM];rw[e1,e2];refine Z12 ?_;refine Done.againM (D1::Ds0) (⟨i+1,stepK p t s k,rfl,rfl,hil,hst.symm⟩) ?_ ?_ ?_
   ·omega
   ·repeat (first | exact trivial | refine⟨rfl,?_⟩)
   ·repeat (first | exact List.Sublist.refl _ | apply List.Sublist.cons_cons | refine List.Sublist.cons _ ?_)
  ·intro D1 code0 pre H1 hpre hJx;exact hJx.elim
 ·obtain rfl:i=path.length:=by omega
  rw[List.take_length] at hk;refine Z6 ?_;refine CW.dp mixed ?_;refine DP.anyWC (.i k.1) 6 2 0 3 41 rfl rfl (by decide+kernel) (by decide+kernel) rfl rfl (by decide+kernel) ?_;refine TD.popW0 (by decide+kernel) (by decide+kernel) rfl rfl rfl rfl (POp.move rfl rfl rfl) ?_;refine TD.popW (by decide+kernel) rfl rfl rfl rfl ((by first | exact POp.ld1 rfl rfl rfl rfl | (apply POp.ld1H rfl rfl rfl;(case hm=>repeat (first | exact .head _ | refine .tail _ ?_));(case hy=>rfl)))) ?_;refine TD.assW (by decide+kernel) (by decide+kernel) rfl rfl rfl (POp.assign rfl rfl rfl) ?_;refine TD.nil ⟨rfl,?_⟩;refine Z5 ?_;refine Done.retMs Ds0 ([.blk nb 4 [.b k.2]]) H (rs:=[.tmp 6,.cell 7 4]) (H':=H) rfl (by repeat (first | exact List.Sublist.refl _ | apply List.Sublist.cons_cons | refine List.Sublist.cons _ ?_)) (.tmp rfl ((by first | exact .cell1 inferInstance rfl (by repeat (first | exact .head _ | refine .tail _ ?_)) rfl (.nil) | exact .ptr1 inferInstance rfl rfl (.nil)))) (AVleL.refl _) (by repeat (first | exact List.Sublist.refl _ | refine List.Sublist.cons _ ?_)) ?_;exact⟨by rw[hk];rfl,rfl⟩
def belowO(p:Prog)(c:Int)(b:Bool)(pre:List Nat):Bool×Bool:=(pre.any (λa=>belowP (worldOf p) a c),b || pre.any λa=>!belowP (worldOf p) a c)
theorem below_step{c:Int}{b r:Bool}{ob x:Nat}(h:r=belowP (worldOf p) x c): [Ent.blk ob 160 [AV.oc ((belowO p c b pre).1 || r,(belowO p c b pre).2 || !r)]]= [Ent.blk ob 160 [AV.oc (belowO p c b (pre++[x]))]]:=by
 subst h;unfold belowO;rw[List.any_append,List.any_append,List.any_cons,List.any_cons,List.any_nil,List.any_nil,Bool.or_false,Bool.or_false,Bool.or_assoc]
theorem owner_slots(hz:(sizesP p).isSome=true):((worldOf p).owner.length:Int)=p.slots:=by
 obtain⟨o,ho⟩:=Option.isSome_iff_exists.1 hz;have:=(Heads.of (sizes_parts ho).1).cnt;show ((ownersN p.classes 0).length:Int)=_;rw[owners_cnt];exact this
theorem oc_num{f:Fact}(h0:f.op≠1)(h1:f.op≠5)(h2:f.op≠6)(h3:f.op≠7)(h4:f.op≠2){k:Nat×Bool}(hk:k=standK p t (l.getD f.arg.toNat default) f.path):(k.1.testBit 1,bif k.2 then true else ((k.1:Int) !=0))=outK p t l f:=by
 rw[outK_leaf h0 h1 h2 h3, <-hk,show (let k:=k;if f.op=2 then _ else _)=_ from if_neg h4];have e:((k.1:Int) !=0)=decide (k.1≠0):=by rw[Bool.eq_iff_iff];simp
 rw[e,Bool.cond_true_left]
theorem oc_is{f:Fact}(hm:manyC p<=62)(h4:f.op=2){k:Nat×Bool}(hk:k=standK p t (l.getD f.arg.toNat default) f.path)(hlt:k.1<2^manyC p):belowO p f.cls k.2 (bitsK k.1)=outK p t l f:=by
 rw[outK_leaf (by omega) (by omega) (by omega) (by omega), <-hk,show (let k:=k;if f.op=2 then _ else _)=_ from if_pos h4,any_range hlt hm (λc=>belowP (worldOf p) c f.cls),any_range hlt hm (λc=>!belowP (worldOf p) c f.cls)];rfl
theorem outStep(hz:(sizesP p).isSome=true)(hs:SlotsOk p t)(hsl:(t.slots.length:Int)=p.slots)(hl:∀c∈l,1<=c/\c<manyC p){f:Fact}(hf:FOk p l f)(ih:∀k∈f.kids,PCall Tryz.prog 80 [AV.eng p t,AV.fact k,AV.ints l] (AV.oc (outK p t l k))):PCall Tryz.prog 80 [AV.eng p t,AV.fact f,AV.ints l] (AV.oc (outK p t l f)):=by
 intro H;refine ACall.mkM (n:=118) Tryz.func80 rfl (by kernel_rfl) rfl rfl (λB I w0=>?_);have hm:=many_le hz;have hpw:=pow_many hz;refine Z21 ?_;refine cd (λh0=>?_) λh0=>?_
 ·refine Z2 ?_;refine oP (POp.call .k ((ofK _ _))) ?_;refine Z6 ?_;refine Done.retMs [] ([]) H (rs:=[.tmp 6]) (H':=H) rfl (by repeat (first | exact List.Sublist.refl _ | apply List.Sublist.cons_cons | refine List.Sublist.cons _ ?_)) (.tmp rfl (.nil)) (AVleL.refl _) (by repeat (first | exact List.Sublist.refl _ | refine List.Sublist.cons _ ?_)) ?_;exact⟨retO (outK_one h0).symm,rfl⟩
 ·refine Z6 ?_;refine cd (λh1=>?_) λh1=>?_
  ·have hk1:=hf.ops.1 h1;refine Z1 ?_;refine CW.dp mixed ?_;refine DP.anyC 0 6 118 rfl (by decide+kernel) rfl rfl (by decide+kernel) ?_;refine Z8 ?_;refine oP (POp.call .k (ih _ (getD_memB (by omega)))) ?_;refine oP (POp.call .k ((notO _))) ?_;refine Z6 ?_;refine Done.retMs [] ([]) H (rs:=[.tmp 6]) (H':=H) rfl (by repeat (first | exact List.Sublist.refl _ | apply List.Sublist.cons_cons | refine List.Sublist.cons _ ?_)) (.tmp rfl (.nil)) (AVleL.refl _) (by repeat (first | exact List.Sublist.refl _ | refine List.Sublist.cons _ ?_)) ?_;exact⟨retO (outK_five h1 hk1).symm,rfl⟩
  ·refine Z6 ?_;refine cd (λh2=>?_) λh2=>?_
   ·have hk2:=hf.ops.2.1 (.inl h2);refine Z1 ?_;refine CW.dp mixed ?_;refine DP.anyC 0 13 118 rfl (by decide+kernel) rfl rfl (by decide+kernel) ?_;refine Z6 ?_;refine AD.popC rfl rfl rfl (POp.call .k (ih _ (getD_memB (by omega)))) ?_;refine Z8 ?_;refine oP (POp.call .k (ih _ (getD_memB (by omega)))) ?_;refine oP (POp.call .k (andC _ _)) ?_;refine Z6 ?_;refine Done.retMs [] ([]) H (rs:=[.tmp 6]) (H':=H) rfl (by repeat (first | exact List.Sublist.refl _ | apply List.Sublist.cons_cons | refine List.Sublist.cons _ ?_)) (.tmp rfl (.nil)) (AVleL.refl _) (by repeat (first | exact List.Sublist.refl _ | refine List.Sublist.cons _ ?_)) ?_;exact⟨retO (outK_six h2 hk2).symm,rfl⟩
   ·refine Z6 ?_;refine cd (λh3=>?_) λh3=>?_
    ·have hk2:=hf.ops.2.1 (.inr h3);refine Z1 ?_;refine CW.dp mixed ?_;refine DP.anyC 0 14 118 rfl (by decide+kernel) rfl rfl (by decide+kernel) ?_;refine Z6 ?_;refine AD.popC rfl rfl rfl (POp.call .k (ih _ (getD_memB (by omega)))) ?_;refine AD.popC rfl rfl rfl (POp.call .k ((notO _))) ?_;refine Z8 ?_;refine oP (POp.call .k (ih _ (getD_memB (by omega)))) ?_;refine oP (POp.call .k ((notO _))) ?_;refine oP (POp.call .k (andC _ _)) ?_;refine oP (POp.call .k ((notO _))) ?_;refine Z6 ?_;refine Done.retMs [] ([]) H (rs:=[.tmp 6]) (H':=H) rfl (by repeat (first | exact List.Sublist.refl _ | apply List.Sublist.cons_cons | refine List.Sublist.cons _ ?_)) (.tmp rfl (.nil)) (AVleL.refl _) (by repeat (first | exact List.Sublist.refl _ | refine List.Sublist.cons _ ?_)) ?_;exact⟨retO ((or_swap _ _).trans (outK_seven h3 hk2).symm),rfl⟩
    ·have hlf:=hf.ops.2.2 h0 h1 h2 h3;obtain⟨ha,hpa,_,hcl⟩:=hf.leaf hlf;have hcm:=hl _ (getD_memB (k:=f.arg.toNat) (l:=l) (by omega));obtain⟨c,hc⟩:∃c:Nat,l.getD f.arg.toNat default=c:=⟨(l.getD f.arg.toNat default).toNat,by omega⟩;have hso:=owner_slots hz;have hst:PCall Tryz.prog 144 [AV.eng p t,.i c,AV.ints f.path] _:=standsK hz hs hsl (by omega) (λs h=>⟨(hpa s h).1,by have:=(hpa s h).2;omega⟩);obtain⟨k,hk⟩:∃k,k=standK p t (l.getD f.arg.toNat default) f.path:=⟨_,rfl⟩;have hklt:k.1<2^manyC p:=by rw[hk];exact stand_lt hs (by omega) _
     rw[<-hc, <-hk] at hst;refine Z4 ?_;refine CW.dp mixed ?_;refine DP.anyC 0 8 118 rfl (by decide+kernel) rfl rfl (by decide+kernel) ?_;refine Z4 ?_;refine AD.popC rfl rfl rfl ((by first | exact POp.ixM rfl rfl rfl rfl rfl ⟨by omega,by omega⟩ | exact POp.ixI rfl rfl rfl rfl rfl ⟨by omega,by omega⟩)) ?_;refine Z5 ?_;refine oP (POp.call .k (hst)) ?_;refine Z6 ?_;refine DP.anyC 10 13 118 rfl (by decide+kernel) rfl rfl (by decide+kernel) ?_;refine Z16 ?_;refine cd (λh4=>?_) λh4=>?_
     ·refine Z3 ?_;refine oP (POp.call .k (hasK _ 1 (by omega))) ?_;refine Z5 ?_;refine oP (POp.call .k ((ofK _ _))) ?_;refine Z5 ?_;refine Done.retMs [] ([]) H (rs:=[.tmp 6]) (H':=H) rfl (by repeat (first | exact List.Sublist.refl _ | apply List.Sublist.cons_cons | refine List.Sublist.cons _ ?_)) (.tmp rfl (.nil)) (AVleL.refl _) (by repeat (first | exact List.Sublist.refl _ | refine List.Sublist.cons _ ?_)) ?_;exact⟨retO (oc_num h0 h1 h2 h3 h4 hk),rfl⟩
     ·have hcl2:=hcl h4;refine Z5 ?_;refine oP (POp.call .k ((ofK _ _))) ?_;refine OL.alC rfl rfl rfl rfl (λob=>?_);refine Z7 ?_;refine oP (POp.call .k ((classesK _))) ?_;refine Z3 ?_;refine CW.weaken (st':=⟨[(89,.fn (.func 170) [] [.ptr [.i k.1]]),(9,.p ob 0),(3,.ptr [AV.eng p t]),(4,.ptr (Fcells f))],[.blk ob 160 [AV.oc (false,k.2)]]++(marksE []++H)⟩) (by repeat (first | exact trivial | refine⟨rfl,?_⟩)) (by repeat (first | exact List.Sublist.refl _ | apply List.Sublist.cons_cons | refine List.Sublist.cons _ ?_)) ?_;refine CW.rangeFuncM [] (λ_ (c:Nat)=>.i c) (λ_ _=>[]) (bitsK k.1) (λpre H=>H= [.blk ob 160 [AV.oc (belowO p f.cls k.2 pre)]]) (λ_ _ _=>False) ([.blk ob 160 [AV.oc (false,k.2)]]) (H) (λ_ x=>[(10,.i x),(90,.i x),(9,.p ob 0),(3,.ptr [AV.eng p t]),(4,.ptr (Fcells f))]) rfl rfl rfl rfl ((classes_seq _ (by omega)).b) (by simp[belowO]) ?_ ?_ ?_ ?_
      ·intro l0 I1 w1 b9 x Hy;refine Z3 ?_;exact λa w s=>⟨_,rfl,s.weaken (envLe_get (by repeat (first | exact trivial | refine⟨rfl,?_⟩))) (List.Sublist.refl _)⟩
      ·intro l0 D0 lp pre b9 x H1 Hy I1 w1 hpre hJ;obtain rfl:=hJ;have hx:x<manyC p:=mem_bits_lt hklt (hpre.subset (by simp));have hrow:((belowT p).getD x default).length=manyC p:=by rw[belowT_row hx];simp
       refine Z1 ?_;refine CW.dp mixed ?_;refine DP.anyC 0 25 118 rfl (by decide+kernel) rfl rfl (by decide+kernel) ?_;refine Z6 ?_;refine AD.popC rfl rfl rfl ((by first | exact POp.ixM rfl rfl rfl rfl rfl (by rw[belowT_len];exact hx) | exact POp.ixI rfl rfl rfl rfl rfl (by rw[belowT_len];exact hx))) ?_;refine Z3 ?_;refine AD.popC rfl rfl rfl ((by first | exact POp.ixM rfl rfl rfl rfl rfl ⟨by omega,by omega⟩ | exact POp.ixI rfl rfl rfl rfl rfl ⟨by omega,by omega⟩)) ?_;refine Z6 ?_;refine AD.popC rfl rfl rfl ((by first | exact POp.ixM rfl rfl rfl rfl rfl (by rw[belowT_len];exact hx) | exact POp.ixI rfl rfl rfl rfl rfl (by rw[belowT_len];exact hx))) ?_;refine Z3 ?_;refine AD.popC rfl rfl rfl ((by first | exact POp.ixM rfl rfl rfl rfl rfl ⟨by omega,by omega⟩ | exact POp.ixI rfl rfl rfl rfl rfl ⟨by omega,by omega⟩)) ?_;refine Z2 ?_;refine AD.popC rfl rfl rfl (POp.call .k (ofK _ _)) ?_;refine Z2 ?_;refine oP (POp.bits rfl rfl rfl rfl rfl (oc_or _ _)) ?_;refine Z3 ?_;exact Done.roundN (by repeat (first | exact List.Sublist.refl _ | refine List.Sublist.cons _ ?_)) (below_step (belowT_at hx (by omega)))
      ·intro D0 H1 hJ;obtain rfl:=hJ;refine Z9 ?_;refine Done.retMs (D0::[]) ([]) H (rs:=[.tmp 6]) (H':=H) rfl (by repeat (first | exact List.Sublist.refl _ | apply List.Sublist.cons_cons | refine List.Sublist.cons _ ?_)) (.tmp rfl (.nil)) (AVleL.refl _) (by repeat (first | exact List.Sublist.refl _ | refine List.Sublist.cons _ ?_)) ?_;exact⟨retO (oc_is (by omega) h4 hk hklt),rfl⟩
      ·intro D0 code0 pre H1 hpre hJx;exact hJx.elim
theorem outK_C(hz:(sizesP p).isSome=true)(hs:SlotsOk p t)(hsl:(t.slots.length:Int)=p.slots)(hl:∀c∈l,1<=c/\c<manyC p):∀f:Fact,FOk p l f->PCall Tryz.prog 80 [AV.eng p t,AV.fact f,AV.ints l] (AV.oc (outK p t l f)):=Fact.ind1 λf ih hf=>outStep hz hs hsl hl hf λk hk=>ih k hk (hf.kid k hk)
end Go.Proofs.YtogjaoodkaahoaaGreat

namespace Go.Eng.Bd
open Go.Eng.Fc
structure MapIn(l:List (Int×AV))(L:List Int):Prop where
 ok:IMapOk l
 get:∀s,getI l s=if L.contains s then some (.b true) else none
theorem MapIn.nil:MapIn [] []:=⟨IMapOk.nil,λs=>rfl⟩
theorem MapIn.put{l:List (Int×AV)}{L:List Int}(h:MapIn l L){x:Int}(hk:smallKey x):MapIn (putI l x (.b true)) (L++[x]):=by
 refine⟨h.ok.put hk _,λs=>?_⟩;rw[getI_put,h.get];by_cases e:s=x
 ·rw[if_pos e,e];simp
 ·rw[if_neg e,show (L++[x]).contains s=L.contains s by simp[e]]
abbrev mapsE(ms:List (Nat×List (Int×AV))):List Ent:=ms.map λx=>imapE x.1 x.2
def InsOk(p:Prog)(ms:List (Nat×List (Int×AV)))(n:Nat):Prop:=ms.length=n/\∀a,a<n->MapIn (ms.getD a default).2 ((if ownC p a then beginP p a else []).map (·.1))
theorem InsOk.nil(p:Prog):InsOk p [] 0:=⟨rfl,λa h=>by omega⟩
theorem InsOk.snoc{p:Prog}{ms:List (Nat×List (Int×AV))}{n mb:Nat}{l:List (Int×AV)}(h:InsOk p ms n)(hl:MapIn l ((if ownC p n then beginP p n else []).map (·.1))):InsOk p (ms++[(mb,l)]) (n+1):=by
 refine⟨by rw[List.length_append,h.1];rfl,λa ha=>?_⟩;by_cases e:a<n
 ·rw[List.getD_eq_getElem?_getD,List.getElem?_append_left (by rw[h.1];exact e), <-List.getD_eq_getElem?_getD];exact h.2 a e
 ·obtain rfl:a=n:=by omega
  rw[List.getD_eq_getElem?_getD,List.getElem?_append_right (by rw[h.1];omega),h.1,Nat.sub_self];exact hl
theorem perm_in{x:Ent}(A M H:List Ent):(x::(A++(M++H))).Perm (A++((M++[x])++H)):=by
 have e:(M++[x])++H=M++(x::H):=by simp
 rw[e, <-List.append_assoc, <-List.append_assoc];exact List.perm_middle.symm
end Go.Eng.Bd

namespace Go.Proofs.YtogjaoodkaahoaaGreat
open Go.Eng
open Go.Eng.Fc
open Go.Eng.Bd
variable{p:Prog}{a:Nat}{t:Tbl}{q:Nat->Bool}
instance:HasMapI Tryz.prog 243 (3,4):=⟨by kernel_rfl,by kernel_rfl⟩
abbrev engX(p:Prog)(t:Tbl)(B S M A D X:AV):List AV:=tblA t++progC p++Wcells (worldOf p)++[B,S,M,A,D,X]
abbrev msA(x:Nat×List (Int×AV)):List AV:=[.val (.map (some x.1))]
theorem boolss_take(h:a<manyC p):AV.boolss ((belowT p).take (a+1))= .sl 1 (((belowT p).take a).map (λx=>[AV.bools x])++[[AV.bools ((belowT p).getD a default)]]):=by
 rw[<-take_getD (by rw[belowT_len];exact h)];show AV.sl 1 (List.map _ (_++_))=_;rw[List.map_append];rfl
theorem intss_takeT(h:a<manyC p):AV.intss ((slotsT p).take (a+1))= .sl 1 (((slotsT p).take a).map (λx=>[AV.ints x])++[[AV.ints (if ownC p a then hasP p a else [])]]):=by
 rw[<-take_getD (by rw[slotsT_len];exact h),show (slotsT p).getD a default=(if ownC p a then hasP p a else []) from range_map _ h];show AV.sl 1 (List.map _ (_++_))=_;rw[List.map_append];rfl
theorem bools_take{l:List Bool}{b:Nat}(h:b<l.length):AV.bools (l.take (b+1))= .sl 1 ((l.take b).map (λx=>[AV.b x])++[[.b (l.getD b default)]]):=by
 rw[<-take_getD h];show AV.sl 1 (List.map _ (_++_))=_;rw[List.map_append];rfl
theorem maps_snoc(ms:List (Nat×List (Int×AV)))(mb:Nat)(l:List (Int×AV)):mapsE (ms++[(mb,l)])=mapsE ms++[imapE mb l]:=by
 show List.map _ _=_;rw[List.map_append];rfl
theorem msA_snoc(ms:List (Nat×List (Int×AV)))(mb:Nat)(l:List (Int×AV)):AV.sl 1 ((ms++[(mb,l)]).map msA)= .sl 1 (ms.map msA++[[.val (.map (some mb))]]):=by
 rw[List.map_append];rfl
theorem class_many(h:a<manyC p):classP (worldOf p) a=true:=classP_iff.2 ⟨by omega,by rw[world_pl];unfold manyC at h;omega⟩
theorem row_at{a b:Nat}(h:a<manyC p)(hb:b<manyC p):((belowT p).getD a default).getD b default=belowP (worldOf p) a b:=by
 have:=belowT_at h (b:=(b:Int)) ⟨by omega,by omega⟩;simpa using this
theorem map_take{l:List (Int×Int)}{j:Nat}(h:j<l.length):(l.take (j+1)).map (·.1)=(l.take j).map (·.1)++[(l.getD j default).1]:=by
 rw[<-take_getD h,List.map_append];rfl
theorem begin_small{c:Int}(ho:ownC p c=true):∀x∈beginP p c,smallKey x.1:=λx hx=>by
 obtain⟨h3,hcl,h10,hsl,hpk,hfine,hne,hlen,hin,hini,hhas,hhl⟩:=clsOk_of ho;obtain⟨s,hs,h⟩:=List.mem_filterMap.1 hx;cases hl:lastOf (initsL p c) s with
 | none=>rw[hl] at h;cases h
 | some n=>rw[hl] at h;cases h;exact hhas s hs
theorem begin_len{c:Int}(ho:ownC p c=true):(beginP p c).length<=100000:=by
 obtain⟨h3,hcl,h10,hsl,hpk,hfine,hne,hlen,hin,hini,hhas,hhl⟩:=clsOk_of ho;have:=List.length_filterMap_le (λs=>(lastOf (initsL p c) s).map λn=>(s,n)) (hasP p c);unfold beginP;omega
theorem beginNo(hp:p.Small){c:Int}(ho:ownC p c=false):PCall Tryz.prog 179 [AV.prog p,.i c] (.tup [AV.mvs [],.i 2]):=by
 intro H;refine ACall.mkM (n:=81) Tryz.func179 rfl (by kernel_rfl) rfl rfl (λB I w0=>?_);refine Z12 ?_;refine oP (POp.call .k (ownB hp c)) ?_;refine Z3 ?_;refine CW.cond rfl (λh0=>?_) (λh0=>?_)
 ·refine Z8 ?_;refine Done.retM0 (rs:=[.tmp 4,.tmp 5]) (H':=H) rfl (.tmp rfl (.tmp rfl (.nil))) (.cons (AVle.nil 2) (.cons (.refl _) .nil)) (by repeat (first | exact List.Sublist.refl _ | refine List.Sublist.cons _ ?_)) ?_;exact⟨by rfl,rfl⟩
 ·simp[ho] at h0
theorem beginAll(hp:p.Small)(c:Int):PCall Tryz.prog 179 [AV.prog p,.i c] (.tup [AV.mvs (if ownC p c then beginP p c else []),.i (if ownC p c then 0 else 2)]):=by
 cases ho:ownC p c with
 | true=>simpa using beginC hp ho
 | false=>simpa using beginNo hp ho
theorem openYes(hp:p.Small)(hz:(sizesP p).isSome=true)(t:Tbl)(H:List Ent):ACall Tryz.prog 99 [AV.prog p,AV.tbl t] H (λy H'=>∃xb ms,y= .tup [.p xb 0,.b true]/\H'= .blk xb 159 (engX p t (AV.boolss (belowT p)) (AV.intss (slotsT p)) (.sl 1 (ms.map msA)) (.val (.map none)) (.val (.map none)) (.b false))::(mapsE ms++H)/\InsOk p ms (manyC p)) (λ_ _=>False):=by
 refine aC (n:=113) Tryz.func99 λB I w0=>?_;have hm:=many_le hz;have hH:=heads_of hz;have h10:=hH.cl;have hw:=hH.world;have hW:=worldV hp;rw[wOf_yes hz,hz] at hW;refine Z11 ?_;refine oP (POp.call .k (hW)) ?_;refine Z3 ?_;refine OL.alC rfl rfl rfl rfl (λwb=>?_);refine Z6 ?_;refine CW.freezeP (d:=6) rfl (by repeat (first | exact Del.head _ _ | apply Del.tail)) ?_;refine Z5 ?_;refine CW.cond rfl (λh0=>?_) (λh0=>?_)
 ·simp at h0
 ·refine Z8 ?_;refine OL.boxC rfl rfl rfl rfl rfl rfl rfl (λxb=>?_);refine Z14 ?_;refine CW.le 9 (y:=.i (manyC p)) rfl (AVle.eqI (by unfold manyC;omega)) ?_;refine Z6 ?_;refine CW.ownNilB (b:=xb) (t:=159) 59 1 12 (by repeat (first | exact Upd.head _ _ _ | apply Upd.tail)) rfl rfl ?_;refine CW.ownNilB (b:=xb) (t:=159) 23 1 13 (by repeat (first | exact Upd.head _ _ _ | apply Upd.tail)) rfl rfl ?_;refine CW.ownNilB (b:=xb) (t:=159) 243 1 14 (by repeat (first | exact Upd.head _ _ _ | apply Upd.tail)) rfl rfl ?_;refine lj (λm st=>∃(a:Nat) (ms:List (Nat×List (Int×AV))) (v1 v2 v3:Value),st=⟨[(39,.i a),(38,.i (manyC p)),(9,.i (manyC p)),(8,.p xb 0),(2,.ptr (progC p)),(6,.ptr (Wcells (worldOf p)))],.own 243 1 v3::.own 23 1 v2::.own 59 1 v1::.blk xb 159 (engX p t (.as (AV.boolss ((belowT p).take a)) v1) (.as (AV.intss ((slotsT p).take a)) v2) (.as (.sl 1 (ms.map msA)) v3) (.val (.map none)) (.val (.map none)) (.b false))::(mapsE ms++H)⟩/\m=manyC p - a/\a<=manyC p/\InsOk p ms a) (⟨0,[],_,_,_,rfl,rfl,by omega,InsOk.nil p⟩) ?_;rintro m _ ⟨a,ms,v1,v2,v3,rfl,rfl,ha,hI⟩;refine Z6 ?_;refine cd (λh1=>?_) λh1=>?_
  ·have hal:a<manyC p:=by omega
   obtain⟨R,hR⟩:∃R,R=(belowT p).getD a default:=⟨_,rfl⟩;have hRl:R.length=manyC p:=by rw[hR,belowT_row hal];simp
   refine Z23 ?_;refine CW.ownNil 11 4 1 rfl ?_;refine lj (λm st=>∃(b:Nat) (v0:Value),st=⟨[(43,.i b),(42,.i (manyC p)),(11,.as (AV.bools (R.take b)) v0),(10,.i a),(39,.i a),(38,.i (manyC p)),(9,.i (manyC p)),(8,.p xb 0),(2,.ptr (progC p)),(6,.ptr (Wcells (worldOf p)))],.own 4 1 v0::.own 243 1 v3::.own 23 1 v2::.own 59 1 v1::.blk xb 159 (engX p t (.as (AV.boolss ((belowT p).take a)) v1) (.as (AV.intss ((slotsT p).take a)) v2) (.as (.sl 1 (ms.map msA)) v3) (.val (.map none)) (.val (.map none)) (.b false))::(mapsE ms++H)⟩/\m=manyC p - b/\b<=manyC p) (⟨0,_,rfl,rfl,by omega⟩) ?_;rintro m _ ⟨b,v0,rfl,rfl,hb⟩;refine Z6 ?_;refine cd (λh2=>?_) λh2=>?_
   ·have hbl:b<manyC p:=by omega
    have hrow:=row_at hal hbl;rw[<-hR] at hrow;refine Z15 ?_;refine oP (POp.call .k (belowC hw (class_many hal) (class_many hbl))) ?_;refine Z10 ?_;refine OL.popC (x:=.sl 1 [[.b (belowP (worldOf p) a b)]]) rfl rfl rfl (POp.row rfl rfl (by first | rfl | simp_all [strip]) rfl rfl rfl rfl rfl rfl) ?_;refine OL.appendC rfl rfl rfl rfl rfl rfl rfl rfl (AVle.refl _) (rfl) (λv=>by repeat (first | exact Upd.head _ _ _ | apply Upd.tail)) (by have h9:=h10;simp only[List.length_map,List.length_singleton,List.length_take,List.length_cons,List.length_nil,belowT_len,slotsT_len] at*;omega) (by have h9:=h10;simp only[List.length_map,List.length_singleton,List.length_take,List.length_cons,List.length_nil,belowT_len,slotsT_len] at*;omega) (λv56=>?_);refine Z8 ?_;exact ag (⟨b+1,v56,by rw[bools_take (by omega),hrow],rfl,hbl⟩)
   ·obtain rfl:b=manyC p:=by omega
    have hRt:R.take (manyC p)=R:=List.take_of_length_le (by omega);rw[hRt];refine Z6 ?_;refine CW.le 11 (y:=AV.bools R) rfl (AVle.asL _ _) ?_;refine Z7 ?_;refine OL.popC (x:=.sl 1 [[AV.bools R]]) rfl rfl rfl (POp.row rfl rfl (by first | rfl | simp_all [strip]) rfl rfl rfl rfl rfl rfl) ?_;refine OL.appendC rfl rfl rfl rfl rfl rfl rfl rfl (AVle.refl _) (rfl) (λv=>by repeat (first | exact Upd.head _ _ _ | apply Upd.tail)) (by have h9:=h10;simp only[List.length_map,List.length_singleton,List.length_take,List.length_cons,List.length_nil,belowT_len,slotsT_len] at*;omega) (by have h9:=h10;simp only[List.length_map,List.length_singleton,List.length_take,List.length_cons,List.length_nil,belowT_len,slotsT_len] at*;omega) (λv65=>?_);refine Z9 ?_;refine oP (POp.call .k (hasB hp a)) ?_;refine Z15 ?_;refine OL.popC (x:=.sl 1 [[AV.ints (if ownC p a then hasP p a else [])]]) rfl rfl rfl (POp.row rfl rfl (by first | rfl | simp_all [strip]) rfl rfl rfl rfl rfl rfl) ?_;refine OL.appendC rfl rfl rfl rfl rfl rfl rfl rfl (AVle.refl _) (rfl) (λv=>by repeat (first | exact Upd.head _ _ _ | apply Upd.tail)) (by have h9:=h10;simp only[List.length_map,List.length_singleton,List.length_take,List.length_cons,List.length_nil,belowT_len,slotsT_len] at*;omega) (by have h9:=h10;simp only[List.length_map,List.length_singleton,List.length_take,List.length_cons,List.length_nil,belowT_len,slotsT_len] at*;omega) (λv81=>?_);refine Z7 ?_;refine OL.mkMap rfl rfl rfl rfl (λmb=>?_);refine Z7 ?_;refine oP (POp.call .k (beginAll hp a)) ?_;refine Z9 ?_;obtain⟨L,hL⟩:∃L,L=(if ownC p a then beginP p a else []):=⟨_,rfl⟩;rw[<-hL];have hLk:∀x∈L,smallKey x.1:=λx hx=>by
     cases ho:ownC p a with
     | true=>rw[hL,if_pos ho] at hx;exact begin_small ho x hx
     | false=>rw[hL,if_neg (by rw[ho];decide)] at hx;cases hx
    have hLl:L.length<=100000:=by
     cases ho:ownC p a with
     | true=>rw[hL,if_pos ho];exact begin_len ho
     | false=>rw[hL,if_neg (by rw[ho];decide)];exact Nat.zero_le _
    refine Z7 ?_;refine lj (λm st=>∃(j:Nat) (l:List (Int×AV)),st=⟨[(93,.i j),(92,.i L.length),(91,AV.mvs L),(17,.val (.map (some mb))),(10,.i a),(39,.i a),(38,.i (manyC p)),(9,.i (manyC p)),(8,.p xb 0),(2,.ptr (progC p)),(6,.ptr (Wcells (worldOf p)))],imapE mb l::.own 4 1 v0::.own 243 1 v3::.own 23 1 v81::.own 59 1 v65::.blk xb 159 (engX p t (.as (.sl 1 (((belowT p).take a).map (λx=>[AV.bools x])++[[AV.bools R]])) v65) (.as (.sl 1 (((slotsT p).take a).map (λx=>[AV.ints x])++[[AV.ints (if ownC p a then hasP p a else [])]])) v81) (.as (.sl 1 (ms.map msA)) v3) (.val (.map none)) (.val (.map none)) (.b false))::(mapsE ms++H)⟩/\m=L.length - j/\j<=L.length/\MapIn l ((L.take j).map (·.1))) (⟨0,[],rfl,rfl,by omega,MapIn.nil⟩) ?_;rintro m _ ⟨j,l,rfl,rfl,hj,hM⟩;refine Z6 ?_;refine cd (λh3=>?_) λh3=>?_
    ·have hjl:j<L.length:=by omega
     obtain⟨Y,hY⟩:∃Y,Y=L.getD j default:=⟨_,rfl⟩;have hYk:smallKey Y.1:=hLk _ (hY▸getD_memB hjl);refine Z8 ?_;refine OL.alC rfl rfl rfl rfl (λib=>?_);refine Z3 ?_;rw[<-hY];refine CW.freezeP (d:=21) rfl (by repeat (first | exact Del.head _ _ | apply Del.tail)) ?_;refine Z4 ?_;refine OL.mapPut (u':=.b true) rfl rfl (.inl rfl) rfl rfl rfl rfl rfl rfl (AVle.refl _) (.head _ _ _) hM.ok hYk ?_;refine Z7 ?_;exact ag (⟨j+1,_,rfl,rfl,hjl,by rw[map_take hjl, <-hY];exact hM.put hYk⟩)
    ·obtain rfl:j=L.length:=by omega
     rw[List.take_length,hL] at hM;refine Z12 ?_;refine OL.popC (x:=.sl 1 [[.val (.map (some mb))]]) rfl rfl rfl (POp.row rfl rfl (by first | rfl | simp_all [strip]) rfl rfl rfl rfl rfl rfl) ?_;refine OL.appendC rfl rfl rfl rfl rfl rfl rfl rfl (AVle.refl _) (rfl) (λv=>by repeat (first | exact Upd.head _ _ _ | apply Upd.tail)) (by have h9:=h10;have h8:=hI.1;simp only[List.length_map,List.length_singleton,List.length_take,List.length_cons,List.length_nil,belowT_len,slotsT_len] at*;omega) (by have h9:=h10;have h8:=hI.1;simp only[List.length_map,List.length_singleton,List.length_take,List.length_cons,List.length_nil,belowT_len,slotsT_len] at*;omega) (λv108=>?_);refine Z6 ?_;refine CW.perm (perm_in [_,_,_,_,_] (mapsE ms) H) ?_;refine Z4 ?_;exact ag (⟨a+1,ms++[(mb,l)],v65,v81,v108,by rw[boolss_take hal, <-hR,intss_takeT hal,msA_snoc,maps_snoc],rfl,hal,hI.snoc hM⟩)
  ·obtain rfl:a=manyC p:=by omega
   have e1:(belowT p).take (manyC p)=belowT p:=List.take_of_length_le (by rw[belowT_len];exact Nat.le_refl _);have e2:(slotsT p).take (manyC p)=slotsT p:=List.take_of_length_le (by rw[slotsT_len];exact Nat.le_refl _);rw[e1,e2];refine Z6 ?_;refine CW.blkLe (b:=xb) (t:=159) (ds:=engX p t (AV.boolss (belowT p)) (AV.intss (slotsT p)) (.sl 1 (ms.map msA)) (.val (.map none)) (.val (.map none)) (.b false)) (by repeat (first | exact Upd.head _ _ _ | apply Upd.tail)) (by repeat (first | exact AVleL.nil | refine AVleL.cons (.refl _) ?_ | refine AVleL.cons (AVle.asL _ _) ?_)) ?_;refine Z7 ?_;refine rR [.tmp 4,.tmp 5] (.blk xb 159 (engX p t (AV.boolss (belowT p)) (AV.intss (slotsT p)) (.sl 1 (ms.map msA)) (.val (.map none)) (.val (.map none)) (.b false))::(mapsE ms++H)) ?_;exact⟨xb,ms,rfl,rfl,hI⟩
theorem openNo(hp:p.Small)(hz:(sizesP p).isSome=false)(t:Tbl):PCall Tryz.prog 99 [AV.prog p,AV.tbl t] (.tup [.val (.pointer none),.b false]):=by
 intro H;refine aC (n:=113) Tryz.func99 λB I w0=>?_;have hW:=worldV hp;rw[hz] at hW;refine Z11 ?_;refine oP (POp.call .k (hW)) ?_;refine Z3 ?_;refine OL.alC rfl rfl rfl rfl (λwb=>?_);refine Z11 ?_;refine CW.cond rfl (λh0=>?_) (λh0=>?_)
 ·refine Z8 ?_;refine rR [.tmp 4,.tmp 5] (H) ?_;exact⟨by rfl,rfl⟩
 ·simp at h0
theorem bif_and3(A B C:Bool):(bif bif A then B else false then C else false)=(A && B && C):=by cases A <;> cases B <;> rfl
theorem kindB_prog{m:Nat}(k:Int):(bif bif decide (k>=0) then k.tmod 2==0 else false then decide (k<((2^m:Nat):Int)) else false)=kindB m k:=by
 rw[bif_and3,kindB];by_cases h:0<=k
 ·have e1:(k.tmod 2==0)=decide (k%2=0):=by rw[Int.tmod_eq_emod_of_nonneg h];rfl
  have e2:((2^m:Nat):Int)=(2:Int)^m:=by simp
  rw[e1,e2]
 ·have e:decide (k>=0)=false:=by simp;omega
  rw[e];rfl
def sizesT(p:Prog)(t:Tbl):Bool:=decide (t.reached.length=p.methods.length) && decide (t.params.length=p.methods.length) && decide (t.nodes.length=p.nodes.length) && decide ((t.slots.length:Int)=p.slots)
theorem ne_dec(a b:Nat):((a:Int) !=(b:Int))= !decide (a=b):=by rw[Bool.eq_iff_iff];simp;omega
theorem sizes_bif(p:Prog)(t:Tbl):(bif bif bif (t.reached.length:Int) !=(p.methods.length:Int) then true else (t.params.length:Int) !=(p.methods.length:Int) then true else (t.nodes.length:Int) !=(p.nodes.length:Int) then true else (t.slots.length:Int) !=p.slots)= !sizesT p t:=by
 rw[ne_dec,ne_dec,ne_dec,show ((t.slots.length:Int) !=p.slots)= !decide ((t.slots.length:Int)=p.slots) by rw[Bool.eq_iff_iff];simp];unfold sizesT;cases decide (t.reached.length=p.methods.length) <;> cases decide (t.params.length=p.methods.length) <;> cases decide (t.nodes.length=p.nodes.length) <;> rfl
theorem sizesT_iff:sizesT p t=true↔t.reached.length=p.methods.length/\t.params.length=p.methods.length/\t.nodes.length=p.nodes.length/\(t.slots.length:Int)=p.slots:=by simp[sizesT,and_assoc]
def paramsT(p:Prog)(t:Tbl):Bool:=(List.range t.params.length).all (paramOk p (manyC p) t)
theorem tblOk_eq(p:Prog)(t:Tbl):tblOk p t=(sizesT p t && paramsT p t && t.nodes.all (kindB (manyC p)) && t.slots.all (kindB (manyC p))):=rfl
theorem param_bif(p:Prog)(m:Nat)(t:Tbl)(i:Nat):(bif ((t.params.getD i default).length:Int) !=p.gens.getD (p.methods.getD i default).gen.toNat default then true else !((t.params.getD i default).all (kindB m)))= !paramOk p m t i:=by
 unfold paramOk;rw[bne];cases (((t.params.getD i default).length:Int)==p.gens.getD (p.methods.getD i default).gen.toNat default) <;> rfl
theorem all_range{i:Nat}(h:(List.range i).all q=true)(h2:q i=true):(List.range (i+1)).all q=true:=by
 rw[List.range_succ,List.all_append,h,List.all_cons,h2];rfl
theorem all_rangeNo{n i:Nat}(hi:i<n)(h:q i=false):(List.range n).all q=false:=by
 rw[List.all_eq_false];exact⟨i,List.mem_range.2 hi,by rw[h];simp⟩
theorem mth_genN(hz:(sizesP p).isSome=true){i:Nat}(h:i<p.methods.length):0<=(p.methods.getD i default).gen/\(p.methods.getD i default).gen<p.gens.length:=by
 have:=mth_gen hz (n:=(i:Int)) (by unfold isMth;simp;omega);rw[show ((i:Int)).toNat=i from rfl] at this;simpa only[isGen,Bool.and_eq_true,decide_eq_true_eq] using this
theorem eng_le(M A D X:AV):AVle (.ptr (engX p t (AV.boolss (belowT p)) (AV.intss (slotsT p)) M A D X)) (AV.eng p t):=
 AVle.ptr (by repeat (first | exact AVleL.nil | refine AVleL.cons (.refl _) ?_ | refine AVleL.cons (λ_ _ v _=>.any v) ?_))
theorem fine1(hz:(sizesP p).isSome=true)(t:Tbl)(k:Int):PCall Tryz.prog 222 [.i k,.ptr [AV.eng p t]] (.b (kindB (manyC p) k)):=by
 intro H;refine aC (n:=21) Tryz.func222 λB I w0=>?_;have hm:=many_le hz;have hbl:=belowT_len p;refine Z11 ?_;refine OL.guardC rfl rfl rfl rfl rfl rfl (λhg=>POp.div rfl rfl rfl (gd hg) rfl (by omega) (.inr ⟨rfl,rfl⟩)) ?_;refine Z9 ?_;refine OL.guardC rfl rfl rfl rfl rfl rfl (λhg=>POp.shift rfl rfl rfl rfl (gd hg) (by omega) (ish_left _ ⟨by omega,by omega⟩)) ?_;refine Z6 ?_;refine r1 3 (H) ?_;exact⟨retB (by rw[hbl];exact kindB_prog k),rfl⟩
theorem allK{f:Fn}{fs cs:List AV}{q:Int->Bool}(hg:PredOk Tryz.prog (.fn f fs cs) AV.i q)(l:List Int):PCall Tryz.prog 78 [AV.ints l,.fn f fs cs] (.b (l.all q)):=by
 intro H;refine aC (n:=18) Tryz.func78 λB I w0=>?_;refine CW.boundM (t:=0) rfl (λhb0=>?_);refine Z14 ?_;refine lj (λm st=>∃k:Nat,st=⟨[(9,.i k),(8,.i l.length),(7,AV.ints l),(1,.fn f fs cs)],H⟩/\m=l.length - k/\k<=l.length/\(l.take k).all q=true) (⟨0,rfl,rfl,by simp,rfl⟩) ?_;rintro m _ ⟨k,rfl,rfl,hk,hp⟩;refine Z6 ?_;refine cd (λh0=>?_) λh0=>?_
 ·have hkl:k<l.length:=by omega
  refine Z15 ?_;refine OL.vcallC rfl rfl rfl rfl rfl rfl rfl rfl (AVleL.refl _) (hg B _ _) ?_;rintro _ H1 ⟨rfl,e⟩;replace e:=e.symm;subst e;refine Z3 ?_;refine CW.cond rfl (λh1=>?_) (λh1=>?_)
  ·have h1:q (l.getD k default)=false:=by simpa using h1
   refine Z11 ?_;refine r1 4 (H) ?_;exact⟨retB (all_no hkl h1).symm,rfl⟩
  ·have h1:q (l.getD k default)=true:=by simpa using h1
   refine Z7 ?_;exact ag (⟨k+1,rfl,rfl,hkl,all_step hkl hp h1⟩)
 ·obtain rfl:k=l.length:=by omega
  rw[List.take_length] at hp;refine Z11 ?_;refine r1 4 (H) ?_;exact⟨retB (by rw[hp]),rfl⟩
theorem fineK(hz:(sizesP p).isSome=true)(t:Tbl):PCall Tryz.prog 140 [AV.eng p t] (.b (tblOk p t)):=by
 intro H;refine aC (n:=117) Tryz.func140 λB I w0=>?_;have heq:=tblOk_eq p t;refine Z14 ?_;refine CW.dp mixed ?_;refine DP.anyC 0 12 117 rfl (by decide+kernel) rfl rfl (by decide+kernel) ?_;refine Z21 ?_;refine DP.anyC 14 26 117 rfl (by decide+kernel) rfl rfl (by decide+kernel) ?_;refine Z25 ?_;refine DP.anyC 29 41 117 rfl (by decide+kernel) rfl rfl (by decide+kernel) ?_;refine Z25 ?_;refine DP.anyC 44 55 117 rfl (by decide+kernel) rfl rfl (by decide+kernel) ?_;refine Z17 ?_;rw[sizes_bif];refine CW.cond rfl (λh0=>?_) (λh0=>?_)
 ·have h0:sizesT p t=false:=by simpa using h0
  refine Z7 ?_;refine r1 2 (H) ?_;exact⟨retB (by rw[heq,h0];rfl),rfl⟩
 ·have h0:sizesT p t=true:=by simpa using h0
  obtain⟨hr1,hr2,hr3,hr4⟩:=sizesT_iff.1 h0;rw[h0,Bool.true_and] at heq;refine Z15 ?_;refine CW.boundM (t:=68) rfl (λhb0=>?_);refine lj (λm st=>∃i:Nat,st=⟨[(70,.i i),(69,.i t.params.length),(68,AV.intss t.params),(3,.fn (.func 222) [] [.ptr [AV.eng p t]]),(1,.ptr [AV.eng p t])],H⟩/\m=t.params.length - i/\i<=t.params.length/\(List.range i).all (paramOk p (manyC p) t)=true) (⟨0,rfl,rfl,by omega,rfl⟩) ?_;rintro m _ ⟨i,rfl,rfl,hi,hA⟩;refine Z6 ?_;refine cd (λh1=>?_) λh1=>?_
  ·have hil:i<t.params.length:=by omega
   have hgn:=mth_genN hz (i:=i) (by omega);refine Z14 ?_;refine CW.dp mixed ?_;refine DP.anyC 0 18 117 rfl (by decide+kernel) rfl rfl (by decide+kernel) ?_;refine Z16 ?_;refine AD.popC rfl rfl rfl ((by first | exact POp.ixM rfl rfl rfl rfl rfl ⟨by omega,by omega⟩ | exact POp.ixI rfl rfl rfl rfl rfl ⟨by omega,by omega⟩)) ?_;refine Z10 ?_;refine DP.anyC 20 22 117 rfl (by decide+kernel) rfl rfl (by decide+kernel) ?_;refine Z4 ?_;refine OL.guardC rfl rfl rfl rfl rfl rfl (λhg=>POp.call (.mk' rfl rfl rfl rfl (by first | rfl | ((repeat (first | exact hg | rfl | refine Bool.and_eq_true_iff.2 ⟨?_,?_⟩));done) | simp_all [strip,constAV])) (allK (.of (fine1 hz t)) _)) ?_;refine Z4 ?_;rw[param_bif];refine CW.cond rfl (λh2=>?_) (λh2=>?_)
   ·have h2:paramOk p (manyC p) t i=false:=by simpa using h2
    refine Z11 ?_;refine r1 2 (H) ?_;exact⟨retB (by rw[heq,paramsT,all_rangeNo hil h2];rfl),rfl⟩
   ·have h2:paramOk p (manyC p) t i=true:=by simpa using h2
    refine Z7 ?_;exact ag (⟨i+1,rfl,rfl,hil,all_range hA h2⟩)
  ·obtain rfl:i=t.params.length:=by omega
   have hP:paramsT p t=true:=hA;rw[hP,Bool.true_and] at heq;refine Z13 ?_;refine oP (POp.call .k (allK (.of (fine1 hz t)) _)) ?_;refine Z7 ?_;refine OL.guardC rfl rfl rfl rfl rfl rfl (λhg=>POp.call (.mk' rfl rfl rfl rfl (by first | rfl | ((repeat (first | exact hg | rfl | refine Bool.and_eq_true_iff.2 ⟨?_,?_⟩));done) | simp_all [strip,constAV])) (allK (.of (fine1 hz t)) _)) ?_;refine Z5 ?_;refine r1 2 (H) ?_;exact⟨retB (by rw[heq,Bool.cond_false_right]),rfl⟩
theorem askedYes(hp:p.Small){t:Tbl}(hz:(sizesP p).isSome=true)(ht:tblOk p t=true):PCall Tryz.prog 77 [AV.prog p,AV.tbl t] (.tup [AV.eng p t,.b true]):=by
 intro H;refine aC (n:=22) Tryz.func77 λB I w0=>?_;refine Z12 ?_;refine bC .k ((openYes hp hz t _).b) ?_;rintro _ _ ⟨xb,ms,rfl,rfl,hI⟩;refine Z9 ?_;refine CW.freezeP (d:=6) rfl (by repeat (first | exact Del.head _ _ | apply Del.tail)) ?_;refine CW.le 6 (y:=AV.eng p t) rfl (eng_le _ _ _ _) ?_;refine Z5 ?_;refine OL.guardC rfl rfl rfl rfl rfl rfl (λhg=>POp.call (.mk' rfl rfl rfl rfl (by first | rfl | ((repeat (first | exact hg | rfl | refine Bool.and_eq_true_iff.2 ⟨?_,?_⟩));done) | simp_all [strip,constAV])) (fineK hz t)) ?_;refine Z4 ?_;refine CW.cond rfl (λh0=>?_) (λh0=>?_)
 ·simp[ht] at h0
 ·refine Z10 ?_;refine Done.retR (rs:=[.tmp 4,.tmp 5]) (H':=H) rfl (.tmp rfl (.tmp rfl (.nil))) (AVleL.refl _) (by exact List.sublist_append_right _ _) ?_;exact⟨by rfl,rfl⟩
theorem askedNo(hp:p.Small)(t:Tbl)(hz:(sizesP p).isSome=false):PCall Tryz.prog 77 [AV.prog p,AV.tbl t] (.tup [.val (.pointer none),.b false]):=by
 intro H;refine aC (n:=22) Tryz.func77 λB I w0=>?_;refine Z12 ?_;refine oP (POp.call .k (openNo hp hz t)) ?_;refine Z14 ?_;refine OL.guardC rfl rfl rfl rfl rfl rfl (λhg=>(absurd hg (by simp):POp _ _ _ _ (.b false))) ?_;refine Z4 ?_;refine CW.cond rfl (λh0=>?_) (λh0=>?_)
 ·refine Z8 ?_;refine rR [.tmp 4,.tmp 5] (H) ?_;exact⟨by rfl,rfl⟩
 ·simp at h0
theorem askedBad(hp:p.Small){t:Tbl}(hz:(sizesP p).isSome=true)(ht:tblOk p t=false):PCall Tryz.prog 77 [AV.prog p,AV.tbl t] (.tup [.val (.pointer none),.b false]):=by
 intro H;refine aC (n:=22) Tryz.func77 λB I w0=>?_;refine Z12 ?_;refine bC .k ((openYes hp hz t _).b) ?_;rintro _ _ ⟨xb,ms,rfl,rfl,hI⟩;refine Z9 ?_;refine CW.freezeP (d:=6) rfl (by repeat (first | exact Del.head _ _ | apply Del.tail)) ?_;refine CW.le 6 (y:=AV.eng p t) rfl (eng_le _ _ _ _) ?_;refine Z5 ?_;refine OL.guardC rfl rfl rfl rfl rfl rfl (λhg=>POp.call (.mk' rfl rfl rfl rfl (by first | rfl | ((repeat (first | exact hg | rfl | refine Bool.and_eq_true_iff.2 ⟨?_,?_⟩));done) | simp_all [strip,constAV])) (fineK hz t)) ?_;refine Z4 ?_;refine CW.cond rfl (λh0=>?_) (λh0=>?_)
 ·refine Z8 ?_;refine Done.retR (rs:=[.tmp 4,.tmp 5]) (H':=H) rfl (.tmp rfl (.tmp rfl (.nil))) (AVleL.refl _) (by exact List.sublist_append_right _ _) ?_;exact⟨by rfl,rfl⟩
 ·simp[ht] at h0
theorem methods_le(hz:(sizesP p).isSome=true):p.methods.length<=1000:=by
 obtain⟨o,ho⟩:=Option.isSome_iff_exists.1 hz;have:=(sizes_parts ho).2.1;simp only[headP,Bool.and_eq_true,decide_eq_true_eq] at this;omega
theorem tblOk_parts(h:tblOk p t=true):SlotsOk p t/\(t.slots.length:Int)=p.slots/\sizesT p t=true:=by
 rw[tblOk_eq] at h;simp only[Bool.and_eq_true] at h;exact⟨List.all_eq_true.1 h.2,(sizesT_iff.1 h.1.1.1).2.2.2,h.1.1.1⟩
theorem mths_two{p:Prog}:∀(l:List Mth) (o:List Int),(methodsN p l o).isSome=true->∀m∈l,mth2 p m=true
 | x::r,o,h,m,hm=>by
  rw[methodsN] at h;split at h
  ·rename_i hx;rw[Bool.and_eq_true] at hx;rcases List.mem_cons.1 hm with rfl | hm
   ·exact hx.2
   ·cases hv:(visit p (nextM x) 13 (bodyV p x) o).2 with
    | none=>rw[hv] at h;cases h
    | some o1=>rw[hv] at h;exact mths_two r o1 h m hm
  ·cases h
theorem mth_fact(hz:(sizesP p).isSome=true){n:Int}(hn:isMth p n=true){l:List Int}(hl:(l.length:Int)=argsM p n):FOk p l (p.methods.getD n.toNat default).fact:=by
 obtain⟨o,ho⟩:=Option.isSome_iff_exists.1 hz;obtain⟨o1,hm,_⟩:=(sizes_parts ho).2.2.2;have hn2:=hn;simp only[isMth,Bool.and_eq_true,decide_eq_true_eq] at hn2;have h2:=mths_two _ _ (by rw[hm];rfl) _ (getD_memB (l:=p.methods) (k:=n.toNat) (by omega));simp only[mth2,Bool.and_eq_true,decide_eq_true_eq] at h2;exact⟨(formed_wf h2.1.2).1,by rw[hl];exact h2.2⟩
theorem rHasB(k c:Nat)(hk:k<9223372036854775808):PCall Tryz.prog 147 [.i k,.i c] (.b (k.testBit c)):=by
 intro H;refine aC (n:=10) Tryz.func147 λB I w0=>?_;refine Z9 ?_;refine oP (POp.shift rfl rfl rfl rfl rfl (by omega) (ish_right k c)) ?_;refine oP (POp.bits rfl rfl rfl rfl rfl (ibit_and _ 1 (by have:=Nat.div_le_self k (2^min (c:Int).toNat 64);omega) (by decide))) ?_;refine Z5 ?_;refine r1 4 (H) ?_;exact⟨retB (ihas_bit k c hk),rfl⟩
theorem kindB_ref{m:Nat}(k:Int):(bif bif decide (k>=0) then decide (k<((2^m:Nat):Int)) else false then k.tmod 2==0 else false)=kindB m k:=by
 rw[<-kindB_prog];cases decide (k>=0) <;> cases decide (k<((2^m:Nat):Int)) <;> cases (k.tmod 2==0) <;> rfl
theorem rKindB(hz:(sizesP p).isSome=true)(k:Int):PCall Tryz.prog 151 [AV.prog p,.i k] (.b (kindB (manyC p) k)):=by
 intro H;refine aC (n:=21) Tryz.func151 λB I w0=>?_;have hm:=many_le hz;have he:(3+(p.classes.length:Int))=manyC p:=by unfold manyC;omega
 have hcl:(p.classes.length:Int)<=13:=by omega
 refine Z16 ?_;refine OL.guardC rfl rfl rfl rfl rfl rfl (λhg=>POp.shift rfl rfl rfl rfl (gd hg) (by omega) (ish_left _ ⟨by omega,by omega⟩)) ?_;refine Z4 ?_;refine OL.guardC rfl rfl rfl rfl rfl rfl (λhg=>POp.div rfl rfl rfl (gd hg) rfl (by omega) (.inr ⟨rfl,rfl⟩)) ?_;refine Z6 ?_;refine r1 4 (H) ?_;exact⟨retB (by rw[he];exact kindB_ref k),rfl⟩
theorem rKindsB(hz:(sizesP p).isSome=true)(l:List Int):PCall Tryz.prog 89 [AV.prog p,AV.ints l] (.b (l.all (kindB (manyC p)))):=by
 intro H;refine aC (n:=19) Tryz.func89 λB I w0=>?_;refine CW.boundM (t:=1) rfl (λhb0=>?_);refine Z13 ?_;refine lj (λm st=>∃k:Nat,st=⟨[(5,.i k),(1,AV.ints l),(2,.ptr (progC p))],H⟩/\m=l.length - k/\k<=l.length/\(l.take k).all (kindB (manyC p))=true) (⟨0,rfl,rfl,by omega,rfl⟩) ?_;rintro m _ ⟨k,rfl,rfl,hk,hA⟩;refine Z9 ?_;refine cd (λh0=>?_) λh0=>?_
 ·have hkl:k<l.length:=by omega
  refine Z5 ?_;refine CW.dp mixed ?_;refine DP.anyC 0 5 19 rfl (by decide+kernel) rfl rfl (by decide+kernel) ?_;refine Z7 ?_;refine oP (POp.call .k (rKindB hz _)) ?_;refine Z3 ?_;refine CW.cond rfl (λh1=>?_) (λh1=>?_)
  ·have h1:kindB (manyC p) (l.getD k default)=false:=by simpa using h1
   refine Z11 ?_;refine r1 4 (H) ?_;exact⟨retB (all_no hkl h1).symm,rfl⟩
  ·have h1:kindB (manyC p) (l.getD k default)=true:=by simpa using h1
   refine Z8 ?_;exact ag (⟨k+1,rfl,rfl,hkl,all_step hkl hA h1⟩)
 ·obtain rfl:k=l.length:=by omega
  rw[List.take_length] at hA;refine Z11 ?_;refine r1 4 (H) ?_;exact⟨retB (by rw[hA]),rfl⟩
theorem rGoodT(hz:(sizesP p).isSome=true)(t:Tbl):PCall Tryz.prog 83 [AV.prog p,AV.tbl t] (.b (tblOk p t)):=by
 intro H;refine aC (n:=83) Tryz.func83 λB I w0=>?_;have heq:=tblOk_eq p t;have hml:=methods_le hz;refine Z45 ?_;rw[sizes_bif];refine CW.cond rfl (λh0=>?_) (λh0=>?_)
 ·have h0:sizesT p t=false:=by simpa using h0
  refine Z7 ?_;refine r1 4 (H) ?_;exact⟨retB (by rw[heq,h0];rfl),rfl⟩
 ·have h0:sizesT p t=true:=by simpa using h0
  obtain⟨hr1,hr2,hr3,hr4⟩:=sizesT_iff.1 h0;rw[h0,Bool.true_and] at heq;refine Z9 ?_;refine lj (λm st=>∃i:Nat,st=⟨[(5,.i i),(3,.ptr (tblA t)),(2,.ptr (progC p))],H⟩/\m=t.params.length - i/\i<=t.params.length/\(List.range i).all (paramOk p (manyC p) t)=true) (⟨0,rfl,rfl,by omega,rfl⟩) ?_;rintro m _ ⟨i,rfl,rfl,hi,hA⟩;refine Z10 ?_;refine cd (λh1=>?_) λh1=>?_
  ·have hil:i<t.params.length:=by omega
   have hgn:=mth_genN hz (i:=i) (by omega);refine Z5 ?_;refine CW.dp mixed ?_;refine DP.anyC 0 16 83 rfl (by decide+kernel) rfl rfl (by decide+kernel) ?_;refine Z14 ?_;refine AD.popC rfl rfl rfl ((by first | exact POp.ixM rfl rfl rfl rfl rfl ⟨by omega,by omega⟩ | exact POp.ixI rfl rfl rfl rfl rfl ⟨by omega,by omega⟩)) ?_;refine Z10 ?_;refine DP.anyC 18 24 83 rfl (by decide+kernel) rfl rfl (by decide+kernel) ?_;refine Z8 ?_;refine OL.guardC rfl rfl rfl rfl rfl rfl (λhg=>POp.call (.mk' rfl rfl rfl rfl (by first | rfl | ((repeat (first | exact hg | rfl | refine Bool.and_eq_true_iff.2 ⟨?_,?_⟩));done) | simp_all [strip,constAV])) (rKindsB hz _)) ?_;refine Z4 ?_;rw[param_bif];refine CW.cond rfl (λh2=>?_) (λh2=>?_)
   ·have h2:paramOk p (manyC p) t i=false:=by simpa using h2
    refine Z11 ?_;refine r1 4 (H) ?_;exact⟨retB (by rw[heq,paramsT,all_rangeNo hil h2];rfl),rfl⟩
   ·have h2:paramOk p (manyC p) t i=true:=by simpa using h2
    refine Z8 ?_;exact ag (⟨i+1,rfl,rfl,hil,all_range hA h2⟩)
  ·obtain rfl:i=t.params.length:=by omega
   have hP:paramsT p t=true:=hA;rw[hP,Bool.true_and] at heq;refine Z10 ?_;refine oP (POp.call .k (rKindsB hz _)) ?_;refine Z4 ?_;refine OL.guardC rfl rfl rfl rfl rfl rfl (λhg=>POp.call (.mk' rfl rfl rfl rfl (by first | rfl | ((repeat (first | exact hg | rfl | refine Bool.and_eq_true_iff.2 ⟨?_,?_⟩));done) | simp_all [strip,constAV])) (rKindsB hz _)) ?_;refine Z5 ?_;refine r1 4 (H) ?_;exact⟨retB (by rw[heq,Bool.cond_false_right]),rfl⟩
end Go.Proofs.YtogjaoodkaahoaaGreat
