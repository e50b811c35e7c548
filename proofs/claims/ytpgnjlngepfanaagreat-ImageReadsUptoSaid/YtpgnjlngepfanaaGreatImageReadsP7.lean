/- Part 7 of the proof: contracts of functions of the program and what they need. No condition beyond those that each theorem names. -/
import Derived.Test.YtpgnjlngepfanaaGreatImageReadsP6
set_option maxHeartbeats 1000000
set_option linter.unusedVariables false
set_option linter.unusedSimpArgs false
set_option maxRecDepth 10000
namespace Go.Proofs.YtpgnjlngepfanaaGreat
open Go.Eng
open Go.Eng.Fc
open Go.Eng.Bd
variable{l:List Int}{v:Int}{k i s off j:Nat}{W:FW}{U U':List Nat}
def idxP(l:List Int)(v:Int):Int:=match l.findIdx? (λx=>x==v) with | some i=>(i:Int) | none=>-1
theorem idxP_at(hk:k<l.length)(hp:∀x∈l.take k,x≠v)(h:v=l.getD k default):(k:Int)=idxP l v:=by
 have e:l.findIdx? (λx=>x==v)=some k:=by
  rw[List.findIdx?_eq_some_iff_getElem];refine⟨hk,?_,λj hj=>?_⟩
  ·rw[h,List.getD_eq_getElem?_getD,List.getElem?_eq_getElem hk];simp
  ·have:=hp (l[j]'Yd) YaX;simpa using this
 rw[idxP,e]
theorem idxP_none(hp:∀x∈l,x≠v):(-1:Int)=idxP l v:=by
 have e:l.findIdx? (λx=>x==v)=none:=by
  rw[List.findIdx?_eq_none_iff];intro x hx;simpa using hp x hx
 rw[idxP,e]
theorem idxP_contains(l:List Int)(v:Int):decide (idxP l v>=0)=l.contains v:=by
 unfold idxP;cases h:l.findIdx? (λx=>x==v) with
 | none=>
  rw[List.findIdx?_eq_none_iff] at h;symm;simp;intro hx;have:=h v hx;simp at this
 | some i=>
  rw[List.findIdx?_eq_some_iff_getElem] at h;obtain⟨hi,h1,_⟩:=h;symm;simp;have:l[i]=v:=by simpa using h1
  rw[<-this];exact List.getElem_mem hi
theorem ne_step(hk:k<l.length)(hp:∀x∈l.take k,x≠v)(h:v≠l.getD k default):∀x∈l.take (k+1),x≠v:=by
 rw[<-take_getD hk];intro x hx;rcases List.mem_append.1 hx with hx | hx
 ·exact hp x hx
 ·simp at hx;rw[hx];intro e;apply h;simp[e]
theorem p100(l:List Int)(v:Int):PCall Tryz.prog 103 [AV.ints l,.i v] (.i (idxP l v)):=by
 intro H;refine aC (n:=19) Tryz.func103 λB I w0=>?_;refine CW.boundM (t:=0) rfl (λhb0=>?_);refine Z14 ?_;refine lj (λm st=>∃k:Nat,st=⟨[(8,.i k),(7,.i l.length),(0,AV.ints l),(1,.i v)],H⟩/\m=l.length - k/\k<=l.length/\∀x∈l.take k,x≠v) (⟨0,rfl,rfl,Yx,Yx⟩) ?_;rintro m _ ⟨k,rfl,rfl,hk,hp⟩;refine Z6 ?_;refine cd (λh0=>?_) λh0=>?_
 ·refine Z20 ?_;refine cd (λh1=>?_) λh1=>?_
  ·refine Z12 ?_;refine r1 4 (H) ?_;exact⟨retI (idxP_at Yd hp h1),rfl⟩
  ·refine Z7 ?_;exact ag (⟨k+1,rfl,rfl,Yd,ne_step Yd hp h1⟩)
 ·refine Z11 ?_;refine r1 4 (H) ?_;exact⟨retI (idxP_none Yah),rfl⟩
theorem p33(l:List Int)(v:Int):PCall Tryz.prog 38 [AV.ints l,.i v] (.b (l.contains v)):=by
 intro H;refine aC (n:=9) Tryz.func38 λB I w0=>?_;refine Z9 ?_;refine oP (POp.call .k ((p100 _ _))) ?_;refine Z5 ?_;refine r1 4 (H) ?_;exact⟨retB (idxP_contains _ _),rfl⟩
def U0(k:Nat):List Nat:=[1,3,5].take k++List.replicate (63 - k) 0
theorem U0_set(h:k<3):(U0 k).set k (1 ||| 2^(k:Int).toNat)=U0 (k+1):=by
 have:k=0\/k=1\/k=2:=by omega
 rcases this with rfl | rfl | rfl <;> rfl
theorem U0_len(h:k<=3):(U0 k).length=63:=by simp[U0];omega
theorem up_set'(h:i<U.length)(hU:U.set i s=U'):(Wcells W++U.map λs=>AV.set s).take (2+i)++[AV.set s]++(Wcells W++U.map λs=>AV.set s).drop (2+i+1)=Wcells W++U'.map λs=>AV.set s:=hU▸up_set h
theorem up_fit(ho:off=2+i)(h:i<U.length):Nat.ble (off+1) (Wcells W++U.map λs=>AV.set s).length=true:=by
 subst ho;rw[Nat.ble_eq];simp[Wcells];omega
theorem world_big(h:(bif decide ((W.parents.length:Int)>60) then true else decide ((W.owner.length:Int)>40))=true):worldP W=false:=by
 rw[bif_or] at h;simp only[Bool.or_eq_true,decide_eq_true_eq] at h;unfold worldP;rcases h with h | h
 ·have:decide (W.parents.length<=60)=false:=by simp;omega
  simp[this]
 ·have:decide (W.owner.length<=40)=false:=by simp;omega
  simp[this]
theorem world_small(h:(bif decide ((W.parents.length:Int)>60) then true else decide ((W.owner.length:Int)>40))=false):W.parents.length<=60/\W.owner.length<=40:=by
 rw[bif_or] at h;simp only[Bool.or_eq_false_iff,decide_eq_false_iff_not] at h;omega
theorem world_val(h:W.parents.length<=60/\W.owner.length<=40):worldP W=(parentssP 0 W.parents && W.owner.all (ownP W)):=by
 simp[worldP,h.1,h.2]
theorem parents_step{l:List (List Int)}(hk:k<l.length):parentssP k (l.drop k)=(parentsP k [] (l.getD k default) && parentssP (k+1) (l.drop (k+1))):=by
 rw[List.drop_eq_getElem_cons hk,parentssP,List.getD_eq_getElem?_getD,List.getElem?_eq_getElem hk];rfl
theorem ups_step{l:List (List Int)}(U:List Nat)(hk:k<l.length):upsFrom (l.drop k) k U=upsFrom (l.drop (k+1)) (k+1) (U.set (3+k) (upFold U k (l.getD k default))):=by
 rw[List.drop_eq_getElem_cons hk,upsFrom,List.getD_eq_getElem?_getD,List.getElem?_eq_getElem hk];rfl
theorem parent_step(hj:j<l.length):parentsP i (l.take j) (l.drop j)=(!(decide (l.getD j default<3) || decide (l.getD j default>=3+i) || (l.take j).contains (l.getD j default)) && parentsP i (l.take (j+1)) (l.drop (j+1))):=by
 rw[List.drop_eq_getElem_cons hj,parentsP, <-take_getD hj,List.getD_eq_getElem?_getD,List.getElem?_eq_getElem hj];rfl
theorem getD_lt{α:Type}[Inhabited α]{l:List α}{j:Nat}(h:j<l.length):l.getD j default=l[j]:=by rw[List.getD_eq_getElem?_getD,List.getElem?_eq_getElem h];rfl
theorem up_get'(ho:off=2+i)(h:i<U.length):(Wcells W++U.map λs=>AV.set s)[off]? =some (AV.set (U.getD i 0)):=ho▸up_get h
theorem up_setO(ho:off=2+i)(h:i<U.length)(hU:U.set i s=U'):(Wcells W++U.map λs=>AV.set s).take off++[AV.set s]++(Wcells W++U.map λs=>AV.set s).drop (off+1)=Wcells W++U'.map λs=>AV.set s:=ho▸up_set' h hU
theorem fold_step(hj:j<l.length):(l.drop j).foldl (λs (p:Int)=>s ||| U.getD p.toNat 0) s=(l.drop (j+1)).foldl (λs (p:Int)=>s ||| U.getD p.toNat 0) (s ||| U.getD (l.getD j default).toNat 0):=by
 rw[List.drop_eq_getElem_cons hj,List.foldl_cons,getD_lt hj]
theorem parent_ok{r:Bool}(hj:j<l.length)(hp:parentsP k (l.take j) (l.drop j)=r)(h:(bif bif decide (l.getD j default<3) then true else decide (3+(k:Int)<=l.getD j default) then true else (l.take j).contains (l.getD j default))=false):
  3<=l.getD j default/\l.getD j default<3+k/\parentsP k (l.take (j+1)) (l.drop (j+1))=r:=by
 rw[bif_or,bif_or] at h;have h0:=h;simp only[Bool.or_eq_false_iff,decide_eq_false_iff_not] at h0;refine⟨Yd,Yd,?_⟩;rw[parent_step hj] at hp;have e:(decide (l.getD j default<3) || decide (l.getD j default>=3+(k:Int)) || (l.take j).contains (l.getD j default))=false:=h;rw[e] at hp;simpa using hp
theorem parent_no{r:Bool}(hj:j<l.length)(hp:parentsP k (l.take j) (l.drop j)=r)(h:(bif bif decide (l.getD j default<3) then true else decide (3+(k:Int)<=l.getD j default) then true else (l.take j).contains (l.getD j default))=true):r=false:=by
 rw[bif_or,bif_or] at h;rw[parent_step hj] at hp;have e:(decide (l.getD j default<3) || decide (l.getD j default>=3+(k:Int)) || (l.take j).contains (l.getD j default))=true:=h;rw[e] at hp;simpa using hp.symm
theorem world_parent_no(hW:W.parents.length<=60/\W.owner.length<=40)(hk:k<W.parents.length)(hpar:parentssP k (W.parents.drop k)=parentssP 0 W.parents)(h:parentsP k [] (W.parents.getD k default)=false):worldP W=false:=by
 rw[parents_step hk,h] at hpar;rw[world_val hW, <-hpar];rfl
theorem u_get(hU:∀x∈U,x<18446744073709551616)(i:Nat):U.getD i 0<18446744073709551616:=by
 rw[List.getD_eq_getElem?_getD];by_cases h:i<U.length
 ·rw[List.getElem?_eq_getElem h];exact hU _ (List.getElem_mem h)
 ·rw[List.getElem?_eq_none Yd];decide
theorem u_set(hU:∀x∈U,x<18446744073709551616){i s:Nat}(hs:s<18446744073709551616):∀x∈U.set i s,x<18446744073709551616:=by
 intro x hx;rcases List.mem_or_eq_of_mem_set hx with h | h
 ·exact hU x h
 ·exact h▸hs
theorem or64{s t:Nat}(hs:s<18446744073709551616)(ht:t<18446744073709551616):s ||| t<18446744073709551616:=Nat.or_lt_two_pow (n:=64) hs ht
theorem pow64(h:k<64):2^k<18446744073709551616:=Nat.pow_lt_pow_right (a:=2) (n:=64) Yd h
theorem p105(W:FW):PCall Tryz.prog 250 [AV.world W] (.tup [if worldP W then Wptr W else .one,.b (worldP W)]):=by
 intro H;refine aC (n:=91) Tryz.func250 λB I w0=>?_;refine CW.boundA (t:=0) (i:=0) rfl rfl (λhb0=>?_);refine CW.boundA (t:=0) (i:=1) rfl rfl (λhb1=>?_);refine Z22 ?_;refine CW.cond rfl (λh0=>?_) (λh0=>?_)
 ·have hw:worldP W=false:=world_big h0;refine Z8 ?_;refine Done.retR (rs:=[.tmp 2,.tmp 3]) (H':=H) rfl (.tmp rfl (.tmp rfl (.nil))) (.cons (AVle.one rfl (λ_ h=>by cases h)) (.cons (AVle.refl _) .nil)) Yb ?_;exact⟨by rw[hw];rfl,rfl⟩
 ·have hW:=world_small h0;refine Z6 ?_;refine OL.boxC rfl rfl rfl rfl rfl rfl rfl (λb0=>?_);refine Z10 ?_;refine lj (λm st=>∃k:Nat,st=⟨[(24,.i k),(4,.p b0 0),(1,.ptr (Wcells W))],.blk b0 309 (Wcells W++(U0 k).map λs=>AV.set s)::H⟩/\m=3 - k/\k<=3) (⟨0,rfl,rfl,Yd⟩) ?_;rintro m _ ⟨k,rfl,rfl,hk⟩;refine Z6 ?_;refine cd (λh1=>?_) λh1=>?_
  ·refine Z10 ?_;refine CW.dp mixed ?_;refine DP.anyC 0 6 91 rfl Ye rfl rfl Ye ?_;refine Z3 ?_;refine AD.popC rfl rfl rfl (POp.call .k (p151 1 k Yd Yd)) ?_;refine Z5 ?_;apply OL.stoC rfl rfl rfl rfl rfl rfl rfl rfl rfl rfl
   (case hu=>repeat (first | exact Upd.head _ _ _ | apply Upd.tail));(case hfit=>exact up_fit (i:=k) Yx (by rw[U0_len hk];omega));(case hds=>exact up_setO (i:=k) Yx (by rw[U0_len hk];omega) (U0_set Yd))
   refine Z7 ?_;exact ag (⟨k+1,rfl,rfl,Yd⟩)
  ·obtain rfl:k=3:=by omega
   refine Z15 ?_;refine lj (λm st=>∃(k:Nat) (U:List Nat),st=⟨[(38,.i k),(37,.i W.parents.length),(36,AV.intss W.parents),(4,.p b0 0),(1,.ptr (Wcells W))],.blk b0 309 (Wcells W++U.map λs=>AV.set s)::H⟩/\m=W.parents.length - k/\k<=W.parents.length/\U.length=63/\(∀x∈U,x<18446744073709551616)/\upsFrom (W.parents.drop k) k U=upsP W/\parentssP k (W.parents.drop k)=parentssP 0 W.parents) (⟨0,U0 3,rfl,rfl,Yd,rfl,YJ,rfl,rfl⟩) ?_;rintro m _ ⟨k,U,rfl,rfl,hk,hlen,hU,hup,hpar⟩;refine Z6 ?_;refine cd (λh2=>?_) λh2=>?_
   ·refine Z17 ?_;refine oP (POp.call .k (p151 1 (3+k) Yd Yd)) ?_;refine Z5 ?_;refine CW.boundM (t:=7) rfl (λhbl=>?_);refine Z7 ?_;refine lj (λm st=>∃(j s:Nat),st=⟨[(48,.i j),(47,.i (W.parents.getD k default).length),(46,AV.ints (W.parents.getD k default)),(8,AV.set s),(6,.i k),(7,AV.ints (W.parents.getD k default)),(38,.i k),(37,.i W.parents.length),(36,AV.intss W.parents),(4,.p b0 0),(1,.ptr (Wcells W))],.blk b0 309 (Wcells W++U.map λs=>AV.set s)::H⟩/\m=(W.parents.getD k default).length - j/\j<=(W.parents.getD k default).length/\s<18446744073709551616/\((W.parents.getD k default).drop j).foldl (λs (p:Int)=>s ||| U.getD p.toNat 0) s=upFold U k (W.parents.getD k default)/\parentsP k ((W.parents.getD k default).take j) ((W.parents.getD k default).drop j)=parentsP k [] (W.parents.getD k default)) (⟨0,1 ||| 2^((3:Int)+k).toNat,rfl,rfl,Yd,or64 Yd (pow64 Yd),by rw[show ((3:Int)+k).toNat=3+k from by omega];rfl,rfl⟩) ?_;rintro m _ ⟨j,s,rfl,rfl,hj,hs,hf,hp⟩;refine Z6 ?_;refine cd (λh3=>?_) λh3=>?_
    ·refine Z27 ?_;refine OL.guardC rfl rfl rfl rfl rfl rfl (λhg=>POp.slTo rfl rfl Y2 rfl Y2 Yd) ?_;refine Z1 ?_;refine OL.guardC rfl rfl rfl rfl rfl rfl (λhg=>POp.call (.mk' rfl rfl rfl rfl Yc) (p33 _ _)) ?_;refine Z3 ?_;refine cd (λh4=>?_) λh4=>?_
     ·have hw:worldP W=false:=world_parent_no hW Yd hpar (parent_no Yd hp h4);refine Z18 ?_;refine Done.retR (rs:=[.tmp 2,.tmp 3]) (H':=H) rfl (.tmp rfl (.tmp rfl (.nil))) (.cons (AVle.one rfl (λ_ h=>by cases h)) (.cons (AVle.refl _) .nil)) Yb ?_;exact⟨by rw[hw];rfl,rfl⟩
     ·obtain⟨hp0,hp1,hp2⟩:=parent_ok Yd hp h4;refine Z9 ?_;refine oP ((by first | exact POp.ld1 rfl rfl rfl rfl | (apply POp.ld1H rfl rfl rfl;(case hm=>repeat (first | exact .head _ | refine .tail _ ?_));(case hy=>exact up_get' (i:=((W.parents.getD k default).getD j default).toNat) Yd Yd)))) ?_;refine oP (POp.bits rfl rfl rfl rfl rfl (bit_or _ _ hs (u_get hU _))) ?_;refine Z8 ?_;exact ag (⟨j+1,s ||| U.getD ((W.parents.getD k default).getD j default).toNat 0,rfl,rfl,Yd,or64 hs (u_get hU _),by rw[<-fold_step Yd];exact hf,hp2⟩)
    ·obtain rfl:j=(W.parents.getD k default).length:=by omega
     rw[List.drop_length,List.foldl_nil] at hf;rw[List.drop_length,List.take_length,parentsP] at hp;subst hf;refine Z13 ?_;apply OL.stoC rfl rfl rfl rfl rfl rfl rfl rfl rfl rfl
     (case hu=>repeat (first | exact Upd.head _ _ _ | apply Upd.tail));(case hfit=>exact up_fit (i:=3+k) Yd Yd);(case hds=>exact up_setO (i:=3+k) Yd Yd rfl)
     refine Z7 ?_;exact ag (⟨k+1,U.set (3+k) (upFold U k (W.parents.getD k default)),rfl,rfl,Yd,by simp[hlen],u_set hU hs,by rw[<-ups_step U Yd];exact hup,by rw[parents_step Yd, <-hp] at hpar;simpa using hpar⟩)
   ·obtain rfl:k=W.parents.length:=by omega
    rw[List.drop_length,upsFrom] at hup;subst hup;rw[List.drop_length,parentssP] at hpar;refine Z6 ?_;refine CW.freezeP (d:=4) rfl Yl ?_;refine Z6 ?_;refine oP (POp.call .k (p152 (.of (λx=>p153 W x hW.1)) W.owner)) ?_;refine Z5 ?_;refine Done.retR (rs:=[.tmp 2,.tmp 3]) (H':=H) rfl (.tmp rfl (.tmp rfl (.nil))) (.cons (AVle.ite1 (c:=worldP W=true) rfl (λ_ h=>by cases h)) (.cons (AVle.refl _) .nil)) Yb ?_;exact⟨by rw[world_val hW, <-hpar];rfl,rfl⟩
theorem p105t(h:worldP W=true):PCall Tryz.prog 250 [AV.world W] (.tup [Wptr W,.b true]):=by have:=p105 W;rwa [if_pos h,h] at this
theorem p105f(h:worldP W=false):PCall Tryz.prog 250 [AV.world W] (.tup [.one,.b false]):=by have:=p105 W;rwa [if_neg YC,h] at this
theorem world_len(h:worldP W=true):W.parents.length<=60:=by simp[worldP] at h;exact h.1.1.1
theorem world_own(h:worldP W=true):W.owner.length<=40:=by simp[worldP] at h;exact h.1.1.2
theorem p80t(h:worldP W=true)(l:List Fact):PCall Tryz.prog 229 [AV.world W,AV.facts l] (.tup [Wptr W,.b (l.all (formedP W))]):=by
 intro H;refine aC (n:=20) Tryz.func229 λB I w0=>?_;have hW:=world_len h;refine Z10 ?_;refine oP (POp.call .k (p105t h)) ?_;refine Z14 ?_;refine OL.guardC rfl rfl rfl rfl rfl rfl (λhg=>POp.call (.mk' rfl rfl rfl rfl Yc) (p131 W hW l)) ?_;refine Z6 ?_;refine rR [.tmp 4,.tmp 5] (H) ?_;exact⟨Yg,rfl⟩
theorem p80f(h:worldP W=false)(l:List Fact):PCall Tryz.prog 229 [AV.world W,AV.facts l] (.tup [.one,.b false]):=by
 intro H;refine aC (n:=20) Tryz.func229 λB I w0=>?_;refine Z10 ?_;refine oP (POp.call .k (p105f h)) ?_;refine Z14 ?_;refine OL.guardC (x:=.b false) rfl rfl rfl rfl rfl rfl (λhg=>absurd hg Yx) ?_;refine Z6 ?_;refine rR [.tmp 4,.tmp 5] (H) ?_;exact⟨Yg,rfl⟩
theorem refused(b:Bool):PCall Tryz.prog 230 [.b b] (.i (if b then 0 else 2)):=by
 intro H;refine aC (n:=5) Tryz.func230 λB I w0=>?_;refine Z12 ?_;refine cd (λh0=>?_) λh0=>?_
 ·refine Z7 ?_;refine r1 2 (H) ?_;exact⟨retI YA,rfl⟩
 ·refine Z8 ?_;refine r1 2 (H) ?_;exact⟨retI YA,rfl⟩
theorem factFormedT{W:Fc.FW}(h:worldP W=true)(f:Fact):PCall Tryz.prog 202 [AV.world W,AV.fact f] (.i (if formedP W f then 0 else 2)):=by
 intro H;refine aC (n:=16) Tryz.func202 λB I w0=>?_;refine Z11 ?_;refine oP (POp.rowK [(_,AV.fact f)] rfl rfl (by first | rfl | simp_all) rfl rfl rfl rfl rfl) ?_;refine oP (POp.callLe .k (.cons (.refl _) (.cons (AVle_facts [f] YaJ) .nil)) (by have:=p80t h [f];rwa [List.all_cons,List.all_nil,Bool.and_true] at this)) ?_;refine Z10 ?_;refine oP (POp.call .k ((refused _))) ?_;refine Z4 ?_;refine r1 4 (H) ?_;exact⟨Yg,rfl⟩
theorem factFormedF{W:Fc.FW}(h:worldP W=false)(f:Fact):PCall Tryz.prog 202 [AV.world W,AV.fact f] (.i 2):=by
 intro H;refine aC (n:=16) Tryz.func202 λB I w0=>?_;refine Z11 ?_;refine oP (POp.rowK [(_,AV.fact f)] rfl rfl (by first | rfl | simp_all) rfl rfl rfl rfl rfl) ?_;refine oP (POp.callLe .k (.cons (.refl _) (.cons (AVle_facts [f] YaJ) .nil)) (p80f h [f])) ?_;refine Z10 ?_;refine oP (POp.call .k ((refused _))) ?_;refine Z4 ?_;refine r1 4 (H) ?_;exact⟨Yg,rfl⟩
theorem keepI{f:Fn}{fs cs:List AV}{p:Int->Bool}(hg:PredOk Tryz.prog (.fn f fs cs) AV.i p)(l:List Int)(hl:l.length<=1000000):PCall Tryz.prog 303 [AV.ints l,.fn f fs cs] (AV.ints (l.filter p)):=by
 intro H;refine aC (n:=23) Tryz.func303 λB I w0=>?_;refine Z12 ?_;refine CW.ownNil 5 3 1 rfl ?_;refine Z7 ?_;refine lj (λm st=>∃(i:Nat) (v:Value),st=⟨[(10,.i i),(9,.i l.length),(8,AV.ints l),(1,.fn f fs cs),(5,.as (AV.ints ((l.take i).filter p)) v)],.own 3 1 v::H⟩/\m=l.length - i/\i<=l.length) (⟨0,_,rfl,rfl,Yd⟩) ?_;rintro m _ ⟨i,v,rfl,rfl,hi⟩;refine Z6 ?_;refine cd (λh0=>?_) λh0=>?_
 ·have hil:i<l.length:=by omega
  refine Z15 ?_;refine OL.vcallC rfl rfl rfl rfl rfl rfl rfl rfl (AVleL.refl _) (hg B _ _) ?_;rintro _ _ ⟨rfl,rfl⟩;refine Z2 ?_;refine cd (λh1=>?_) λh1=>?_
  ·refine Z3 ?_;refine OL.popC (x:=.sl 1 [[.i (l.getD i default)]]) rfl rfl rfl (POp.row rfl rfl Yh rfl rfl rfl rfl rfl rfl) ?_;refine OL.appendC rfl rfl rfl rfl rfl rfl rfl rfl (AVle.refl _) (rfl) (λv=>by repeat (first | exact Upd.head _ _ _ | apply Upd.tail)) Yaf Yaf (λv20=>?_);refine Z8 ?_;exact ag (⟨i+1,v20,by rw[filter_yes hil h1],rfl,hil⟩)
  ·refine Z7 ?_;exact ag (⟨i+1,v,by rw[filter_no hil h1],rfl,hil⟩)
 ·obtain rfl:i=l.length:=by omega
  rw[List.take_length];refine Z12 ?_;refine Done.retR (rs:=[.tmp 4]) (H':=H) rfl (.tmp rfl (.nil)) (.cons (AVle.asL _ _) .nil) Yb ?_;exact⟨Yg,rfl⟩
theorem bare1(n:Int):PCall Tryz.prog 308 [.i n] (.b (n !=0)):=by
 intro H;refine aC (n:=5) Tryz.func308 λB I w0=>?_;refine Z13 ?_;refine r1 2 (H) ?_;exact⟨Yg,rfl⟩
theorem bareC(l:List Int)(hl:l.length<=1000000):PCall Tryz.prog 302 [AV.ints l] (AV.ints (bareL l)):=by
 intro H;refine aC (n:=5) Tryz.func302 λB I w0=>?_;refine Z8 ?_;refine oP (POp.call .k (keepI (.of bare1) l hl)) ?_;refine Z4 ?_;refine r1 2 (H) ?_;exact⟨Yg,rfl⟩
theorem merge1(h n:Int):PCall Tryz.prog 304 [.i n,.ptr [.i h]] (.b (n !=h)):=by
 intro H;refine aC (n:=7) Tryz.func304 λB I w0=>?_;refine Z14 ?_;refine r1 3 (H) ?_;exact⟨Yg,rfl⟩
theorem mergeC(all:List (List Int))(ht:total all<=1000)(hl:all.length<=1000):PCall Tryz.prog 288 [AV.intss all] (.tup [AV.ints (mergeP all).1,.b (mergeP all).2]):=by
 intro H;refine aC (n:=66) Tryz.func288 λB I w0=>?_;refine Z6 ?_;refine CW.scope ?_;refine Z6 ?_;refine CW.label ?_;refine Z2 ?_;refine CW.ownNil 4 3 1 rfl ?_;refine lj (λm st=>∃(A:List (List Int)) (out:List Int) (n:Nat) (v:Value),st=⟨[(0,AV.intss A),(4,.as (AV.ints out) v)],.own 3 1 v::H⟩/\m=n/\total A<n/\mergeN n A out=mergeP all/\total A+out.length<=total all/\A.length=all.length) (⟨all,[],total all+1,_,rfl,rfl,Yd,rfl,Yx,rfl⟩) ?_;rintro m _ ⟨A,out,n,v,rfl,rfl,hn,hm,hto,hA⟩;obtain⟨n,rfl⟩:∃q,m=q+1:=⟨m - 1,Yd⟩;refine Z1 ?_;refine CW.scope ?_;refine Z6 ?_;refine CW.label ?_;refine Z10 ?_;refine lj (λm st=>∃(i:Nat) (lf:Bool),st=⟨[(16,.i i),(15,.i A.length),(14,AV.intss A),(5,.b lf),(0,AV.intss A),(4,.as (AV.ints out) v)],.own 3 1 v::H⟩/\m=A.length - i/\i<=A.length/\lf= !((A.take i).all List.isEmpty)/\nextH A A=nextH A (A.drop i)) (⟨0,false,rfl,rfl,Yd,rfl,rfl⟩) ?_;rintro m _ ⟨i,lf,rfl,rfl,hi,hlf,hnx⟩;refine Z6 ?_;refine cd (λh0=>?_) λh0=>?_
 ·have hil:i<A.length:=by omega
  obtain⟨L,hL⟩:∃L,L=A.getD i default:=⟨_,rfl⟩;have hdr:=drop_getD hil;rw[<-hL] at hdr;have hLt:=len_total A i hil;rw[<-hL] at hLt;refine Z13 ?_;rw[<-hL];refine Z6 ?_;refine cd (λh1=>?_) λh1=>?_
  ·have hLe:L= []:=List.eq_nil_of_length_eq_zero Yd;refine Z8 ?_;exact ag (⟨i+1,lf,rfl,rfl,hil,by rw[all_takeB hil, <-hL,hLe,hlf];simp,by rw[hnx,hdr,next_nil hLe]⟩)
  ·have hLn:0<L.length:=by omega
   refine Z16 ?_;refine lj (λm st=>∃j:Nat,st=⟨[(25,.i j),(24,.i A.length),(23,AV.intss A),(7,AV.ints L),(16,.i i),(15,.i A.length),(14,AV.intss A),(5,.b true),(0,AV.intss A),(4,.as (AV.ints out) v)],.own 3 1 v::H⟩/\m=A.length - j/\j<=A.length/\((A.take j).any λm=>m.tail.contains (L.getD 0 default))=false) (⟨0,rfl,rfl,Yd,rfl⟩) ?_;rintro m _ ⟨j,rfl,rfl,hj,hany⟩;refine Z6 ?_;refine cd (λh2=>?_) λh2=>?_
   ·have hjl:j<A.length:=by omega
    obtain⟨M,hM⟩:∃M,M=A.getD j default:=⟨_,rfl⟩;refine Z12 ?_;rw[<-hM];refine CW.dp mixed ?_;refine Z16 ?_;refine DP.anyC 4 9 66 rfl Ye rfl rfl Ye ?_;refine Z1 ?_;refine AD.guardC rfl rfl rfl rfl rfl (λhg=>POp.slFrom (n:=1) rfl rfl Y2 rfl Y2 (by have:=of_decide_eq_true hg;omega)) ?_;refine Z5 ?_;refine OL.guardC rfl rfl rfl rfl rfl rfl (λhg=>POp.call (.mk' rfl rfl rfl rfl Yc) ((sContains _ _))) ?_;refine Z3 ?_;refine cd (λh3=>?_) λh3=>?_
    ·refine Z12 ?_;exact ag (⟨i+1,true,rfl,rfl,hil,by rw[all_takeB hil, <-hL,len_empty hLn,Bool.and_false];rfl,by rw[hnx,hdr,next_no hLn (by rw[headOk_any,any_getD hjl (by rw[<-hM];exact head_in h3)];rfl)]⟩)
    ·refine Z7 ?_;exact ag (⟨j+1,rfl,rfl,hjl,by rw[any_takeB hjl,hany, <-hM,head_out h3];rfl⟩)
   ·obtain rfl:j=A.length:=by omega
    rw[List.take_length] at hany;obtain⟨h,hh⟩:∃h,h=L.getD 0 default:=⟨_,rfl⟩;rw[<-hh] at hany;have hsome:nextH A A=some h:=by rw[hnx,hdr,next_yes hLn (by rw[headOk_any, <-hh,hany];rfl),hh]
    have hlt:=total_lt h A i hil (by rw[<-hL,hh];exact getD_memB hLn);have hle:=total_dropH h A;refine Z10 ?_;refine OL.alC rfl rfl rfl rfl (λb0=>?_);refine Z4 ?_;refine CW.freezeP (d:=10) rfl Yl ?_;rw[<-hh];refine Z3 ?_;refine OL.popC (x:=.sl 1 [[.i h]]) rfl rfl rfl (POp.row rfl rfl Yh rfl rfl rfl rfl rfl rfl) ?_;refine OL.appendC rfl rfl rfl rfl rfl rfl rfl rfl (AVle.refl _) (rfl) (λv=>by repeat (first | exact Upd.head _ _ _ | apply Upd.tail)) Yr Yr (λv47=>?_);refine Z10 ?_;refine CW.ownNil 11 23 1 rfl ?_;refine Z7 ?_;refine lj (λm st=>∃(k:Nat) (w:Value),st=⟨[(50,.i k),(49,.i A.length),(48,AV.intss A),(11,.as (AV.intss (dropH h (A.take k))) w),(10,.ptr [.i h]),(4,.as (.sl 1 ((out.map λn=>[AV.i n])++[[AV.i h]])) v47)],.own 23 1 w::.own 3 1 v47::H⟩/\m=A.length - k/\k<=A.length) (⟨0,_,rfl,rfl,Yd⟩) ?_;rintro m _ ⟨k,w,rfl,rfl,hk⟩;refine Z6 ?_;refine cd (λh4=>?_) λh4=>?_
    ·have hkl:k<A.length:=by omega
     have hkt:=len_total A k hkl;refine Z15 ?_;refine oP (POp.call .k (keepI (.of (merge1 h)) (A.getD k default) Yd)) ?_;refine OL.popC (x:=.sl 1 [[AV.ints ((A.getD k default).filter (· !=h))]]) rfl rfl rfl (POp.row rfl rfl Yh rfl rfl rfl rfl rfl rfl) ?_;refine OL.appendC rfl rfl rfl rfl rfl rfl rfl rfl (AVle.refl _) (rfl) (λv=>by repeat (first | exact Upd.head _ _ _ | apply Upd.tail)) YL YL (λv59=>?_);refine Z8 ?_;exact ag (⟨k+1,v59,by rw[dropH_snoc _ hkl],rfl,hkl⟩)
    ·obtain rfl:k=A.length:=by omega
     rw[List.take_length];refine Z6 ?_;refine CW.le 11 (y:=AV.intss (dropH h A)) rfl (AVle.asL _ _) ?_;refine Z11 ?_;refine Done.scopeX ?_;refine Z1 ?_;exact ag (⟨dropH h A,out++[h],n,v47,by rw[ints_snoc],rfl,Yd,by rw[<-hm,merge_some hsome],YaL,by rw[dropH_len,hA]⟩)
 ·obtain rfl:i=A.length:=by omega
  rw[List.drop_length] at hnx;rw[List.take_length] at hlf;refine Z15 ?_;refine Done.scopeR ?_;refine Z3 ?_;refine Done.scopeR ?_;refine Done.retR (rs:=[.tmp 2,.tmp 3]) (H':=H) rfl (.tmp rfl (.tmp rfl (.nil))) (.cons (AVle.asL _ _) (.cons (.refl _) .nil)) Yb ?_;exact⟨by rw[<-hm,merge_none hnx,hlf,Bool.not_not];rfl,rfl⟩
theorem lsWith(s:Nat)(c:Int)(hc:0<=c/\c<64)(hs:s<18446744073709551616):PCall Tryz.prog 270 [.agg [AV.set s],.i c] (.agg [AV.set (s ||| 2^c.toNat)]):=by
 intro H;refine aC (n:=12) Tryz.func270 λB I w0=>?_;refine Z2 ?_;refine OL.boxC rfl rfl rfl rfl rfl rfl rfl (λb0=>?_);refine OL.alC rfl rfl rfl rfl (λb1=>?_);refine Z3 ?_;refine CW.dp mixed ?_;refine DP.anyC 0 4 12 rfl Ye rfl rfl Ye ?_;refine Z3 ?_;refine AD.popC rfl rfl rfl (POp.shift rfl rfl rfl rfl rfl hc.1 (sh_left _ hc)) ?_;refine Z2 ?_;refine oP (POp.bits rfl rfl rfl rfl rfl (bit_or _ _ hs (Nat.pow_lt_pow_right (a:=2) (n:=64) Yd Yd))) ?_;refine Z11 ?_;refine rR [.cell 4 303] (H) ?_;exact⟨Yg,rfl⟩
theorem lsOr(s t:Nat)(hs:s<18446744073709551616)(ht:t<18446744073709551616):PCall Tryz.prog 271 [.agg [AV.set s],.agg [AV.set t]] (.agg [AV.set (s ||| t)]):=by
 intro H;refine aC (n:=12) Tryz.func271 λB I w0=>?_;refine Z2 ?_;refine OL.boxC rfl rfl rfl rfl rfl rfl rfl (λb0=>?_);refine Z1 ?_;refine OL.alC rfl rfl rfl rfl (λb1=>?_);refine Z8 ?_;refine oP (POp.bits rfl rfl rfl rfl rfl (bit_or _ _ hs ht)) ?_;refine Z11 ?_;refine rR [.cell 4 303] (H) ?_;exact⟨Yg,rfl⟩
end Go.Proofs.YtpgnjlngepfanaaGreat

namespace Go.Eng.Bd
open Go.Eng.Fc
variable{p:Prog}{next fails:Bool}{f:Nat}{out:List Int}{c:Go.Eng.Ctx}{env:List (Nat×AV)}{H H':List Ent}{Q:Exit->Act->World->Prop}
structure Vis where
 n:Int
 sz:Int
 dp:Int
abbrev plcA(x:Vis):AV:=.agg [.i x.sz,.i x.dp]
def goodN(p:Prog)(next:Bool)(x:Nd)(sz:Int):Bool:=
 numP p x sz && (next || x.op !=18) && (match kindOf x.op with
  | none=>false
  | some none=>(x.kids.length:Int)==p.gens.getD x.n.toNat default
  | some (some k)=>x.kids.length==k)
def placeOk(p:Prog)(x:Vis)(out:List Int):Bool:=decide (0<=x.n) && decide (x.n<p.nodes.length) && decide (out.getD x.n.toNat default<0) && decide (x.dp<=12)
def ndOf(p:Prog)(x:Vis):Nd:=p.nodes.getD x.n.toNat default
def okV(p:Prog)(next:Bool)(x:Vis)(out:List Int):Bool:=placeOk p x out && goodN p next (ndOf p x) x.sz
def setV(out:List Int)(x:Vis):List Int:=out.set x.n.toNat x.sz
def kidV(x:Vis)(op:Int)(i:Nat)(k:Int):Vis:=⟨k,if op=9/\i=1 then x.sz+1 else x.sz,x.dp+1⟩
def kidsV(x:Vis)(op:Int):Nat->List Int->List Vis
 | _,[]=>[]
 | i,k::r=>kidV x op i k::kidsV x op (i+1) r
def visitsW(v:Vis->List Int->List Vis×Option (List Int)):List Vis->List Int->List Vis×Option (List Int)
 | [],out=>([],some out)
 | y::r,out=>match v y out with
  | (l,none)=>(l,none)
  | (l,some o)=>(l++(visitsW v r o).1,(visitsW v r o).2)
def visit(p:Prog)(next:Bool):Nat->Vis->List Int->List Vis×Option (List Int)
 | 0,x,out=>([x],none)
 | f+1,x,out=>if okV p next x out then
   (x::(visitsW (visit p next f) (kidsV x (ndOf p x).op 0 (ndOf p x).kids) (setV out x)).1,(visitsW (visit p next f) (kidsV x (ndOf p x).op 0 (ndOf p x).kids) (setV out x)).2)
  else ([x],none)
theorem visitsW_append(v:Vis->List Int->List Vis×Option (List Int)):∀(a b:List Vis) (o:List Int) {l:List Vis} {o':List Int},visitsW v a o=(l,some o')->visitsW v (a++b) o=(l++(visitsW v b o').1,(visitsW v b o').2)
 | [],b,o,l,o',h=>by simp only[visitsW,Prod.mk.injEq,Option.some.injEq] at h;obtain⟨rfl,rfl⟩:=h;simp
 | y::r,b,o,l,o',h=>by
  rw[List.cons_append];simp only[visitsW] at h ⊢;rcases hv:v y o with⟨l1,_ | o1⟩
  ·rw[hv] at h;simp at h
  ·rw[hv] at h;simp only[Prod.mk.injEq] at h;obtain⟨rfl,h2⟩:=h;have:=visitsW_append v r b o1 (l:=(visitsW v r o1).1) (o':=o') (Prod.ext rfl h2);simp only[this,List.append_assoc]
theorem kidsV_len(x:Vis)(op:Int):∀(i:Nat) (l:List Int),(kidsV x op i l).length=l.length
 | _,[]=>rfl
 | i,k::r=>by rw[kidsV,List.length_cons,kidsV_len x op (i+1) r,List.length_cons]
theorem kidsV_drop(x:Vis)(op:Int):∀(i j:Nat) (l:List Int),(kidsV x op i l).drop j=kidsV x op (i+j) (l.drop j)
 | _,_,[]=>by simp[kidsV]
 | i,0,k::r=>rfl
 | i,j+1,k::r=>by rw[kidsV,List.drop_succ_cons,kidsV_drop x op (i+1) j r,List.drop_succ_cons,show i+1+j=i+(j+1) by omega]
theorem visit_no{x:Vis}(h:okV p next x out=false):visit p next f x out=([x],none):=by
 cases f with
 | zero=>rfl
 | succ f=>rw[visit,if_neg (by rw[h];simp)]
theorem visit_yes{x:Vis}(h:okV p next x out=true):visit p next (f+1) x out=(x::(visitsW (visit p next f) (kidsV x (ndOf p x).op 0 (ndOf p x).kids) (setV out x)).1,(visitsW (visit p next f) (kidsV x (ndOf p x).op 0 (ndOf p x).kids) (setV out x)).2):=by
 rw[visit,if_pos h]
theorem visit_ne(f:Nat)(x:Vis)(out:List Int):(visit p next f x out).1≠ []:=by
 cases h:okV p next x out with
 | false=>rw[visit_no h];simp
 | true=>
  cases f with
  | zero=>simp[visit]
  | succ f=>rw[visit_yes h];simp
theorem visitsW_ne{v:Vis->List Int->List Vis×Option (List Int)}(hv:∀x o,(v x o).1≠ []):∀(l:List Vis) (o:List Int),(visitsW v l o).2=none->(visitsW v l o).1≠ []
 | [],o,h=>by simp[visitsW] at h
 | y::r,o,h=>by
  simp only[visitsW] at h ⊢;have:=hv y o;rcases hq:v y o with⟨l1,_ | o1⟩
  ·rw[hq] at this;exact this
  ·rw[hq] at this;intro e;exact this (List.append_eq_nil_iff.1 e).1
theorem perm_kid{α:Type}(b:α)(A:List α)(W:α)(X:List α):(b::(A++(W::X))).Perm (A++(W::b::X)):=by
 have:=(List.perm_middle (a:=b) (l₁:=A++[W]) (l₂:=X)).symm;simpa using this
theorem visit_head(f:Nat)(x:Vis)(out:List Int):∃t,(visit p next f x out).1=x::t:=by
 cases h:okV p next x out with
 | false=>rw[visit_no h];exact⟨[],rfl⟩
 | true=>
  cases f with
  | zero=>exact⟨[],rfl⟩
  | succ f=>rw[visit_yes h];exact⟨_,rfl⟩
theorem visit_pre{x:Vis}{pre rest L:List Vis}(hL:pre++(visit p next f x out).1++rest=L):pre++[x]<+:L:=by
 obtain⟨t,ht⟩:=visit_head (p:=p) (next:=next) f x out;rw[<-hL,ht];exact⟨t++rest,Yx⟩
theorem visit_last{x:Vis}{pre rest L:List Vis}(hL:pre++(visit p next f x out).1++rest=L)(hn2:(visit p next f x out).2≠none->fails=true->rest≠ [])(hf:fails=true)(h:pre++[x]=L):(visit p next f x out).2=none:=by
 obtain⟨t,ht⟩:=visit_head (p:=p) (next:=next) f x out;cases hv:(visit p next f x out).2 with
 | none=>rfl
 | some o=>
  exfalso;have h1:=hn2 (by rw[hv];simp) hf;rw[<-hL,ht,List.append_assoc] at h;have h2:=List.append_cancel_left h;simp only[List.cons_append,List.cons.injEq,true_and] at h2;exact h1 (List.append_eq_nil_iff.1 h2.symm).2
theorem visit_ok{x:Vis}{pre rest L:List Vis}(hdf:x.dp+f=14)(hL:pre++(visit p next f x out).1++rest=L)(hn1:(visit p next f x out).2=none->rest= []/\fails=true)(hlast:pre++[x]=L->fails=false):
  okV p next x out=true/\∃f',f=f'+1:=by
 have hok:okV p next x out=true:=by
  cases hv:okV p next x out with
  | true=>rfl
  | false=>
   exfalso;have e:=visit_no (f:=f) hv;obtain⟨h1,h2⟩:=hn1 (by rw[e]);rw[e,h1,List.append_nil] at hL;rw[hlast hL] at h2;cases h2
 refine⟨hok,?_⟩;cases f with
 | succ f=>exact⟨f,rfl⟩
 | zero=>
  exfalso;simp only[okV,placeOk,Bool.and_eq_true,decide_eq_true_eq] at hok;omega
theorem okV_place{x:Vis}(h:okV p next x out=true):0<=x.n/\x.n<p.nodes.length:=by
 simp only[okV,placeOk,Bool.and_eq_true,decide_eq_true_eq] at h;exact⟨h.1.1.1.1,h.1.1.1.2⟩
theorem kid_step{v:Vis->List Int->List Vis×Option (List Int)}(hv:∀x o,(v x o).1≠ []){ks:List Vis}{i:Nat}{y:Vis}{s o:List Int}{l:List Vis}(hd:ks.drop i=y::ks.drop (i+1))(h:visitsW v (ks.take i) s=(l,some o)):
  ∃R,(visitsW v ks s).1=l++((v y o).1++R)/\((v y o).2=none->R= []/\(visitsW v ks s).2=none)/\(∀o',(v y o).2=some o'->visitsW v (ks.take (i+1)) s=(l++(v y o).1,some o')/\((visitsW v ks s).2=none->R≠ [])):=by
 have hall:visitsW v ks s=(l++(visitsW v (ks.drop i) o).1,(visitsW v (ks.drop i) o).2):=by
  have:=visitsW_append v (ks.take i) (ks.drop i) s h;rwa [List.take_append_drop] at this
 rw[hd] at hall;have hlt:i<ks.length:=by
  rcases Nat.lt_or_ge i ks.length with h1 | h1
  ·exact h1
  ·rw[List.drop_of_length_le h1] at hd;cases hd
 have hti:ks.take (i+1)=ks.take i++[y]:=by
  have:ks.drop i=ks[i]::ks.drop (i+1):=List.drop_eq_getElem_cons hlt;rw[this] at hd;rw[List.take_succ_eq_append_getElem hlt,(List.cons.inj hd).1]
 have hone:=visitsW_append v (ks.take i) [y] s h;simp only[visitsW] at hall;rcases hq:v y o with⟨l1,_ | o1⟩
 ·rw[hq] at hall;refine⟨[],by rw[hall];simp,λ_=>⟨rfl,by rw[hall]⟩,λo' h=>(by cases h)⟩
 ·rw[hq] at hall;refine⟨(visitsW v (ks.drop (i+1)) o1).1,by rw[hall],λh=>(by cases h),λo' h=>?_⟩;cases h;refine⟨?_,λh=>?_⟩
  ·rw[hti,hone];simp[visitsW,hq]
  ·rw[hall] at h;exact visitsW_ne hv _ _ h
theorem kidsV_get(x:Vis)(op:Int){l:List Int}{i:Nat}(h:i<l.length):(kidsV x op 0 l).drop i=kidV x op i (l.getD i default)::(kidsV x op 0 l).drop (i+1):=by
 rw[kidsV_drop,kidsV_drop,Nat.zero_add,Nat.zero_add,drop_getD h,kidsV]
theorem kid_args{x y:Vis}{out o:List Int}{pre rest L l R:List Vis}{W:List Vis×Option (List Int)}(hvy:visit p next (f+1) x out=(x::W.1,W.2))(hL:pre++(visit p next (f+1) x out).1++rest=L)
  (hn1:(visit p next (f+1) x out).2=none->rest= []/\fails=true) (hn2:(visit p next (f+1) x out).2≠none->fails=true->rest≠ []) (hR:W.1=l++((visit p next f y o).1++R)) (hR1:(visit p next f y o).2=none->R= []/\W.2=none) (hR2:∀o':List Int,(visit p next f y o).2=some o'->(W.2=none->R≠ [])):
  (pre++x::l)++(visit p next f y o).1++(R++rest)=L/\((visit p next f y o).2=none->R++rest= []/\fails=true)/\((visit p next f y o).2≠none->fails=true->R++rest≠ []):=by
 rw[hvy] at hL hn1 hn2;refine⟨by rw[<-hL,hR];simp,λh=>?_,λh hf he=>?_⟩
 ·obtain⟨h1,h2⟩:=hR1 h;obtain⟨h3,h4⟩:=hn1 h2;exact⟨by rw[h1,h3];rfl,h4⟩
 ·obtain⟨o',ho⟩:=Option.ne_none_iff_exists'.1 h;obtain⟨e1,e2⟩:=List.append_eq_nil_iff.1 he;cases hw:W.2 with
  | none=>exact hR2 o' ho hw e1
  | some q=>exact hn2 (by simp[hw]) hf e2
theorem CW.subH{r:Option Nat}{P:Program}{code:Code}(hH:H'.Sublist H)(h:CW c r P code ⟨env,H'⟩ Q):CW c r P code ⟨env,H⟩ Q:=λa w s=>h a w (s.weaken (λ_ _ h=>h) hH)
theorem Done.subH{e:Exit}(hH:H'.Sublist H)(h:Done c ⟨env,H'⟩ e Q):Done c ⟨env,H⟩ e Q:=λa w s=>h a w (s.weaken (λ_ _ h=>h) hH)
theorem drop_kid{α:Type}(A:List α)(W b:α)(X:List α):(A++(W::X)).Sublist (A++(W::b::X)):=.append_left (.cons_cons _ (.cons _ (.refl _))) _
end Go.Eng.Bd

namespace Go.Proofs.YtpgnjlngepfanaaGreat
open Go.Eng
open Go.Eng.Fc
open Go.Eng.Bd
variable{fs cs:List AV}{Jp:AV->List Ent->Prop}
abbrev walkF(wb:Nat)(G:AV)(p:Prog):AV:=.fn (.func 228) [] [.ptr [G],.ptr (progC p),.p wb 0]
abbrev walkE(wb:Nat)(G:AV)(p:Prog):Ent:=.blk wb 260 [walkF wb G p]
def WalkC(B:Nat)(p:Prog)(next:Bool)(G:AV)(L:List Vis)(fails:Bool)(J:List Vis->List Ent->Prop)(Jp:AV->List Ent->Prop)(wb:Nat)(f:Nat):Prop:=
 ∀(x:Vis) (out:List Int) (pre rest:List Vis) (H0 Hx:List Ent),x.dp+f=14->1<=x.dp->-1000<=x.sz/\x.sz<=1000+x.dp->pre++(visit p next f x out).1++rest=L->((visit p next f x out).2=none->rest= []/\fails=true)->((visit p next f x out).2≠none->fails=true->rest≠ [])->J pre H0->
  BCall B Tryz.prog 228 [.i x.n,plcA x,.ptr [G],.ptr (progC p),.p wb 0] (H0++(walkE wb G p::Hx)) (λy H'=>y= .b true/\(visit p next f x out).2≠none/\∃H1,H'=H1++(walkE wb G p::Hx)/\J (pre++(visit p next f x out).1) H1)
   (λy H'=>(visit p next f x out).2=none/\∃H1,H'=H1++(walkE wb G p::Hx)/\Jp y H1)
theorem walk_step{B:Nat}{p:Prog}{next:Bool}{g:Fn}{L:List Vis}{fails:Bool}{J:List Vis->List Ent->Prop}(hcb:CbP B Tryz.prog (.fn g fs cs) (λx=>.i x.n) plcA L fails J Jp)(hcon:∀y H,Jp y H->∃v,y.Const v)
  {wb f:Nat} (ih:∀f',f=f'+1->WalkC B p next (.fn g fs cs) L fails J Jp wb f'):WalkC B p next (.fn g fs cs) L fails J Jp wb f:=by
 intro x out pre rest H0 Hx hdf hdp hsz hL hn1 hn2 hJ;refine BCall.of (n:=55) Tryz.func228 rfl Yf rfl rfl (λI w0=>?_);refine Z12 ?_;refine OL.vcall rfl rfl rfl rfl rfl rfl rfl (AVleL.refl _) (hcb pre x H0 (walkE wb (.fn g fs cs) p::Hx) (visit_pre hL) hJ) ?_ ?_
 ·rintro _ _ ⟨H1,rfl,rfl,hlast,hJ1⟩;obtain⟨hok,f',rfl⟩:=visit_ok hdf hL hn1 hlast;obtain⟨hp0,hp1⟩:=okV_place hok;obtain⟨K,hK⟩:∃K,K=ndOf p x:=⟨_,rfl⟩;have hvy:=visit_yes (f:=f') hok;rw[<-hK] at hvy;refine Z3 ?_;refine CW.cond rfl (λh0=>?_) (λh0=>?_)
  ·simp at h0
  ·replace h0:=nm h0;refine Z8 ?_;refine oP (YY) ?_;refine Z7 ?_;rw[show p.nodes.getD x.n.toNat default=K from hK.symm];refine CW.boundM (t:=21) rfl (λhb21=>?_);refine lj (λm st=>∃(i:Nat) (l:List Vis) (o:List Int) (H1:List Ent),st=⟨[(23,.i i),(22,.i K.kids.length),(21,AV.ints K.kids),(6,.ptr [.i x.sz,.i x.dp]),(0,.i x.n),(2,.ptr [.fn g fs cs]),(3,.ptr (progC p)),(4,.p wb 0)],H1++(walkE wb (.fn g fs cs) p::Hx)⟩/\m=K.kids.length - i/\i<=K.kids.length/\visitsW (visit p next f') ((kidsV x K.op 0 K.kids).take i) (setV out x)=(l,some o)/\J (pre++x::l) H1) (⟨0,[],setV out x,H1,rfl,rfl,Yd,rfl,hJ1⟩) ?_;rintro m _ ⟨i,l,o,H1,rfl,rfl,hi,hvs,hJ1⟩;refine Z6 ?_;refine cd (λh1=>?_) λh1=>?_
   ·have hil:i<K.kids.length:=by omega
    obtain⟨R,hR,hR1,hR2⟩:=kid_step (visit_ne (p:=p) (next:=next) f') (kidsV_get x K.op hil) hvs;obtain⟨hA1,hA2,hA3⟩:=kid_args hvy hL hn1 hn2 hR hR1 (λo' h=>(hR2 o' h).2);refine Z21 ?_;refine OL.alC rfl rfl rfl rfl (λtb=>?_);refine Z9 ?_;refine oP (YY) ?_;refine Z9 ?_;refine cd (λh2=>?_) λh2=>?_
    ·refine Z9 ?_;refine CW.perm (H':=H1++(walkE wb (.fn g fs cs) p::.blk tb 228 [.i (kidV x K.op i (K.kids.getD i default)).sz,.i (kidV x K.op i (K.kids.getD i default)).dp]::Hx)) (by rw[show (kidV x K.op i (K.kids.getD i default)).sz=x.sz+1 from by rw[show (p.nodes.getD x.n.toNat default).op=K.op by rw[hK];rfl] at h2;simp at h2;simp only[kidV];rw[if_pos Yd]];exact perm_kid _ _ _ _) ?_;refine Z1 ?_;refine oP (Y1) ?_;refine Z1 ?_;refine oP (Yae) ?_;refine OL.bcall rfl rfl .k (ih f' rfl (kidV x K.op i (K.kids.getD i default)) o (pre++x::l) (R++rest) H1 (.blk tb 228 [.i (kidV x K.op i (K.kids.getD i default)).sz,.i (kidV x K.op i (K.kids.getD i default)).dp]::Hx) YaE YaE Ybi hA1 hA2 hA3 hJ1) ?_ ?_
     ·rintro _ _ ⟨rfl,hne,H2,rfl,hJ2⟩;obtain⟨o',ho⟩:=Option.ne_none_iff_exists'.1 hne;obtain⟨hs',_⟩:=hR2 o' ho;refine Z3 ?_;refine CW.cond rfl (λh3=>?_) (λh3=>?_)
      ·simp at h3
      ·replace h3:=nm h3;refine Z3 ?_;refine CW.subH (drop_kid _ _ _ _) ?_;refine Z4 ?_;exact ag (⟨i+1,l++(visit p next f' (kidV x K.op i (K.kids.getD i default)) o).1,o',H2,YaJ,rfl,hil,hs',by simpa using hJ2⟩)
     ·rintro y H3 ⟨hno,H2,rfl,hq⟩ a w s I v hv;obtain⟨v0,hc⟩:=hcon _ _ hq;rw[hc.is _ _ _ hv];exact outP (P:=Tryz.prog) (fn:=Tryz.f228) hc (drop_kid _ _ _ _) ⟨by rw[hvy];exact (hR1 hno).2,H2,rfl,hq⟩ a w s
    ·refine Z3 ?_;refine CW.perm (H':=H1++(walkE wb (.fn g fs cs) p::.blk tb 228 [.i (kidV x K.op i (K.kids.getD i default)).sz,.i (kidV x K.op i (K.kids.getD i default)).dp]::Hx)) (by rw[show (kidV x K.op i (K.kids.getD i default)).sz=x.sz from by rw[show (p.nodes.getD x.n.toNat default).op=K.op by rw[hK];rfl] at h2;simp at h2;simp only[kidV];rw[if_neg Yd]];exact perm_kid _ _ _ _) ?_;refine Z1 ?_;refine oP (Y1) ?_;refine Z1 ?_;refine oP (Yae) ?_;refine OL.bcall rfl rfl .k (ih f' rfl (kidV x K.op i (K.kids.getD i default)) o (pre++x::l) (R++rest) H1 (.blk tb 228 [.i (kidV x K.op i (K.kids.getD i default)).sz,.i (kidV x K.op i (K.kids.getD i default)).dp]::Hx) YaE YaE Ybi hA1 hA2 hA3 hJ1) ?_ ?_
     ·rintro _ _ ⟨rfl,hne,H2,rfl,hJ2⟩;obtain⟨o',ho⟩:=Option.ne_none_iff_exists'.1 hne;obtain⟨hs',_⟩:=hR2 o' ho;refine Z3 ?_;refine CW.cond rfl (λh4=>?_) (λh4=>?_)
      ·simp at h4
      ·replace h4:=nm h4;refine Z3 ?_;refine CW.subH (drop_kid _ _ _ _) ?_;refine Z4 ?_;exact ag (⟨i+1,l++(visit p next f' (kidV x K.op i (K.kids.getD i default)) o).1,o',H2,YaJ,rfl,hil,hs',by simpa using hJ2⟩)
     ·rintro y H3 ⟨hno,H2,rfl,hq⟩ a w s I v hv;obtain⟨v0,hc⟩:=hcon _ _ hq;rw[hc.is _ _ _ hv];exact outP (P:=Tryz.prog) (fn:=Tryz.f228) hc (drop_kid _ _ _ _) ⟨by rw[hvy];exact (hR1 hno).2,H2,rfl,hq⟩ a w s
   ·obtain rfl:i=K.kids.length:=by omega
    have hvs2:visitsW (visit p next f') (kidsV x K.op 0 K.kids) (setV out x)=(l,some o):=by rwa [List.take_of_length_le (by rw[kidsV_len];omega)] at hvs
    rw[hvs2] at hvy;refine Z11 ?_;refine Done.retR (rs:=[.tmp 7]) rfl (.tmp rfl (.nil)) (AVleL.refl _) Yb ?_;exact⟨Yg,by rw[hvy];simp,H1,rfl,by rw[hvy];exact hJ1⟩
 ·rintro y H2 ⟨H1,rfl,hlast,hf,hq⟩ a w s I v hv;obtain⟨v0,hc⟩:=hcon _ _ hq;rw[hc.is _ _ _ hv];exact outP (P:=Tryz.prog) (fn:=Tryz.f228) hc (.refl _) ⟨visit_last hL hn2 hf hlast,H1,rfl,hq⟩ a w s
theorem walkAll{B:Nat}{p:Prog}{next:Bool}{g:Fn}{fs cs:List AV}{L:List Vis}{fails:Bool}{J:List Vis->List Ent->Prop}{Jp:AV->List Ent->Prop}(hcb:CbP B Tryz.prog (.fn g fs cs) (λx=>.i x.n) plcA L fails J Jp)(hcon:∀y H,Jp y H->∃v,y.Const v)(wb:Nat):
  ∀f,WalkC B p next (.fn g fs cs) L fails J Jp wb f
 | 0=>walk_step hcb hcon (λf' h=>by omega)
 | f+1=>walk_step hcb hcon (λf' h=>by(obtain rfl:f'=f:=by omega);exact walkAll hcb hcon wb f')
theorem below1{B:Nat}{p:Prog}{next:Bool}{g:Fn}{x:Vis}{out:List Int}{J:List Vis->List Ent->Prop}(hx:x.dp=1)(hsz: -1000<=x.sz/\x.sz<=1001)(hcon:∀y H,Jp y H->∃v,y.Const v)
  (hcb:CbP B Tryz.prog (.fn g fs cs) (λx=>.i x.n) plcA (visit p next 13 x out).1 (visit p next 13 x out).2.isNone J Jp) {H0 Hx:List Ent} (hJ:J [] H0):
  BCall B Tryz.prog 227 [.fn g fs cs,.ptr (progC p),.ptr [.i x.n],.ptr [.i x.sz,.i x.dp]] (H0++Hx) (λ_ H'=>(visit p next 13 x out).2.isNone=false/\∃H1 wb,H'=H1++(walkE wb (.fn g fs cs) p::Hx)/\J (visit p next 13 x out).1 H1)
   (λy H'=>(visit p next 13 x out).2.isNone=true/\∃H1 wb,H'=H1++(walkE wb (.fn g fs cs) p::Hx)/\Jp y H1):=by
 refine BCall.of (n:=11) Tryz.func227 rfl Yf rfl rfl (λI w0=>?_);refine Z7 ?_;refine OL.alC rfl rfl rfl rfl (λwb=>?_);refine Z8 ?_;refine CW.perm (H':=H0++(walkE wb (.fn g fs cs) p::Hx)) List.perm_middle.symm ?_;refine Z1 ?_;refine oP (Y1) ?_;refine Z2 ?_;refine OL.bcall rfl rfl .k (walkAll hcb hcon wb 13 x out [] [] H0 Hx Yd Yd Yd Yx (λh=>⟨rfl,by rw[h];rfl⟩) (λh hf=>absurd (Option.isNone_iff_eq_none.1 hf) h) hJ) ?_ ?_
 ·rintro _ _ ⟨rfl,hne,H1,rfl,hJ1⟩;refine Z1 ?_;refine Done.norR (rs:=[]) rfl (.nil) (AVleL.refl _) Yb ?_;exact⟨by cases h:(visit p next 13 x out).2 with
 | none=>exact absurd h hne
 | some o=>rfl,H1,wb,rfl,by simpa using hJ1⟩
 ·rintro y H2 ⟨hno,H1,rfl,hq⟩ a w s I v hv;obtain⟨v0,hc⟩:=hcon _ _ hq;rw[hc.is _ _ _ hv];exact outP (P:=Tryz.prog) (fn:=Tryz.f227) hc (.refl _) ⟨Ybp,H1,wb,rfl,hq⟩ a w s
theorem below(p:Prog)(x:Vis):PCall Tryz.prog 198 [AV.prog p,.i x.n,plcA x] (.fn (.func 227) [] [.ptr (progC p),.ptr [.i x.n],.ptr [.i x.sz,.i x.dp]]):=by
 intro H;refine aC (n:=8) Tryz.func198 λB I w0=>?_;refine Z15 ?_;refine r1 6 (H) ?_;exact⟨Yg,rfl⟩
theorem below_seq(B:Nat)(p:Prog)(next:Bool)(x:Vis)(out:List Int)(hx:x.dp=1)(hsz: -1000<=x.sz/\x.sz<=1001):SeqP B Tryz.prog (.fn (.func 227) [] [.ptr (progC p),.ptr [.i x.n],.ptr [.i x.sz,.i x.dp]]) (λx=>.i x.n) plcA (visit p next 13 x out).1 (visit p next 13 x out).2.isNone [] (λ_=>True):=by
 intro J Jp g fs cs hcon hcb H Hx hJ;refine VCall.fnB ((below1 hx hsz hcon hcb hJ).imp ?_ ?_)
 ·rintro y H' ⟨h,H1,wb,rfl,hJ1⟩;exact⟨h,H1,[walkE wb (.fn g fs cs) p],rfl,trivial,hJ1⟩
 ·rintro y H' ⟨h,H1,wb,rfl,hJ1⟩;exact⟨h,H1,[walkE wb (.fn g fs cs) p],rfl,hJ1⟩
end Go.Proofs.YtpgnjlngepfanaaGreat

namespace Go.Eng.Bd
open Go.Eng.Fc
theorem rep_and(n:Nat)(h:n<4294967296):bitI .and .u64 (n:Int) 4294967295=some (n:Int):=by
 rw[show (4294967295:Int)=((4294967295:Nat):Int) from rfl,bit_and n 4294967295 Yd Yd];rw[show (4294967295:Nat)=2^32 - 1 from rfl,Nat.and_two_pow_sub_one_eq_mod,Nat.mod_eq_of_lt Yd]
theorem rep_shr(n:Nat)(h:n<4294967296):shI .shr .u64 (n:Int) 32=some 0:=by
 show some ((n:Int).fdiv (2^(min (32:Int).toNat 64)))=some 0;congr 1;rw[show (2:Int)^(min (32:Int).toNat 64)=4294967296 from rfl,Int.fdiv_eq_ediv_of_nonneg _ Yd];omega
theorem u64_is{a:Int}{n:Nat}(h:a=n)(hn:n<18446744073709551616):IntKind.u64.wrap a=(n:Int):=by rw[h];exact u64_wrap n hn
def repC(x z:AV)(j k:Nat):List AV:=List.replicate j x++List.replicate k z
theorem repC_step(x z:AV)(j k m:Nat)(hj:m<=j)(hk:m<=k):(repC x z j k).take j++((repC x z j k).take j).take m++(repC x z j k).drop (j+m)=repC x z (j+m) (k - m):=by
 have e1:(repC x z j k).take j=List.replicate j x:=by rw[repC,List.take_append_of_le_length Yx,List.take_of_length_le Yx]
 rw[e1,List.take_replicate,Nat.min_eq_left hj,repC,List.drop_append,List.drop_eq_nil_of_le Yx,List.nil_append,List.length_replicate,Nat.add_sub_cancel_left,List.drop_replicate,repC,List.replicate_append_replicate]
theorem repC_first(x z:AV)(k:Nat)(hk:1<=k):(List.replicate k z).take 0++[x].take 1++(List.replicate k z).drop 1=repC x z 1 (k - 1):=by
 simp[repC]
theorem repC_all(x z:AV)(j:Nat):repC x z j 0=List.replicate j x:=by simp[repC]
theorem repC_len(x z:AV)(j k:Nat):(repC x z j k).length=j+k:=by simp[repC]
theorem repC_one(x z:AV)(j k:Nat)(hx:allOne [x]=true)(hz:allOne [z]=true):allOne ((repC x z j k).take j)=true:=by
 rw[repC,List.take_append_of_le_length Yx,List.take_of_length_le Yx];simp only[allOne,List.all_eq_true] at hx ⊢;intro y hy;rw[List.eq_of_mem_replicate hy];exact hx x Yx
end Go.Eng.Bd

namespace Go.Proofs.YtpgnjlngepfanaaGreat
open Go.Eng
open Go.Eng.Fc
open Go.Eng.Bd
instance:HasMk Tryz.prog 23 (3,8,.int .i64 0):=⟨Yf⟩
theorem mul64(n:Nat)(hn:n<4294967296):PCall Tryz.prog 249 [.val (.int .u64 ((1:Nat):Int)),.val (.int .u64 (n:Int))] (.tup [.val (.int .u64 0),.val (.int .u64 (n:Int))]):=by
 intro H;refine aC (n:=51) Tryz.func249 λB I w0=>?_;refine Z9 ?_;refine oP (POp.bits rfl rfl rfl rfl rfl (rep_and 1 Yd)) ?_;refine Z6 ?_;refine oP (POp.shift rfl rfl rfl rfl rfl Yd (rep_shr 1 Yd)) ?_;refine Z6 ?_;refine oP (POp.bits rfl rfl rfl rfl rfl (rep_and _ Yd)) ?_;refine Z6 ?_;refine oP (POp.shift rfl rfl rfl rfl rfl Yd (rep_shr _ Yd)) ?_;refine Z7 ?_;refine oP (POp.arith rfl rfl rfl rfl rfl rfl (u64_is (n:=n) Yd Yd)) ?_;refine Z7 ?_;refine oP (POp.arith rfl rfl rfl rfl rfl rfl (u64_is (n:=0) Yd Yd)) ?_;refine Z1 ?_;refine oP (POp.shift rfl rfl rfl rfl rfl Yd (rep_shr _ Yd)) ?_;refine oP (POp.arith rfl rfl rfl rfl rfl rfl (u64_is (n:=0) Yd Yd)) ?_;refine Z6 ?_;refine oP (POp.bits rfl rfl rfl rfl rfl (rep_and 0 Yd)) ?_;refine Z6 ?_;refine oP (POp.shift rfl rfl rfl rfl rfl Yd (rep_shr 0 Yd)) ?_;refine Z8 ?_;refine oP (POp.arith rfl rfl rfl rfl rfl rfl (u64_is (n:=0) Yd Yd)) ?_;refine oP (POp.arith rfl rfl rfl rfl rfl rfl (u64_is (n:=0) Yd Yd)) ?_;refine Z7 ?_;refine oP (POp.arith rfl rfl rfl rfl rfl rfl (u64_is (n:=0) Yd Yd)) ?_;refine Z1 ?_;refine oP (POp.arith rfl rfl rfl rfl rfl rfl (u64_is (n:=0) Yd Yd)) ?_;refine Z1 ?_;refine oP (POp.shift rfl rfl rfl rfl rfl Yd (rep_shr 0 Yd)) ?_;refine oP (POp.arith rfl rfl rfl rfl rfl rfl (u64_is (n:=0) Yd Yd)) ?_;refine Z7 ?_;refine oP (POp.arith rfl rfl rfl rfl rfl rfl (u64_is (n:=n) Yd Yd)) ?_;refine Z4 ?_;refine rR [.tmp 4,.tmp 5] (H) ?_;exact⟨Yg,rfl⟩
theorem mulU(n:Nat)(hn:n<4294967296):PCall Tryz.prog 226 [.val (.int .u64 ((1:Nat):Int)),.val (.int .u64 (n:Int))] (.tup [.val (.int .u64 0),.val (.int .u64 (n:Int))]):=by
 intro H;refine aC (n:=30) Tryz.func226 λB I w0=>?_;refine Z7 ?_;refine CW.condKF ?_;refine Z6 ?_;refine oP (POp.call .k (mul64 n hn)) ?_;refine Z16 ?_;refine rR [.tmp 4,.tmp 5] (H) ?_;exact⟨Yg,rfl⟩
theorem repeatI(n:Nat)(hn:1<=n/\n<=1000000)(H:List Ent):ACall Tryz.prog 196 [.sl 1 [[(.i (-1))]],.i n] H (λy H'=>∃nb,y=(.val (.slice (some ⟨nb,0,none⟩) n n))/\H'= .blk nb 3 (List.replicate n (.i (-1)))::H) (λ_ _=>False):=by
 refine aC (n:=48) Tryz.func196 λB I w0=>?_;refine Z12 ?_;refine CW.cond rfl (λh0=>?_) (λh0=>?_)
 ·simp at h0;omega
 ·replace h0:=nm h0;refine Z6 ?_;refine oP (POp.cv rfl rfl rfl (u64_is (n:=1) rfl Yd)) ?_;refine Z1 ?_;refine oP (POp.cv rfl rfl rfl (u64_is (n:=n) rfl Yd)) ?_;refine oP (POp.call .k (mulU n Yd)) ?_;refine Z18 ?_;refine CW.cond rfl (λh1=>?_) (λh1=>?_)
  ·simp at h1;omega
  ·replace h1:=nm h1;refine Z5 ?_;refine oP (POp.cv rfl rfl rfl (wrap64 (n:=(n:Int)) Yd)) ?_;refine OL.mkSlC (n) rfl rfl rfl rfl rfl rfl rfl rfl (rfl) Yd Y0 (λnb=>?_);refine Z7 ?_;refine OL.copyC 1 rfl rfl rfl rfl rfl rfl (SlReads.sl (els:=[[(.i (-1))]]) (by simp[Op.operands,Call.operands]) rfl rfl (AVle.refl _) Yx) rfl YI YI (.head _ _ _) ?_;refine Z5 ?_;refine CW.eqH (H':=.blk nb 3 (repC (.i (-1)) (.val (.int .i64 0)) 1 (n - 1))::H) (by rw[show (0:Nat)+1*1=1 from rfl,show 1*1=1 from rfl];rw[<-repC_first _ _ _ hn.1];rfl) ?_;refine lj (λm st=>∃j:Nat,st=⟨[(8,.i j),(7,(.val (.slice (some ⟨nb,0,none⟩) n n))),(0,.sl 1 [[(.i (-1))]])],.blk nb 3 (repC (.i (-1)) (.val (.int .i64 0)) j (n - j))::H⟩/\m=n - j/\1<=j/\j<=n) (⟨1,rfl,rfl,Yd,Yd⟩) ?_;rintro m _ ⟨j,rfl,rfl,hj1,hj⟩;refine Z9 ?_;refine cd (λh2=>?_) λh2=>?_
   ·have hjn:j<n:=by simpa using h2
    refine Z3 ?_;refine CW.dp mixed ?_;refine DP.anyH [⟨7,45,false⟩] (()) (λ(g:Unit) (vs:List (Option Value))=>match vs with | [none]=>.blk nb 3 (repC (.i (-1)) (.val (.int .i64 0)) j (n - j))::H | [some _]=>.blk nb 3 ((repC (.i (-1)) (.val (.int .i64 0)) j (n - j)).take (0+j*1)++(((repC (.i (-1)) (.val (.int .i64 0)) j (n - j)).drop (0+0*1)).take ((j - 0)*1)).take (min j (n - j)*1)++(repC (.i (-1)) (.val (.int .i64 0)) j (n - j)).drop (0+j*1+min j (n - j)*1))::H | _=>[]) 0 8 48 rfl Ye Ye rfl rfl Ye rfl ?_;refine UD.popG [[true],[false]] rfl Ye rfl rfl rfl ⟨λg f=>POp.move rfl rfl rfl,λg f=>POp.move rfl rfl rfl,trivial⟩ ?_;refine UD.popG [[false]] rfl Ye rfl rfl rfl ⟨λg f=>POp.move rfl rfl rfl,trivial⟩ ?_;refine UD.popG [[false]] rfl Ye rfl rfl rfl ⟨λg f=>POp.move rfl rfl rfl,trivial⟩ ?_;refine UD.popG [[false]] rfl Ye rfl rfl rfl ⟨λg f=>POp.slC (kh:=.i64) (l:=j) (m:=n) rfl rfl rfl rfl rfl rfl rfl Yd Yd Yd,trivial⟩ ?_;refine UD.popG [[false]] rfl Ye rfl rfl rfl ⟨λg f=>POp.move rfl rfl rfl,trivial⟩ ?_;refine UD.popG [[false]] rfl Ye rfl rfl rfl ⟨λg f=>POp.move rfl rfl rfl,trivial⟩ ?_;refine UD.popG [[false]] rfl Ye rfl rfl rfl ⟨λg f=>POp.slC (kl:=.i64) (l:=0) (m:=j) rfl rfl rfl rfl rfl rfl rfl Yd Yd Yd,trivial⟩ ?_;refine UD.effG 0 [[false]] rfl rfl rfl Ye rfl rfl rfl ⟨λg f=>FOk.copy () (min j (n - j)) rfl rfl rfl (SlReads.blk (by simp[Op.operands,Call.operands]) rfl rfl (.head _) (by rw[repC_len];omega)) (by rw[Nat.zero_add,Nat.zero_mul,List.drop_zero,Nat.sub_zero,Nat.mul_one];exact repC_one _ _ _ _ rfl rfl) Yd (by rw[repC_len];omega) (λv=>.head _ _ _),trivial⟩ ?_;refine UD.nil (λg f=>?_);simp only[CE.vals,List.map_cons,List.map_nil,List.cons_append,List.nil_append];refine Z5 ?_;refine Done.eqH (H':=.blk nb 3 (repC (.i (-1)) (.val (.int .i64 0)) (j+min j (n - j)) (n - (j+min j (n - j))))::H) (by rw[Nat.zero_add,Nat.zero_add,Nat.zero_mul,Nat.mul_one,Nat.mul_one,Nat.mul_one,List.drop_zero,Nat.sub_zero,repC_step _ _ _ _ _ Yd Yd,Nat.sub_sub]) ?_;refine Done.le 8 (y:=.i (j+min j (n - j):Nat)) rfl (AVle.eqI Yd) ?_;exact ag ⟨j+min j (n - j),rfl,rfl,Yd,Yd⟩
   ·obtain rfl:j=n:=by simp at h2;omega
    refine Z12 ?_;refine r1 4 (.blk nb 3 (repC (.i (-1)) (.val (.int .i64 0)) j (j - j))::H) ?_;exact⟨nb,Yg,by rw[Nat.sub_self,repC_all]⟩
end Go.Proofs.YtpgnjlngepfanaaGreat

namespace Go.Eng.Bd
open Go.Eng.Fc
variable{p:Prog}{next:Bool}{out C:List Int}{α:Type}
def outsV(pre:List Vis)(out:List Int):List Int:=pre.foldl setV out
structure VP(p:Prog)(next:Bool)(out:List Int)(L:List Vis)(r:Option (List Int)):Prop where
 yes:∀pre y,pre++[y]<+:L->¬(pre++[y]=L/\r=none)->okV p next y (outsV pre out)=true
 no:∀pre y,pre++[y]=L->r=none->okV p next y (outsV pre out)=false
 end_:∀o,r=some o->o=outsV L out
 ne:r=none->L≠ []
theorem VP.nil:VP p next out [] (some out):=
 ⟨λpre y h=>by have:=h.length_le;simp at this,λpre y h=>by simp at h,λo h=>by cases h;rfl,λh=>by cases h⟩
theorem outsV_append(a b:List Vis)(o:List Int):outsV (a++b) o=outsV b (outsV a o):=by simp[outsV]
theorem prefix_cases{A L1 L2:List α}(h:A<+:L1++L2):A<+:L1\/∃B,A=L1++B/\B<+:L2:=by
 obtain⟨t,ht⟩:=h;rcases List.append_eq_append_iff.1 ht with⟨a,h1,h2⟩ | ⟨a,h1,h2⟩
 ·exact .inl ⟨a,h1.symm⟩
 ·exact .inr ⟨a,h1,t,h2.symm⟩
theorem snoc_of_append{pre L1 B:List α}{y:α}(h:pre++[y]=L1++B)(hB:B≠ []):∃B',B=B'++[y]/\pre=L1++B':=by
 rcases List.eq_nil_or_concat B with rfl | ⟨B',z,rfl⟩
 ·exact absurd rfl hB
 ·rw[List.concat_eq_append, <-List.append_assoc] at h;obtain⟨e2,e3⟩:=List.append_inj' h rfl;cases e3;exact⟨B',List.concat_eq_append,e2⟩
theorem VP.append{out o1:List Int}{L1 L2:List Vis}{r:Option (List Int)}(h1:VP p next out L1 (some o1))(h2:VP p next o1 L2 r):VP p next out (L1++L2) r:=by
 have e1:=h1.end_ o1 rfl;refine⟨λpre y h hn=>?_,λpre y h hr=>?_,λo h=>?_,λh=>?_⟩
 ·rcases prefix_cases h with h | ⟨B,hB,hp⟩
  ·exact h1.yes pre y h (λhc=>by cases hc.2)
  ·rcases Classical.em (B= []) with rfl | hBn
   ·rw[List.append_nil] at hB;exact h1.yes pre y (by rw[hB];exact List.prefix_refl _) (λhc=>by cases hc.2)
   ·obtain⟨B',rfl,rfl⟩:=snoc_of_append hB hBn;rw[outsV_append, <-e1];exact h2.yes B' y hp (λhc=>hn ⟨by rw[List.append_assoc,hc.1],hc.2⟩)
 ·obtain⟨B',rfl,rfl⟩:=snoc_of_append h (h2.ne hr);rw[outsV_append, <-e1];exact h2.no B' y rfl hr
 ·rw[outsV_append, <-e1];exact h2.end_ o h
 ·intro e;exact h2.ne h (List.append_eq_nil_iff.1 e).2
theorem one_pre{pre:List α}{x y:α}(hp:pre++[y]<+: [x]):pre= []/\y=x:=by
 have h1:=hp.length_le;simp only[List.length_append,List.length_singleton] at h1;obtain rfl:pre= []:=List.eq_nil_of_length_eq_zero Yd;obtain⟨t,ht⟩:=hp;simp at ht;exact⟨rfl,ht.1⟩
theorem VP.one{x:Vis}(h:okV p next x out=true):VP p next out [x] (some (setV out x)):=
 ⟨λpre y hp _=>by obtain⟨rfl,rfl⟩:=one_pre hp;exact h,λpre y hp hr=>by(cases hr),λo h=>by(cases h;rfl),λh=>by(cases h)⟩
theorem VP.not{x:Vis}(h:okV p next x out=false):VP p next out [x] none:=
 ⟨λpre y hp hn=>by obtain⟨rfl,rfl⟩:=one_pre hp;exact absurd ⟨rfl,rfl⟩ hn,λpre y hp hr=>by obtain⟨rfl,rfl⟩:=one_pre (by rw[hp];exact List.prefix_refl _);exact h,λo h=>by(cases h),λh=>by simp⟩
theorem VP.kids{p:Prog}{next:Bool}{v:Vis->List Int->List Vis×Option (List Int)}{ok:Vis->Prop}(hv:∀x o,ok x->VP p next o (v x o).1 (v x o).2):∀(l:List Vis),(∀x∈l,ok x)->∀(o:List Int),VP p next o (visitsW v l o).1 (visitsW v l o).2
 | [],_,o=>VP.nil
 | y::r,hl,o=>by
  have h1:=hv y o (hl y (.head _));simp only[visitsW];rcases hq:v y o with⟨l1,_ | o1⟩
  ·rw[hq] at h1;exact h1
  ·rw[hq] at h1;exact h1.append (VP.kids hv r (λx hx=>hl x (.tail _ hx)) o1)
theorem kidsV_dp(x:Vis)(op:Int):∀(i:Nat) (l:List Int),∀y∈kidsV x op i l,y.dp=x.dp+1
 | _,[],y,h=>by simp[kidsV] at h
 | i,k::r,y,h=>by
  rw[kidsV,List.mem_cons] at h;rcases h with rfl | h
  ·rfl
  ·exact kidsV_dp x op (i+1) r y h
theorem visit_vp{p:Prog}{next:Bool}:∀(f:Nat) (x:Vis) (out:List Int),x.dp+f=14->VP p next out (visit p next f x out).1 (visit p next f x out).2
 | 0,x,out,h=>by
  refine VP.not ?_;unfold okV placeOk;rw[show decide (x.dp<=12)=false from decide_eq_false Yd];simp
 | f+1,x,out,h=>by
  cases hk:okV p next x out with
  | false=>rw[visit_no hk];exact VP.not hk
  | true=>
   rw[visit_yes hk];exact (VP.one hk).append (VP.kids (ok:=λy=>y.dp+f=14) (λy o hy=>visit_vp f y o hy) _ (λy hy=>by rw[kidsV_dp _ _ _ _ y hy];omega) _)
theorem setV_len(o:List Int)(x:Vis):(setV o x).length=o.length:=by simp[setV]
theorem outsV_len:∀(l:List Vis) (o:List Int),(outsV l o).length=o.length
 | [],o=>rfl
 | x::r,o=>by rw[show outsV (x::r) o=outsV r (setV o x) from rfl,outsV_len r,setV_len]
theorem outsV_snoc(l:List Vis)(x:Vis)(o:List Int):outsV (l++[x]) o=setV (outsV l o) x:=by simp[outsV]
def smallV(x:Vis):Prop:=-1000<=x.sz/\x.sz<=1000+x.dp/\1<=x.dp/\x.dp<=14
theorem visit_small{p:Prog}{next:Bool}:∀(f:Nat) (x:Vis) (out:List Int),x.dp+f=14->smallV x->∀y∈(visit p next f x out).1,smallV y
 | 0,x,out,h,hs,y,hy=>by rw[show (visit p next 0 x out).1= [x] from rfl] at hy;simp at hy;subst hy;exact hs
 | f+1,x,out,h,hs,y,hy=>by
  cases hk:okV p next x out with
  | false=>rw[visit_no hk] at hy;simp at hy;subst hy;exact hs
  | true=>
   rw[visit_yes hk] at hy;simp only[List.mem_cons] at hy;rcases hy with rfl | hy
   ·exact hs
   ·have key:∀(l:List Vis),(∀z∈l,z.dp+f=14/\smallV z)->∀(o:List Int),∀y∈(visitsW (visit p next f) l o).1,smallV y:=by
     intro l
     induction l with
     | nil=>intro _ o y hy;simp[visitsW] at hy
     | cons z r ih=>
      intro hl o y hy;simp only[visitsW] at hy;have h1:=visit_small (p:=p) (next:=next) f z o (hl z (.head _)).1 (hl z (.head _)).2;rcases hq:visit p next f z o with⟨l1,_ | o1⟩
      ·rw[hq] at hy h1;exact h1 y hy
      ·rw[hq] at hy h1;simp only[List.mem_append] at hy;rcases hy with hy | hy
       ·exact h1 y hy
       ·exact ih (λz hz=>hl z (.tail _ hz)) o1 y hy
    refine key _ (λz hz=>⟨by rw[kidsV_dp _ _ _ _ z hz];omega,?_⟩) _ y hy;have hz1:=kidsV_dp _ _ _ _ z hz;have:∀(op:Int) (i:Nat) (l:List Int),∀z∈kidsV x op i l,z.sz=x.sz\/z.sz=x.sz+1:=by
     intro op i l
     induction l generalizing i with
     | nil=>intro z hz;simp[kidsV] at hz
     | cons k r ih=>
      intro z hz;rw[kidsV,List.mem_cons] at hz;rcases hz with rfl | hz
      ·simp only[kidV];split <;> simp
      ·exact ih (i+1) z hz
    have hz2:=this _ _ _ z hz;unfold smallV at hs ⊢;omega
theorem okV_no1{x:Vis}(h:placeOk p x C=false):okV p next x C=false:=by simp[okV,h]
theorem okV_no2{x:Vis}(h:(numP p (ndOf p x) x.sz && (next || (ndOf p x).op !=18))=false):okV p next x C=false:=by
 simp only[okV,goodN,h,Bool.false_and,Bool.and_false]
theorem okV_no3{x:Vis}(h:kindOf (ndOf p x).op=none):okV p next x C=false:=by
 simp[okV,goodN,h]
theorem okV_k{x:Vis}{k:Nat}(h1:placeOk p x C=true)(h2:(numP p (ndOf p x) x.sz && (next || (ndOf p x).op !=18))=true)(h:kindOf (ndOf p x).op=some (some k)):okV p next x C=(((ndOf p x).kids.length:Int)==(k:Int)):=by
 simp only[okV,goodN,h1,h2,h,Bool.true_and];rw[Bool.eq_iff_iff,beq_iff_eq,beq_iff_eq];omega
theorem okV_a{x:Vis}(h1:placeOk p x C=true)(h2:(numP p (ndOf p x) x.sz && (next || (ndOf p x).op !=18))=true)(h:kindOf (ndOf p x).op=some none):okV p next x C=(((ndOf p x).kids.length:Int)==p.gens.getD (ndOf p x).n.toNat default):=by
 simp only[okV,goodN,h1,h2,h,Bool.true_and]
theorem placeOk_in{x:Vis}(h:placeOk p x C=true):0<=x.n/\x.n<p.nodes.length:=by
 simp only[placeOk,Bool.and_eq_true,decide_eq_true_eq] at h;exact h.1.1
theorem cellI_get{i:Nat}(h:i<C.length):(C.map AV.i)[0+i*1]? =some (.i (C.getD i default)):=by
 rw[Nat.zero_add,Nat.mul_one,List.getElem?_map,List.getElem?_eq_getElem h,Option.map_some,List.getD_eq_getElem?_getD,List.getElem?_eq_getElem h];rfl
theorem cellI_set{i:Nat}{s:Int}(h:i<C.length):(C.map AV.i).take (0+i*1)++[.i s]++(C.map AV.i).drop (0+i*1+1)=(C.set i s).map AV.i:=by
 rw[Nat.zero_add,Nat.mul_one,List.map_set,List.set_eq_take_append_cons_drop,if_pos Yac,List.append_assoc];rfl
end Go.Eng.Bd

namespace Go.Proofs.YtpgnjlngepfanaaGreat
open Go.Eng
open Go.Eng.Fc
open Go.Eng.Bd
variable{p:Prog}
instance:HasTa Tryz.prog 233:=⟨Yf⟩
instance:HasTa Tryz.prog 234:=⟨Yf⟩
abbrev outH(ob nb n:Nat)(o:List Int):List Ent:=[.blk ob 23 [(.val (.slice (some ⟨nb,0,none⟩) n n))],.blk nb 3 ((o).map AV.i)]
theorem round_key{next:Bool}{out:List Int}{x0:Vis}{pre:List Vis}{x:Vis}(hd:x0.dp=1)(h:pre++[x]<+:(visit p next 13 x0 out).1):
  (okV p next x (outsV pre out)=true/\(pre++[x]=(visit p next 13 x0 out).1->(visit p next 13 x0 out).2.isNone=false))\/(okV p next x (outsV pre out)=false/\pre++[x]=(visit p next 13 x0 out).1/\(visit p next 13 x0 out).2.isNone=true):=by
 have hv:=visit_vp (p:=p) (next:=next) 13 x0 out Yd;rcases Classical.em (pre++[x]=(visit p next 13 x0 out).1/\(visit p next 13 x0 out).2=none) with⟨h1,h2⟩ | h1
 ·exact .inr ⟨hv.no pre x h1 h2,h1,by rw[h2];rfl⟩
 ·refine .inl ⟨hv.yes pre x h h1,λe=>?_⟩;cases hr:(visit p next 13 x0 out).2 with
  | none=>exact absurd ⟨e,hr⟩ h1
  | some o=>rfl
theorem kind_arg{x:Nd}{sz:Int}(h:kindOf x.op=some none)(hn:numP p x sz=true):0<=x.n/\x.n<p.gens.length:=by
 have h5:x.op=5:=by
  unfold kindOf at h
  repeat' split at h
  all_goals first | assumption | (simp at h;done)
 unfold numP mostP at hn;rw[if_neg Yd,if_neg Yd,if_neg Yd,if_neg Yd,if_pos h5] at hn;simpa using hn
theorem bodyS{n:Nat}(hn:n=p.nodes.length)(k size:Int)(next:Bool)(hs:0<=size/\size<=1000)(out:List Int)(ho:out.length=n)(hC0:p.classes.length<=100)(ob nb:Nat)(H:List Ent):
  ACall Tryz.prog 197 [.i k,.i size,.b next,.ptr (progC p),.p ob 0] (outH ob nb n out++H) (λ_ H'=>(visit p next 13 (⟨k,size,1⟩:Vis) out).2.isNone=false/\H'=outH ob nb n (outsV (visit p next 13 (⟨k,size,1⟩:Vis) out).1 out)++H) (λy H'=>y=unfA/\(visit p next 13 (⟨k,size,1⟩:Vis) out).2.isNone=true/\∃o',H'=outH ob nb n o'++H):=by
 refine ACall.mkF (n:=86) Tryz.func197 rfl Yf rfl rfl (λB I w0=>?_);refine CWF.seq ?_;refine CW.atF ?_;refine Z3 ?_;refine CWF.done ?_;refine CWF.seq ?_;refine CW.atF ?_;refine Z5 ?_;refine oP (POp.call .k (below p (⟨k,size,1⟩:Vis))) ?_;refine Z1 ?_;refine CWF.done ?_;refine CWF.block ?_;refine CWF.rangeFuncP Tryz.func197 (λx=>.i x.n) (plcA) ((visit p next 13 (⟨k,size,1⟩:Vis) out).1) ((visit p next 13 (⟨k,size,1⟩:Vis) out).2.isNone) (λpre H=>H=outH ob nb n (outsV pre out)) (λy H=>y=unfA/\∃o',H=outH ob nb n o') (outH ob nb n out) ([]) (H) (λ_=>True) (λx=>[(9,.ptr [.i x.sz,.i x.dp]),(8,.i x.n),(7,.ptr [.b next]),(3,.ptr (progC p)),(4,.p ob 0)]) rfl rfl rfl rfl rfl (below_seq B p next (⟨k,size,1⟩:Vis) out rfl (by show _<=size/\size<=_;omega)) (rfl) (λy H h=>⟨unfV,h.1.symm▸unf_c⟩) ?_ ?_ ?_ ?_
 ·intro l0 I1 w1 x Hy;refine Z6 ?_;refine OL.alC rfl rfl rfl rfl (λb0=>?_);refine Z2 ?_;refine Done.freezeP (d:=9) rfl (Del.head _ _) ?_;exact λa w s=>⟨_,rfl,s.weaken (envLe_get YaK) (List.Sublist.refl _)⟩
 ·intro l0 D0 lp pre x H1 Hy I1 w1 hpre hJ;obtain rfl:=hJ;obtain⟨C,hC⟩:∃C,C=outsV pre out:=⟨_,rfl⟩;have hCl:C.length=n:=by rw[hC,outsV_len,ho]
  have hkey:=round_key rfl hpre;rw[<-hC] at hkey ⊢;have hsm:=visit_small (p:=p) (next:=next) 13 (⟨k,size,1⟩:Vis) out YaJ (by unfold smallV;simp only[];omega) x (hpre.subset Yx);unfold smallV at hsm;refine Z15 ?_;refine OL.guardC rfl rfl rfl rfl rfl rfl (λhg=>POp.ixC rfl rfl (gd hg) rfl (gd hg) YQ) ?_;refine OL.guardC rfl rfl rfl rfl rfl rfl (λhg=>(by first | exact POp.ld1 rfl rfl (gd hg) rfl | (apply POp.ld1H rfl rfl (gd hg);(case hm=>exact .tail _ (.tail _ (.tail _ (.head _))));(case hy=>exact cellI_get YQ)))) ?_;refine Z7 ?_;cases hpl:placeOk p x C
  ·refine OL.rcallN rfl rfl (.mk' rfl rfl rfl rfl rfl) (needF (by simp only[Bool.cond_false_right,ge_iff_le];exact hpl) _) unf_c ?_;rcases hkey with⟨h1,_⟩ | ⟨_,h2,h3⟩
   ·rw[okV_no1 hpl] at h1;cases h1
   ·intro a w s;exact Done.roundPP (J:=λpre H=>H=outH ob nb n (outsV pre out)) (H:=outH ob nb n (C)) Yb unf_c h2 h3 ⟨rfl,_,rfl⟩ a w s
  ·refine OL.rcallS rfl rfl rfl (.mk' rfl rfl rfl rfl rfl) (needT (by simp only[Bool.cond_false_right,ge_iff_le];exact hpl) _) ?_;obtain⟨hp0,hp1⟩:=placeOk_in hpl;refine Z8 ?_;refine oP (POp.ixC rfl rfl rfl rfl rfl Yd) ?_;apply OL.stoC rfl rfl rfl rfl rfl rfl rfl rfl rfl rfl
   (case hu=>repeat (first | exact Upd.head _ _ _ | apply Upd.tail));(case hfit=>exact Nat.ble_eq_true_of_le Yab);(case hds=>exact cellI_set Yd)
   refine Z7 ?_;refine oP (YY) ?_;refine Z1 ?_;refine OL.alC rfl rfl rfl rfl (λkb=>?_);refine Z9 ?_;refine oP (POp.call .k (number p hC0 (ndOf p x) x.sz)) ?_;refine Z8 ?_;cases hgd:(numP p (ndOf p x) x.sz && (next || (ndOf p x).op !=18))
   ·refine OL.rcallN rfl rfl (.mk' rfl rfl rfl rfl rfl) (needF (by simp only[Bool.cond_false_right,Bool.cond_true_left];exact hgd) _) unf_c ?_;rcases hkey with⟨h1,_⟩ | ⟨_,h2,h3⟩
    ·rw[okV_no2 hgd] at h1;cases h1
    ·intro a w s;exact Done.roundPP (J:=λpre H=>H=outH ob nb n (outsV pre out)) (H:=outH ob nb n (setV C x)) Yb unf_c h2 h3 ⟨rfl,_,rfl⟩ a w s
   ·refine OL.rcallS rfl rfl rfl (.mk' rfl rfl rfl rfl rfl) (needT (by simp only[Bool.cond_false_right,Bool.cond_true_left];exact hgd) _) ?_;refine Z6 ?_;rcases hkd:kindOf (ndOf p x).op with _ | _ | kk
    ·refine oP (POp.call .k (show PCall Tryz.prog 200 [.i (ndOf p x).op] (.val .nilIface) from by have h:=kidsOf (ndOf p x).op;rw[hkd] at h;exact h)) ?_;refine Z5 ?_;refine oP (YM) ?_;refine Z2 ?_;refine oP (YM) ?_;refine Z5 ?_;refine CW.cond rfl (λh0=>?_) (λh0=>?_)
     ·simp at h0
     ·replace h0:=nm h0;refine Z6 ?_
      ·refine OL.rcallN rfl rfl (.mk' rfl rfl rfl rfl rfl) (needF (rfl) _) unf_c ?_;rcases hkey with⟨h1,_⟩ | ⟨_,h2,h3⟩
       ·rw[okV_no3 hkd] at h1;cases h1
       ·intro a w s;exact Done.roundPP (J:=λpre H=>H=outH ob nb n (outsV pre out)) (H:=outH ob nb n (setV C x)) Yb unf_c h2 h3 ⟨rfl,_,rfl⟩ a w s
    ·refine oP (POp.call .k (show PCall Tryz.prog 200 [.i (ndOf p x).op] (.iface 234 (.agg [])) from by have h:=kidsOf (ndOf p x).op;rw[hkd] at h;exact h)) ?_;have hok:=okV_a hpl hgd hkd;obtain⟨hx0,hx1⟩:=kind_arg hkd (Bool.and_eq_true_iff.1 hgd).1;refine Z5 ?_;refine oP (YM) ?_;refine Z2 ?_;refine oP (YM) ?_;refine Z5 ?_;refine CW.cond rfl (λh1=>?_) (λh1=>?_)
     ·replace h1:=nm h1;refine Z5 ?_;refine CW.dp mixed ?_;refine DP.anyC 0 7 86 rfl Ye rfl rfl Ye ?_;refine Z6 ?_;refine AD.popC rfl rfl rfl Y8 ?_;refine Z3 ?_;cases hbb:okV p next x C
      ·refine OL.rcallN rfl rfl (.mk' rfl rfl rfl rfl rfl) (needF Ybt _) unf_c ?_;rcases hkey with⟨h1,_⟩ | ⟨_,h2,h3⟩
       ·rw[hbb] at h1;cases h1
       ·intro a w s;exact Done.roundPP (J:=λpre H=>H=outH ob nb n (outsV pre out)) (H:=outH ob nb n (setV C x)) Yb unf_c h2 h3 ⟨rfl,_,rfl⟩ a w s
      ·refine OL.rcallS rfl rfl rfl (.mk' rfl rfl rfl rfl rfl) (needT Ybt _) ?_;refine Z3 ?_;exact Done.roundNP (H:=outH ob nb n (setV C x)) Yb Ya8 (by rw[outsV_snoc, <-hC])
     ·simp at h1
    ·refine oP (POp.call .k (show PCall Tryz.prog 200 [.i (ndOf p x).op] (.iface 233 (.i kk)) from by have h:=kidsOf (ndOf p x).op;rw[hkd] at h;exact h)) ?_;have hok:=okV_k hpl hgd hkd;refine Z5 ?_;refine oP (YM) ?_;refine Z2 ?_;refine oP (YM) ?_;refine Z5 ?_;refine CW.cond rfl (λh2=>?_) (λh2=>?_)
     ·replace h2:=nm h2;refine Z5 ?_;refine CW.dp mixed ?_;refine DP.anyC 0 7 86 rfl Ye rfl rfl Ye ?_;refine Z6 ?_;refine AD.popC rfl rfl rfl Y8 ?_;refine Z3 ?_;cases hbb:okV p next x C
      ·refine OL.rcallN rfl rfl (.mk' rfl rfl rfl rfl rfl) (needF Ybt _) unf_c ?_;rcases hkey with⟨h1,_⟩ | ⟨_,h2,h3⟩
       ·rw[hbb] at h1;cases h1
       ·intro a w s;exact Done.roundPP (J:=λpre H=>H=outH ob nb n (outsV pre out)) (H:=outH ob nb n (setV C x)) Yb unf_c h2 h3 ⟨rfl,_,rfl⟩ a w s
      ·refine OL.rcallS rfl rfl rfl (.mk' rfl rfl rfl rfl rfl) (needT Ybt _) ?_;refine Z3 ?_;exact Done.roundNP (H:=outH ob nb n (setV C x)) Yb Ya8 (by rw[outsV_snoc, <-hC])
     ·simp at h2
 ·intro D0 H1 Hs1 hfl hHn hJ;obtain rfl:=hJ;refine Done.subH (H':=.obj D0 (.deferred (some []))::(outH ob nb n (outsV (visit p next 13 (⟨k,size,1⟩:Vis) out).1 out)++H)) (.cons_cons _ (.append_left (List.sublist_append_right _ _) _)) ?_;refine Z1 ?_;refine Done.retM1 (rs:=[]) (H':=outH ob nb n (outsV (visit p next 13 (⟨k,size,1⟩:Vis) out).1 out)++H) rfl Yl (.nil) (AVleL.refl _) Yb ?_;exact⟨hfl,rfl⟩
 ·intro D0 y H1 Hs1 hfl hJp I1 v1 a1 w1 hs1 hv1;obtain⟨rfl,o1,rfl⟩:=hJp;rw[unf_c.is _ _ _ hv1];exact outM unf_c (Del.head _ _) (.append_left (List.sublist_append_right _ _) _) ⟨rfl,hfl,o1,rfl⟩ a1 w1 hs1
end Go.Proofs.YtpgnjlngepfanaaGreat

namespace Go.Eng.Bd
open Go.Eng.Fc
variable{x ps:List Int}{l:List (Int×AV)}{O all g:List (List Int)}{k:Nat}
theorem nextH_mem{A:List (List Int)}:∀{B:List (List Int)} {h:Int},nextH A B=some h->∃l∈B,h∈l
 | [],h,e=>by simp[nextH] at e
 | []::r,h,e=>by
  rw[nextH] at e;obtain⟨l,hl,hh⟩:=nextH_mem e;exact⟨l,.tail _ hl,hh⟩
 | (x::t)::r,h,e=>by
  rw[nextH] at e;split at e
  ·cases e;exact⟨_,.head _,.head _⟩
  ·obtain⟨l,hl,hh⟩:=nextH_mem e;exact⟨l,.tail _ hl,hh⟩
theorem mem_dropH{h x:Int}{A:List (List Int)}{l:List Int}(hl:l∈dropH h A)(hx:x∈l):x≠h/\∃l'∈A,x∈l':=by
 simp only[dropH,List.mem_map] at hl;obtain⟨l',h1,rfl⟩:=hl;rw[List.mem_filter] at hx;exact⟨by simpa using hx.2,l',h1,hx.1⟩
theorem mergeN_ok:∀(n:Nat) (A:List (List Int)) (out:List Int),out.Nodup->(∀x∈out,∀l∈A,x∉l)->(mergeN n A out).1.Nodup/\∀x∈(mergeN n A out).1,x∈out\/∃l∈A,x∈l
 | 0,A,out,h1,h2=>⟨h1,λx hx=>.inl hx⟩
 | n+1,A,out,h1,h2=>by
  cases hn:nextH A A with
  | none=>rw[merge_none hn];exact⟨h1,λx hx=>.inl hx⟩
  | some h=>
   rw[merge_some hn];obtain⟨l0,hl0,hh0⟩:=nextH_mem hn;obtain⟨r1,r2⟩:=mergeN_ok n (dropH h A) (out++[h]) (List.nodup_append.2 ⟨h1,Yx,λa ha b hb e=>by simp at hb;subst hb;subst e;exact h2 a ha l0 hl0 hh0⟩) (λx hx l hl hxl=>by
    obtain⟨e1,l',hl',hx'⟩:=mem_dropH hl hxl;rcases List.mem_append.1 hx with hx | hx
    ·exact h2 x hx l' hl' hx'
    ·simp at hx;exact e1 hx)
   refine⟨r1,λx hx=>?_⟩;rcases r2 x hx with hx | ⟨l,hl,hxl⟩
   ·rcases List.mem_append.1 hx with hx | hx
    ·exact .inl hx
    ·simp at hx;subst hx;exact .inr ⟨l0,hl0,hh0⟩
   ·obtain⟨_,l',hl',hx'⟩:=mem_dropH hl hxl;exact .inr ⟨l',hl',hx'⟩
structure OrdOk(c:Nat)(x:List Int):Prop where
 nodup:x.Nodup
 in_:∀y∈x,0<=y/\y<=c
theorem OrdOk.len{c:Nat}(h:OrdOk c x):x.length<=c+1:=by
 have:=List.Nodup.length_le_of_subset (l₂:=(List.range (c+1)).map Int.ofNat) h.nodup (λy hy=>by
  obtain⟨h1,h2⟩:=h.in_ y hy;exact List.mem_map.2 ⟨y.toNat,YI,YI⟩)
 simpa using this
def psOk(c:Nat)(ps:List Int):Prop:=ps.length<=3/\∀p∈ps,3<=p/\p<c
def OrdsOk(O:List (List Int)):Prop:=∀k,k<O.length->OrdOk k (O.getD k [])
theorem OrdsOk.len{O:List (List Int)}(h:OrdsOk O)(k:Nat):(O.getD k []).length<=O.length+1:=by
 by_cases hk:k<O.length
 ·have:=(h k hk).len;omega
 ·rw[List.getD_eq_getElem?_getD,List.getElem?_eq_none Yd];simp
theorem lists_mem(h:listsP O ps=some all):all=ps.map (λp=>bareL (O.getD p.toNat []))++[ps]/\∀p∈ps,O.getD p.toNat []≠ []:=by
 unfold listsP at h;split at h
 ·cases h
 ·rename_i hn;refine⟨(Option.some.inj h).symm,λp hp e=>hn (List.any_eq_true.2 ⟨p,hp,Ybw⟩)⟩
theorem sum_le{l:List Nat}{m:Nat}(h:∀x∈l,x<=m):l.sum<=l.length*m:=by
 induction l with
 | nil=>simp
 | cons x r ih=>
  have h1:=h x (.head _);have h2:=ih λy hy=>h y (.tail _ hy);rw[List.sum_cons,List.length_cons,Nat.add_mul,Nat.one_mul];omega
theorem bareL_le(l:List Int):(bareL l).length<=l.length:=List.length_filter_le _ _
theorem lists_total(hO:OrdsOk O)(hps:ps.length<=3)(h:listsP O ps=some all):total all<=3*(O.length+1)+3/\all.length<=4:=by
 obtain⟨rfl,_⟩:=lists_mem h;constructor
 ·simp only[total,List.map_append,List.map_map,List.map_cons,List.map_nil,List.sum_append,List.sum_cons,List.sum_nil];have h1:=sum_le (l:=ps.map (List.length∘λp=>bareL (O.getD p.toNat []))) (m:=O.length+1) (λx hx=>by
   obtain⟨p,hp,rfl⟩:=List.mem_map.1 hx;exact Nat.le_trans (bareL_le _) (hO.len _))
  rw[List.length_map] at h1;have h2:ps.length*(O.length+1)<=3*(O.length+1):=Nat.mul_le_mul_right _ hps;omega
 ·rw[List.length_append,List.length_map,List.length_singleton];omega
theorem orderP_ok(hO:OrdsOk O)(hps:psOk O.length ps):OrdOk O.length (orderP O O.length ps):=by
 unfold orderP;split
 ·rename_i h0;exact⟨Yx,Yx⟩
 rename_i h0;cases hl:listsP O ps with
 | none=>exact⟨Yx,Yx⟩
 | some all=>
  simp only;split
  ·obtain⟨rfl,hne⟩:=lists_mem hl;have key:∀l∈ps.map (λp=>bareL (O.getD p.toNat []))++[ps],∀x∈l,0<x/\x<O.length:=by
    intro l hl x hx;rcases List.mem_append.1 hl with h | h
    ·obtain⟨p,hp,rfl⟩:=List.mem_map.1 h;simp only[bareL,List.mem_filter,bne_iff_ne,ne_eq] at hx;have hp2:=hps.2 p hp;have:=(hO p.toNat Yd).in_ x hx.1;omega
    ·simp at h;subst h;have:=hps.2 x hx;omega
   obtain⟨m1,m2⟩:=mergeN_ok (total (ps.map (λp=>bareL (O.getD p.toNat []))++[ps])+1) (ps.map (λp=>bareL (O.getD p.toNat []))++[ps]) [] Yx Yx;have m3:∀x∈(mergeP (ps.map (λp=>bareL (O.getD p.toNat []))++[ps])).1,0<x/\x<O.length:=λx hx=>by
    rcases m2 x hx with h | ⟨l,hl,hx⟩
    ·simp at h
    ·exact key l hl x hx
   refine⟨List.nodup_cons.2 ⟨λh=>?_,List.nodup_append.2 ⟨m1,Yx,λa ha b hb e=>?_⟩⟩,λy hy=>?_⟩
   ·rcases List.mem_append.1 h with h | h
    ·have:=m3 _ h;omega
    ·simp only[List.mem_singleton] at h;omega
   ·simp at hb;subst hb;subst e;have:=m3 _ ha;omega
   ·rcases List.mem_cons.1 hy with rfl | hy
    ·omega
    ·rcases List.mem_append.1 hy with h | h
     ·have:=m3 _ h;omega
     ·simp at h;omega
  ·exact⟨Yx,Yx⟩
theorem OrdsOk.snoc(hO:OrdsOk O)(hps:psOk O.length ps):OrdsOk (O++[orderP O O.length ps]):=by
 intro k hk;rw[List.length_append,List.length_singleton] at hk;by_cases h:k<O.length
 ·have e:(O++[orderP O O.length ps]).getD k []=O.getD k []:=by rw[List.getD_eq_getElem?_getD,List.getElem?_append_left h, <-List.getD_eq_getElem?_getD]
  rw[e];exact hO k h
 ·obtain rfl:k=O.length:=by omega
  rw[List.getD_eq_getElem?_getD,List.getElem?_append_right Yd,Nat.sub_self];exact orderP_ok hO hps
theorem fineL_in(i:Nat):∀(l seen:List Int),fineL i seen l=true->∀x∈l,3<=x/\x<3+i
 | [],_,_,x,hx=>by cases hx
 | y::r,seen,h,x,hx=>by
  simp only[fineL,Bool.and_eq_true,Bool.not_eq_true',Bool.or_eq_false_iff,decide_eq_false_iff_not] at h;rcases List.mem_cons.1 hx with rfl | hx
  ·omega
  ·exact fineL_in i r _ h.2 x hx
theorem fineG_ps:∀(g:List (List Int)) (i k:Nat),fineG i g=true->k<g.length->psOk (3+(i+k)) (g.getD k default)
 | [],i,k,_,hk=>by simp at hk
 | l::r,i,k,h,hk=>by
  simp only[fineG,Bool.and_eq_true,decide_eq_true_eq] at h;cases k with
  | zero=>exact⟨h.1.1,λp hp=>by have:=fineL_in i l [] h.1.2 p hp;omega⟩
  | succ k=>
   have:=fineG_ps r (i+1) k h.2 (by simpa using hk);rw[show 3+(i+(k+1))=3+(i+1+k) by omega,List.getD_cons_succ];exact this
theorem parsOf_len(g:List (List Int)):(parsOf g).length=3+g.length:=by simp[parsOf];omega
theorem parsOf_ps(h:fineP g=true)(k:Nat):psOk k ((parsOf g).getD k default):=by
 simp only[fineP,Bool.and_eq_true,decide_eq_true_eq] at h
 match k with
 | 0=>exact⟨by simp[parsOf],by simp[parsOf]⟩
 | 1=>exact⟨by simp[parsOf],by simp[parsOf]⟩
 | 2=>exact⟨by simp[parsOf],by simp[parsOf]⟩
 | k+3=>
  have e:(parsOf g).getD (k+3) default=g.getD k default:=rfl;rw[e];by_cases hk:k<g.length
  ·have:=fineG_ps g 0 k h.2 hk;rwa [Nat.zero_add,Nat.add_comm] at this
  ·rw[List.getD_eq_getElem?_getD,List.getElem?_eq_none Yd];exact⟨Nat.zero_le _,by intro p hp;cases hp⟩
theorem fineP_len(h:fineP g=true):g.length<=16:=by
 simp only[fineP,Bool.and_eq_true,decide_eq_true_eq] at h;exact h.1
theorem ordersN_snoc(x:List Int):∀(l:List (List Int)) (c:Nat) (out:List (List Int)),ordersN (l++[x]) c out=ordersN l c out++[orderP (ordersN l c out) (c+l.length) x]
 | [],c,out=>by simp[ordersN]
 | y::r,c,out=>by
  rw[List.cons_append,ordersN,ordersN,ordersN_snoc x r (c+1),List.length_cons];rw[show c+1+r.length=c+(r.length+1) by omega]
theorem ordersN_len:∀(l:List (List Int)) (c:Nat) (out:List (List Int)),(ordersN l c out).length=out.length+l.length
 | [],c,out=>by simp[ordersN]
 | y::r,c,out=>by rw[ordersN,ordersN_len r,List.length_append,List.length_cons,List.length_cons,List.length_nil];omega
def ordT(g:List (List Int))(k:Nat):List (List Int):=ordersN ((parsOf g).take k) 0 []
theorem ordT_len(h:k<=3+g.length):(ordT g k).length=k:=by
 rw[ordT,ordersN_len,List.length_take,parsOf_len,List.length_nil];omega
theorem ordT_succ(h:k<3+g.length):ordT g (k+1)=ordT g k++[orderP (ordT g k) (ordT g k).length ((parsOf g).getD k default)]:=by
 rw[ordT, <-take_getD (by rw[parsOf_len];exact h),ordersN_snoc, <-ordT,ordT_len Yd,List.length_take,parsOf_len,show 0+min k (3+g.length)=k by omega]
theorem ordT_all(g:List (List Int)):ordT g (3+g.length)=ordersP g:=by rw[ordT, <-parsOf_len,List.take_length];rfl
theorem ordT_ok{g:List (List Int)}(h:fineP g=true):∀k,k<=3+g.length->OrdsOk (ordT g k)
 | 0,_=>λk hk=>by simp[ordT,ordersN] at hk
 | k+1,hk=>by
  rw[ordT_succ Yd];exact (ordT_ok h k Yd).snoc (by rw[ordT_len Yd];exact parsOf_ps h k)
structure OrdMap(l:List (Int×AV))(O:List (List Int)):Prop where
 ok:IMapOk l
 get:∀k:Nat,getI l (k:Int)=if(O.getD k []).isEmpty then none else some (AV.ints (O.getD k []))
theorem OrdMap.nil:OrdMap [] []:=⟨.nil,λk=>by simp[getI]⟩
theorem getD_snoc(k:Nat):(O++[x]).getD k []=if k=O.length then x else O.getD k []:=by
 by_cases h:k<O.length
 ·rw[if_neg Yd,List.getD_eq_getElem?_getD,List.getElem?_append_left h, <-List.getD_eq_getElem?_getD]
 ·by_cases h2:k=O.length
  ·rw[if_pos h2,List.getD_eq_getElem?_getD,List.getElem?_append_right Yd,h2,Nat.sub_self];rfl
  ·rw[if_neg h2,List.getD_eq_getElem?_getD,List.getElem?_eq_none YaL,List.getD_eq_getElem?_getD,List.getElem?_eq_none Yd]
theorem OrdMap.skip(h:OrdMap l O):OrdMap l (O++[[]]):=by
 refine⟨h.ok,λk=>?_⟩;rw[h.get,getD_snoc];by_cases h2:k=O.length
 ·rw[if_pos h2,h2,List.getD_eq_getElem?_getD,List.getElem?_eq_none Yd];rfl
 ·rw[if_neg h2]
theorem OrdMap.put{l:List (Int×AV)}{O:List (List Int)}(h:OrdMap l O){x:List Int}(hx:x≠ [])(hs:O.length<=1000000):OrdMap (putI l (O.length:Int) (AV.ints x)) (O++[x]):=by
 refine⟨h.ok.put Yax _,λk=>?_⟩;rw[getI_put,getD_snoc];by_cases h2:k=O.length
 ·rw[if_pos (by rw[h2]),if_pos h2];cases x with
  | nil=>exact absurd rfl hx
  | cons a r=>rfl
 ·rw[if_neg Yd,if_neg h2,h.get]
theorem OrdMap.look(h:OrdMap l O)(k:Int)(hk:0<=k):AVle ((getI l k).getD (.val (.slice none 0 0))) (AV.ints (O.getD k.toNat [])):=by
 have:=h.get k.toNat;rw[show ((k.toNat:Nat):Int)=k by omega] at this;rw[this];split
 ·rename_i h0;rw[List.isEmpty_iff.1 h0];exact AVle.nil 1
 ·exact AVle.refl _
theorem lists_none{p:Int}(hp:p∈ps)(h:O.getD p.toNat []= []):listsP O ps=none:=by
 unfold listsP;rw[if_pos (List.any_eq_true.2 ⟨p,hp,by rw[h];rfl⟩)]
theorem lists_some(h:∀p∈ps,O.getD p.toNat []≠ []):listsP O ps=some (ps.map (λp=>bareL (O.getD p.toNat []))++[ps]):=by
 unfold listsP;rw[if_neg];intro hn;obtain⟨p,hp,he⟩:=List.any_eq_true.1 hn;exact h p hp (List.isEmpty_iff.1 he)
theorem ordT_succ'(h:k<3+g.length):ordT g (k+1)=ordT g k++[orderP (ordT g k) k ((parsOf g).getD k default)]:=by
 rw[ordT_succ h,ordT_len Yd]
abbrev AV.sets(l:List Nat):AV:=.sl 1 (l.map λs=>[AV.set s])
abbrev nilRows:List (List AV):=[[.val (.slice none 0 0)],[.val (.slice none 0 0)],[.val (.slice none 0 0)]]
abbrev gRows(g:List (List Int)):List (List AV):=g.map λx=>[AV.ints x]
theorem gRows_flat(g:List (List Int)):(gRows g).flatten.length=g.length:=by
 rw[flatten_len (k:=1) (λx hx=>by obtain⟨y,_,rfl⟩:=List.mem_map.1 hx;rfl),List.length_map,Nat.mul_one]
theorem rows_cells(g:List (List Int))(z:AV)(hz:z= .val (.slice none 0 0)):(List.replicate (3+g.length) z).take (0+3*1)++(gRows g).flatten++(List.replicate (3+g.length) z).drop (0+3*1+(gRows g).flatten.length)=(nilRows++gRows g).flatten++[]:=by
 subst hz;rw[gRows_flat,List.take_replicate,List.drop_replicate,show min (0+3*1) (3+g.length)=3 by omega,show 3+g.length - (0+3*1+g.length)=0 by omega];simp[nilRows]
theorem rows_le(g:List (List Int)):AVle (.sl 1 (nilRows++gRows g)) (AV.intss (parsOf g)):=by
 have e:AV.intss (parsOf g)= .sl 1 ([[AV.ints []],[AV.ints []],[AV.ints []]]++gRows g):=rfl;rw[e];exact AVle.sl (.cons (.cons (AVle.nil 1) .nil) (.cons (.cons (AVle.nil 1) .nil) (.cons (.cons (AVle.nil 1) .nil) (AVleE.refl _))))
theorem sets_snoc(l:List Nat)(s:Nat):AV.sl 1 ((l.map λs=>[AV.set s])++[[AV.set s]])=AV.sets (l++[s]):=by
 show _=AV.sl 1 (List.map _ (_++_));rw[List.map_append];rfl
theorem lt_get{l:List Nat}(h:∀x∈l,x<18446744073709551616)(k:Nat):l.getD k default<18446744073709551616:=by
 rw[List.getD_eq_getElem?_getD];by_cases hk:k<l.length
 ·rw[List.getElem?_eq_getElem hk];exact h _ (List.getElem_mem hk)
 ·rw[List.getElem?_eq_none Yd];show (0:Nat)<_;omega
theorem ord_cells(c:Int)(m:List Int):AV.ints (c::(m++[0]))= .sl 1 ([[.i c]]++m.map (λn=>[AV.i n])++[[.i 0]]):=by
 show AV.sl 1 (List.map _ (c::(m++[0])))=_;rw[List.map_cons,List.map_append];rfl
theorem order_zero(h:O.length=0):orderP O O.length ps= [0]:=by rw[orderP,if_pos h]
theorem order_none(h:O.length≠0)(hl:listsP O ps=none):orderP O O.length ps= []:=by rw[orderP,if_neg h,hl]
theorem order_yes(h:O.length≠0)(hl:listsP O ps=some all)(hm:(mergeP all).2=true):orderP O O.length ps=(O.length:Int)::((mergeP all).1++[0]):=by
 rw[orderP,if_neg h,hl];simp only[hm,if_true]
theorem order_no(h:O.length≠0)(hl:listsP O ps=some all)(hm:(mergeP all).2=false):orderP O O.length ps= []:=by
 rw[orderP,if_neg h,hl];simp[hm]
theorem mem_two{α:Type}{a b:α}{H:List α}:∀e∈ [a,b],e∈a::b::H:=λe he=>by simp at he ⊢;rcases he with h | h <;> simp[h]
theorem intss_snocF{β:Type}(f:β->List Int)(l:List β)[Inhabited β]{k:Nat}(hk:k<l.length):AV.intss ((l.take (k+1)).map f)= .sl 1 (((l.take k).map f).map (λx=>[AV.ints x])++[[AV.ints (f (l.getD k default))]]):=by
 rw[<-take_getD hk,List.map_append];show AV.sl 1 (List.map _ (_++_))=_;rw[List.map_append];rfl
end Go.Eng.Bd
