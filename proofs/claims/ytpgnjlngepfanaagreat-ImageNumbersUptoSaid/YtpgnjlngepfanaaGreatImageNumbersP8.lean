/- Part 8 of the proof: contracts of functions of the program and what they need. No condition beyond those that each theorem names. -/
import Derived.Test.YtpgnjlngepfanaaGreatImageNumbersP7
set_option maxHeartbeats 1000000
set_option linter.unusedVariables false
set_option linter.unusedSimpArgs false
set_option maxRecDepth 10000
namespace Go.Proofs.YtpgnjlngepfanaaGreat
open Go.Eng
open Go.Eng.Fc
open Go.Eng.Bd
variable{l:List Int}{v:Int}{k i s off j:Nat}{W:FW}{U U':List Nat}{fs cs:List AV}{J:List Vis->List Ent->Prop}{Jp:AV->List Ent->Prop}
def idxP(l:List Int)(v:Int):Int:=match l.findIdx? (λx=>x==v) with | some i=>(i:Int) | none=>-1
theorem idxP_at(hk:k<l.length)(hp:∀x∈l.take k,x≠v)(h:v=l.getD k default):(k:Int)=idxP l v:=by
 have e:l.findIdx? (λx=>x==v)=some k:=by
  rw[List.findIdx?_eq_some_iff_getElem];refine⟨hk,?_,λj hj=>?_⟩
  ·rw[h,List.getD_eq_getElem?_getD,List.getElem?_eq_getElem hk];simp
  ·have:=hp (l[j]'Ya) YaU;simpa using this
 rw[idxP,e]
theorem idxP_none(hp:∀x∈l,x≠v):(-1:Int)=idxP l v:=by
 have e:l.findIdx? (λx=>x==v)=none:=by
  rw[List.findIdx?_eq_none_iff];intro x hx;simpa using hp x hx
 rw[idxP,e]
theorem idxP_contains(l:List Int)(v:Int):decide (idxP l v>=0)=l.contains v:=by
 unfold idxP;cases h:l.findIdx? (λx=>x==v) with
 | none=>
  rw[List.findIdx?_eq_none_iff] at h;symm;simp;intro hx;have:=h v hx;simp at this
 | some i=>
  rw[List.findIdx?_eq_some_iff_getElem] at h;obtain⟨hi,h1,_⟩:=h;symm;simp;have:l[i]=v:=by simpa using h1
  rw[<-this];exact List.getElem_mem hi
theorem ne_step(hk:k<l.length)(hp:∀x∈l.take k,x≠v)(h:v≠l.getD k default):∀x∈l.take (k+1),x≠v:=by
 rw[<-take_getD hk];intro x hx;rcases List.mem_append.1 hx with hx | hx
 ·exact hp x hx
 ·simp at hx;rw[hx];intro e;apply h;simp[e]
theorem p100(l:List Int)(v:Int):PCall Tryz.prog 103 [AV.ints l,.i v] (.i (idxP l v)):=by
 intro H;refine aC (n:=19) Tryz.func103 λB I w0=>?_;refine CW.boundM (t:=0) rfl (λhb0=>?_);refine Z14 ?_;refine lj (λm st=>∃k:Nat,st=⟨[(8,.i k),(7,.i l.length),(0,AV.ints l),(1,.i v)],H⟩/\m=l.length - k/\k<=l.length/\∀x∈l.take k,x≠v) (⟨0,rfl,rfl,Yr,Yr⟩) ?_;rintro m _ ⟨k,rfl,rfl,hk,hp⟩;refine Z6 ?_;refine cd (λh0=>?_) λh0=>?_
 ·refine Z20 ?_;refine cd (λh1=>?_) λh1=>?_
  ·refine Z12 ?_;refine r1 4 (H) ?_;exact⟨retI (idxP_at Ya hp h1),rfl⟩
  ·refine Z7 ?_;exact ag (⟨k+1,rfl,rfl,Ya,ne_step Ya hp h1⟩)
 ·refine Z11 ?_;refine r1 4 (H) ?_;exact⟨retI (idxP_none Yag),rfl⟩
theorem p33(l:List Int)(v:Int):PCall Tryz.prog 38 [AV.ints l,.i v] (.b (l.contains v)):=by
 intro H;refine aC (n:=9) Tryz.func38 λB I w0=>?_;refine Z9 ?_;refine oP (POp.call .k ((p100 _ _))) ?_;refine Z5 ?_;refine r1 4 (H) ?_;exact⟨retB (idxP_contains _ _),rfl⟩
def U0(k:Nat):List Nat:=[1,3,5].take k++List.replicate (63 - k) 0
theorem U0_set(h:k<3):(U0 k).set k (1 ||| 2^(k:Int).toNat)=U0 (k+1):=by
 have:k=0\/k=1\/k=2:=by omega
 rcases this with rfl | rfl | rfl <;> rfl
theorem U0_len(h:k<=3):(U0 k).length=63:=by simp[U0];omega
theorem up_set'(h:i<U.length)(hU:U.set i s=U'):(Wcells W++U.map λs=>AV.set s).take (2+i)++[AV.set s]++(Wcells W++U.map λs=>AV.set s).drop (2+i+1)=Wcells W++U'.map λs=>AV.set s:=hU▸up_set h
theorem up_fit(ho:off=2+i)(h:i<U.length):Nat.ble (off+1) (Wcells W++U.map λs=>AV.set s).length=true:=by
 subst ho;rw[Nat.ble_eq];simp[Wcells];omega
theorem world_big(h:(bif decide ((W.parents.length:Int)>60) then true else decide ((W.owner.length:Int)>40))=true):worldP W=false:=by
 rw[bif_or] at h;simp only[Bool.or_eq_true,decide_eq_true_eq] at h;unfold worldP;rcases h with h | h
 ·have:decide (W.parents.length<=60)=false:=by simp;omega
  simp[this]
 ·have:decide (W.owner.length<=40)=false:=by simp;omega
  simp[this]
theorem world_small(h:(bif decide ((W.parents.length:Int)>60) then true else decide ((W.owner.length:Int)>40))=false):W.parents.length<=60/\W.owner.length<=40:=by
 rw[bif_or] at h;simp only[Bool.or_eq_false_iff,decide_eq_false_iff_not] at h;omega
theorem world_val(h:W.parents.length<=60/\W.owner.length<=40):worldP W=(parentssP 0 W.parents && W.owner.all (ownP W)):=by
 simp[worldP,h.1,h.2]
theorem parents_step{l:List (List Int)}(hk:k<l.length):parentssP k (l.drop k)=(parentsP k [] (l.getD k default) && parentssP (k+1) (l.drop (k+1))):=by
 rw[List.drop_eq_getElem_cons hk,parentssP,List.getD_eq_getElem?_getD,List.getElem?_eq_getElem hk];rfl
theorem ups_step{l:List (List Int)}(U:List Nat)(hk:k<l.length):upsFrom (l.drop k) k U=upsFrom (l.drop (k+1)) (k+1) (U.set (3+k) (upFold U k (l.getD k default))):=by
 rw[List.drop_eq_getElem_cons hk,upsFrom,List.getD_eq_getElem?_getD,List.getElem?_eq_getElem hk];rfl
theorem parent_step(hj:j<l.length):parentsP i (l.take j) (l.drop j)=(!(decide (l.getD j default<3) || decide (l.getD j default>=3+i) || (l.take j).contains (l.getD j default)) && parentsP i (l.take (j+1)) (l.drop (j+1))):=by
 rw[List.drop_eq_getElem_cons hj,parentsP, <-take_getD hj,List.getD_eq_getElem?_getD,List.getElem?_eq_getElem hj];rfl
theorem getD_lt{α:Type}[Inhabited α]{l:List α}{j:Nat}(h:j<l.length):l.getD j default=l[j]:=by rw[List.getD_eq_getElem?_getD,List.getElem?_eq_getElem h];rfl
theorem up_get'(ho:off=2+i)(h:i<U.length):(Wcells W++U.map λs=>AV.set s)[off]? =some (AV.set (U.getD i 0)):=ho▸up_get h
theorem up_setO(ho:off=2+i)(h:i<U.length)(hU:U.set i s=U'):(Wcells W++U.map λs=>AV.set s).take off++[AV.set s]++(Wcells W++U.map λs=>AV.set s).drop (off+1)=Wcells W++U'.map λs=>AV.set s:=ho▸up_set' h hU
theorem fold_step(hj:j<l.length):(l.drop j).foldl (λs (p:Int)=>s ||| U.getD p.toNat 0) s=(l.drop (j+1)).foldl (λs (p:Int)=>s ||| U.getD p.toNat 0) (s ||| U.getD (l.getD j default).toNat 0):=by
 rw[List.drop_eq_getElem_cons hj,List.foldl_cons,getD_lt hj]
theorem parent_ok{r:Bool}(hj:j<l.length)(hp:parentsP k (l.take j) (l.drop j)=r)(h:(bif bif decide (l.getD j default<3) then true else decide (3+(k:Int)<=l.getD j default) then true else (l.take j).contains (l.getD j default))=false):
  3<=l.getD j default/\l.getD j default<3+k/\parentsP k (l.take (j+1)) (l.drop (j+1))=r:=by
 rw[bif_or,bif_or] at h;have h0:=h;simp only[Bool.or_eq_false_iff,decide_eq_false_iff_not] at h0;refine⟨Ya,Ya,?_⟩;rw[parent_step hj] at hp;have e:(decide (l.getD j default<3) || decide (l.getD j default>=3+(k:Int)) || (l.take j).contains (l.getD j default))=false:=h;rw[e] at hp;simpa using hp
theorem parent_no{r:Bool}(hj:j<l.length)(hp:parentsP k (l.take j) (l.drop j)=r)(h:(bif bif decide (l.getD j default<3) then true else decide (3+(k:Int)<=l.getD j default) then true else (l.take j).contains (l.getD j default))=true):r=false:=by
 rw[bif_or,bif_or] at h;rw[parent_step hj] at hp;have e:(decide (l.getD j default<3) || decide (l.getD j default>=3+(k:Int)) || (l.take j).contains (l.getD j default))=true:=h;rw[e] at hp;simpa using hp.symm
theorem world_parent_no(hW:W.parents.length<=60/\W.owner.length<=40)(hk:k<W.parents.length)(hpar:parentssP k (W.parents.drop k)=parentssP 0 W.parents)(h:parentsP k [] (W.parents.getD k default)=false):worldP W=false:=by
 rw[parents_step hk,h] at hpar;rw[world_val hW, <-hpar];rfl
theorem u_get(hU:∀x∈U,x<18446744073709551616)(i:Nat):U.getD i 0<18446744073709551616:=by
 rw[List.getD_eq_getElem?_getD];by_cases h:i<U.length
 ·rw[List.getElem?_eq_getElem h];exact hU _ (List.getElem_mem h)
 ·rw[List.getElem?_eq_none Ya];decide
theorem u_set(hU:∀x∈U,x<18446744073709551616){i s:Nat}(hs:s<18446744073709551616):∀x∈U.set i s,x<18446744073709551616:=by
 intro x hx;rcases List.mem_or_eq_of_mem_set hx with h | h
 ·exact hU x h
 ·exact h▸hs
theorem or64{s t:Nat}(hs:s<18446744073709551616)(ht:t<18446744073709551616):s ||| t<18446744073709551616:=Nat.or_lt_two_pow (n:=64) hs ht
theorem pow64(h:k<64):2^k<18446744073709551616:=Nat.pow_lt_pow_right (a:=2) (n:=64) Ya h
theorem p105(W:FW):PCall Tryz.prog 250 [AV.world W] (.tup [if worldP W then Wptr W else .one,.b (worldP W)]):=by
 intro H;refine aC (n:=91) Tryz.func250 λB I w0=>?_;refine CW.boundA (t:=0) (i:=0) rfl rfl (λhb0=>?_);refine CW.boundA (t:=0) (i:=1) rfl rfl (λhb1=>?_);refine Z22 ?_;refine CW.cond rfl (λh0=>?_) (λh0=>?_)
 ·have hw:worldP W=false:=world_big h0;refine Z8 ?_;refine Done.retR (rs:=[.tmp 2,.tmp 3]) (H':=H) rfl (.tmp rfl (.tmp rfl (.nil))) (.cons (AVle.one rfl (λ_ h=>by cases h)) (.cons (AVle.refl _) .nil)) Yc ?_;exact⟨by rw[hw];rfl,rfl⟩
 ·have hW:=world_small h0;refine Z6 ?_;refine OL.boxC rfl rfl rfl rfl rfl rfl rfl (λb0=>?_);refine Z10 ?_;refine lj (λm st=>∃k:Nat,st=⟨[(24,.i k),(4,.p b0 0),(1,.ptr (Wcells W))],.blk b0 309 (Wcells W++(U0 k).map λs=>AV.set s)::H⟩/\m=3 - k/\k<=3) (⟨0,rfl,rfl,Ya⟩) ?_;rintro m _ ⟨k,rfl,rfl,hk⟩;refine Z6 ?_;refine cd (λh1=>?_) λh1=>?_
  ·refine Z10 ?_;refine CW.dp mixed ?_;refine DP.anyC 0 6 91 rfl Ye rfl rfl Ye ?_;refine Z3 ?_;refine AD.popC rfl rfl rfl (POp.call .k (p151 1 k Ya Ya)) ?_;refine Z5 ?_;apply OL.stoC rfl rfl rfl rfl rfl rfl rfl rfl rfl rfl
   (case hu=>repeat (first | exact Upd.head _ _ _ | apply Upd.tail));(case hfit=>exact up_fit (i:=k) Yr (by rw[U0_len hk];omega));(case hds=>exact up_setO (i:=k) Yr (by rw[U0_len hk];omega) (U0_set Ya))
   refine Z7 ?_;exact ag (⟨k+1,rfl,rfl,Ya⟩)
  ·obtain rfl:k=3:=by omega
   refine Z15 ?_;refine lj (λm st=>∃(k:Nat) (U:List Nat),st=⟨[(38,.i k),(37,.i W.parents.length),(36,AV.intss W.parents),(4,.p b0 0),(1,.ptr (Wcells W))],.blk b0 309 (Wcells W++U.map λs=>AV.set s)::H⟩/\m=W.parents.length - k/\k<=W.parents.length/\U.length=63/\(∀x∈U,x<18446744073709551616)/\upsFrom (W.parents.drop k) k U=upsP W/\parentssP k (W.parents.drop k)=parentssP 0 W.parents) (⟨0,U0 3,rfl,rfl,Ya,rfl,YO,rfl,rfl⟩) ?_;rintro m _ ⟨k,U,rfl,rfl,hk,hlen,hU,hup,hpar⟩;refine Z6 ?_;refine cd (λh2=>?_) λh2=>?_
   ·refine Z17 ?_;refine oP (POp.call .k (p151 1 (3+k) Ya Ya)) ?_;refine Z5 ?_;refine CW.boundM (t:=7) rfl (λhbl=>?_);refine Z7 ?_;refine lj (λm st=>∃(j s:Nat),st=⟨[(48,.i j),(47,.i (W.parents.getD k default).length),(46,AV.ints (W.parents.getD k default)),(8,AV.set s),(6,.i k),(7,AV.ints (W.parents.getD k default)),(38,.i k),(37,.i W.parents.length),(36,AV.intss W.parents),(4,.p b0 0),(1,.ptr (Wcells W))],.blk b0 309 (Wcells W++U.map λs=>AV.set s)::H⟩/\m=(W.parents.getD k default).length - j/\j<=(W.parents.getD k default).length/\s<18446744073709551616/\((W.parents.getD k default).drop j).foldl (λs (p:Int)=>s ||| U.getD p.toNat 0) s=upFold U k (W.parents.getD k default)/\parentsP k ((W.parents.getD k default).take j) ((W.parents.getD k default).drop j)=parentsP k [] (W.parents.getD k default)) (⟨0,1 ||| 2^((3:Int)+k).toNat,rfl,rfl,Ya,or64 Ya (pow64 Ya),by rw[show ((3:Int)+k).toNat=3+k from by omega];rfl,rfl⟩) ?_;rintro m _ ⟨j,s,rfl,rfl,hj,hs,hf,hp⟩;refine Z6 ?_;refine cd (λh3=>?_) λh3=>?_
    ·refine Z27 ?_;refine OL.guardC rfl rfl rfl rfl rfl rfl (λhg=>POp.slTo rfl rfl YY rfl YY Ya) ?_;refine Z1 ?_;refine OL.guardC rfl rfl rfl rfl rfl rfl (λhg=>POp.call (.mk' rfl rfl rfl rfl Yd) (p33 _ _)) ?_;refine Z3 ?_;refine cd (λh4=>?_) λh4=>?_
     ·have hw:worldP W=false:=world_parent_no hW Ya hpar (parent_no Ya hp h4);refine Z18 ?_;refine Done.retR (rs:=[.tmp 2,.tmp 3]) (H':=H) rfl (.tmp rfl (.tmp rfl (.nil))) (.cons (AVle.one rfl (λ_ h=>by cases h)) (.cons (AVle.refl _) .nil)) Yc ?_;exact⟨by rw[hw];rfl,rfl⟩
     ·obtain⟨hp0,hp1,hp2⟩:=parent_ok Ya hp h4;refine Z9 ?_;refine oP ((by first | exact POp.ld1 rfl rfl rfl rfl | (apply POp.ld1H rfl rfl rfl;(case hm=>repeat (first | exact .head _ | refine .tail _ ?_));(case hy=>exact up_get' (i:=((W.parents.getD k default).getD j default).toNat) Ya Ya)))) ?_;refine oP (POp.bits rfl rfl rfl rfl rfl (bit_or _ _ hs (u_get hU _))) ?_;refine Z8 ?_;exact ag (⟨j+1,s ||| U.getD ((W.parents.getD k default).getD j default).toNat 0,rfl,rfl,Ya,or64 hs (u_get hU _),by rw[<-fold_step Ya];exact hf,hp2⟩)
    ·obtain rfl:j=(W.parents.getD k default).length:=by omega
     rw[List.drop_length,List.foldl_nil] at hf;rw[List.drop_length,List.take_length,parentsP] at hp;subst hf;refine Z13 ?_;apply OL.stoC rfl rfl rfl rfl rfl rfl rfl rfl rfl rfl
     (case hu=>repeat (first | exact Upd.head _ _ _ | apply Upd.tail));(case hfit=>exact up_fit (i:=3+k) Ya Ya);(case hds=>exact up_setO (i:=3+k) Ya Ya rfl)
     refine Z7 ?_;exact ag (⟨k+1,U.set (3+k) (upFold U k (W.parents.getD k default)),rfl,rfl,Ya,by simp[hlen],u_set hU hs,by rw[<-ups_step U Ya];exact hup,by rw[parents_step Ya, <-hp] at hpar;simpa using hpar⟩)
   ·obtain rfl:k=W.parents.length:=by omega
    rw[List.drop_length,upsFrom] at hup;subst hup;rw[List.drop_length,parentssP] at hpar;refine Z6 ?_;refine CW.freezeP (d:=4) rfl Yl ?_;refine Z6 ?_;refine oP (POp.call .k (p152 (.of (λx=>p153 W x hW.1)) W.owner)) ?_;refine Z5 ?_;refine Done.retR (rs:=[.tmp 2,.tmp 3]) (H':=H) rfl (.tmp rfl (.tmp rfl (.nil))) (.cons (AVle.ite1 (c:=worldP W=true) rfl (λ_ h=>by cases h)) (.cons (AVle.refl _) .nil)) Yc ?_;exact⟨by rw[world_val hW, <-hpar];rfl,rfl⟩
theorem p105t(h:worldP W=true):PCall Tryz.prog 250 [AV.world W] (.tup [Wptr W,.b true]):=by have:=p105 W;rwa [if_pos h,h] at this
theorem p105f(h:worldP W=false):PCall Tryz.prog 250 [AV.world W] (.tup [.one,.b false]):=by have:=p105 W;rwa [if_neg Yv,h] at this
theorem world_len(h:worldP W=true):W.parents.length<=60:=by simp[worldP] at h;exact h.1.1.1
theorem world_own(h:worldP W=true):W.owner.length<=40:=by simp[worldP] at h;exact h.1.1.2
theorem p80t(h:worldP W=true)(l:List Fact):PCall Tryz.prog 229 [AV.world W,AV.facts l] (.tup [Wptr W,.b (l.all (formedP W))]):=by
 intro H;refine aC (n:=20) Tryz.func229 λB I w0=>?_;have hW:=world_len h;refine Z10 ?_;refine oP (POp.call .k (p105t h)) ?_;refine Z14 ?_;refine OL.guardC rfl rfl rfl rfl rfl rfl (λhg=>POp.call (.mk' rfl rfl rfl rfl Yd) (p131 W hW l)) ?_;refine Z6 ?_;refine rR [.tmp 4,.tmp 5] (H) ?_;exact⟨Yg,rfl⟩
theorem p80f(h:worldP W=false)(l:List Fact):PCall Tryz.prog 229 [AV.world W,AV.facts l] (.tup [.one,.b false]):=by
 intro H;refine aC (n:=20) Tryz.func229 λB I w0=>?_;refine Z10 ?_;refine oP (POp.call .k (p105f h)) ?_;refine Z14 ?_;refine OL.guardC (x:=.b false) rfl rfl rfl rfl rfl rfl (λhg=>absurd hg Yr) ?_;refine Z6 ?_;refine rR [.tmp 4,.tmp 5] (H) ?_;exact⟨Yg,rfl⟩
theorem refused(b:Bool):PCall Tryz.prog 230 [.b b] (.i (if b then 0 else 2)):=by
 intro H;refine aC (n:=5) Tryz.func230 λB I w0=>?_;refine Z12 ?_;refine cd (λh0=>?_) λh0=>?_
 ·refine Z7 ?_;refine r1 2 (H) ?_;exact⟨retI Yt,rfl⟩
 ·refine Z8 ?_;refine r1 2 (H) ?_;exact⟨retI Yt,rfl⟩
theorem factFormedT{W:Fc.FW}(h:worldP W=true)(f:Fact):PCall Tryz.prog 202 [AV.world W,AV.fact f] (.i (if formedP W f then 0 else 2)):=by
 intro H;refine aC (n:=16) Tryz.func202 λB I w0=>?_;refine Z11 ?_;refine oP (POp.rowK [(_,AV.fact f)] rfl rfl (by first | rfl | simp_all) rfl rfl rfl rfl rfl) ?_;refine oP (POp.callLe .k (.cons (.refl _) (.cons (AVle_facts [f] YaI) .nil)) (by have:=p80t h [f];rwa [List.all_cons,List.all_nil,Bool.and_true] at this)) ?_;refine Z10 ?_;refine oP (POp.call .k ((refused _))) ?_;refine Z4 ?_;refine r1 4 (H) ?_;exact⟨Yg,rfl⟩
theorem factFormedF{W:Fc.FW}(h:worldP W=false)(f:Fact):PCall Tryz.prog 202 [AV.world W,AV.fact f] (.i 2):=by
 intro H;refine aC (n:=16) Tryz.func202 λB I w0=>?_;refine Z11 ?_;refine oP (POp.rowK [(_,AV.fact f)] rfl rfl (by first | rfl | simp_all) rfl rfl rfl rfl rfl) ?_;refine oP (POp.callLe .k (.cons (.refl _) (.cons (AVle_facts [f] YaI) .nil)) (p80f h [f])) ?_;refine Z10 ?_;refine oP (POp.call .k ((refused _))) ?_;refine Z4 ?_;refine r1 4 (H) ?_;exact⟨Yg,rfl⟩
theorem keepI{f:Fn}{p:Int->Bool}(hg:PredOk Tryz.prog (.fn f fs cs) AV.i p)(l:List Int)(hl:l.length<=1000000):PCall Tryz.prog 303 [AV.ints l,.fn f fs cs] (AV.ints (l.filter p)):=by
 intro H;refine aC (n:=23) Tryz.func303 λB I w0=>?_;refine Z12 ?_;refine CW.ownNil 5 3 1 rfl ?_;refine Z7 ?_;refine lj (λm st=>∃(i:Nat) (v:Value),st=⟨[(10,.i i),(9,.i l.length),(8,AV.ints l),(1,.fn f fs cs),(5,.as (AV.ints ((l.take i).filter p)) v)],.own 3 1 v::H⟩/\m=l.length - i/\i<=l.length) (⟨0,_,rfl,rfl,Ya⟩) ?_;rintro m _ ⟨i,v,rfl,rfl,hi⟩;refine Z6 ?_;refine cd (λh0=>?_) λh0=>?_
 ·have hil:i<l.length:=by omega
  refine Z15 ?_;refine OL.vcallC rfl rfl rfl rfl rfl rfl rfl rfl (AVleL.refl _) (hg B _ _) ?_;rintro _ _ ⟨rfl,rfl⟩;refine Z2 ?_;refine cd (λh1=>?_) λh1=>?_
  ·refine Z3 ?_;refine OL.popC (x:=.sl 1 [[.i (l.getD i default)]]) rfl rfl rfl (POp.row rfl rfl Yh rfl rfl rfl rfl rfl rfl) ?_;refine OL.appendC rfl rfl rfl rfl rfl rfl rfl rfl (AVle.refl _) (rfl) (λv=>by repeat (first | exact Upd.head _ _ _ | apply Upd.tail)) Yae Yae (λv20=>?_);refine Z8 ?_;exact ag (⟨i+1,v20,by rw[filter_yes hil h1],rfl,hil⟩)
  ·refine Z7 ?_;exact ag (⟨i+1,v,by rw[filter_no hil h1],rfl,hil⟩)
 ·obtain rfl:i=l.length:=by omega
  rw[List.take_length];refine Z12 ?_;refine Done.retR (rs:=[.tmp 4]) (H':=H) rfl (.tmp rfl (.nil)) (.cons (AVle.asL _ _) .nil) Yc ?_;exact⟨Yg,rfl⟩
theorem bare1(n:Int):PCall Tryz.prog 308 [.i n] (.b (n !=0)):=by
 intro H;refine aC (n:=5) Tryz.func308 λB I w0=>?_;refine Z13 ?_;refine r1 2 (H) ?_;exact⟨Yg,rfl⟩
theorem bareC(l:List Int)(hl:l.length<=1000000):PCall Tryz.prog 302 [AV.ints l] (AV.ints (bareL l)):=by
 intro H;refine aC (n:=5) Tryz.func302 λB I w0=>?_;refine Z8 ?_;refine oP (POp.call .k (keepI (.of bare1) l hl)) ?_;refine Z4 ?_;refine r1 2 (H) ?_;exact⟨Yg,rfl⟩
theorem merge1(h n:Int):PCall Tryz.prog 304 [.i n,.ptr [.i h]] (.b (n !=h)):=by
 intro H;refine aC (n:=7) Tryz.func304 λB I w0=>?_;refine Z14 ?_;refine r1 3 (H) ?_;exact⟨Yg,rfl⟩
theorem mergeC(all:List (List Int))(ht:total all<=1000)(hl:all.length<=1000):PCall Tryz.prog 288 [AV.intss all] (.tup [AV.ints (mergeP all).1,.b (mergeP all).2]):=by
 intro H;refine aC (n:=66) Tryz.func288 λB I w0=>?_;refine Z6 ?_;refine CW.scope ?_;refine Z6 ?_;refine CW.label ?_;refine Z2 ?_;refine CW.ownNil 4 3 1 rfl ?_;refine lj (λm st=>∃(A:List (List Int)) (out:List Int) (n:Nat) (v:Value),st=⟨[(0,AV.intss A),(4,.as (AV.ints out) v)],.own 3 1 v::H⟩/\m=n/\total A<n/\mergeN n A out=mergeP all/\total A+out.length<=total all/\A.length=all.length) (⟨all,[],total all+1,_,rfl,rfl,Ya,rfl,Yr,rfl⟩) ?_;rintro m _ ⟨A,out,n,v,rfl,rfl,hn,hm,hto,hA⟩;obtain⟨n,rfl⟩:∃q,m=q+1:=⟨m - 1,Ya⟩;refine Z1 ?_;refine CW.scope ?_;refine Z6 ?_;refine CW.label ?_;refine Z10 ?_;refine lj (λm st=>∃(i:Nat) (lf:Bool),st=⟨[(16,.i i),(15,.i A.length),(14,AV.intss A),(5,.b lf),(0,AV.intss A),(4,.as (AV.ints out) v)],.own 3 1 v::H⟩/\m=A.length - i/\i<=A.length/\lf= !((A.take i).all List.isEmpty)/\nextH A A=nextH A (A.drop i)) (⟨0,false,rfl,rfl,Ya,rfl,rfl⟩) ?_;rintro m _ ⟨i,lf,rfl,rfl,hi,hlf,hnx⟩;refine Z6 ?_;refine cd (λh0=>?_) λh0=>?_
 ·have hil:i<A.length:=by omega
  obtain⟨L,hL⟩:∃L,L=A.getD i default:=⟨_,rfl⟩;have hdr:=drop_getD hil;rw[<-hL] at hdr;have hLt:=len_total A i hil;rw[<-hL] at hLt;refine Z13 ?_;rw[<-hL];refine Z6 ?_;refine cd (λh1=>?_) λh1=>?_
  ·have hLe:L= []:=List.eq_nil_of_length_eq_zero Ya;refine Z8 ?_;exact ag (⟨i+1,lf,rfl,rfl,hil,by rw[all_takeB hil, <-hL,hLe,hlf];simp,by rw[hnx,hdr,next_nil hLe]⟩)
  ·have hLn:0<L.length:=by omega
   refine Z16 ?_;refine lj (λm st=>∃j:Nat,st=⟨[(25,.i j),(24,.i A.length),(23,AV.intss A),(7,AV.ints L),(16,.i i),(15,.i A.length),(14,AV.intss A),(5,.b true),(0,AV.intss A),(4,.as (AV.ints out) v)],.own 3 1 v::H⟩/\m=A.length - j/\j<=A.length/\((A.take j).any λm=>m.tail.contains (L.getD 0 default))=false) (⟨0,rfl,rfl,Ya,rfl⟩) ?_;rintro m _ ⟨j,rfl,rfl,hj,hany⟩;refine Z6 ?_;refine cd (λh2=>?_) λh2=>?_
   ·have hjl:j<A.length:=by omega
    obtain⟨M,hM⟩:∃M,M=A.getD j default:=⟨_,rfl⟩;refine Z12 ?_;rw[<-hM];refine CW.dp mixed ?_;refine Z16 ?_;refine DP.anyC 4 9 66 rfl Ye rfl rfl Ye ?_;refine Z1 ?_;refine AD.guardC rfl rfl rfl rfl rfl (λhg=>POp.slFrom (n:=1) rfl rfl YY rfl YY (by have:=of_decide_eq_true hg;omega)) ?_;refine Z5 ?_;refine OL.guardC rfl rfl rfl rfl rfl rfl (λhg=>POp.call (.mk' rfl rfl rfl rfl Yd) ((sContains _ _))) ?_;refine Z3 ?_;refine cd (λh3=>?_) λh3=>?_
    ·refine Z12 ?_;exact ag (⟨i+1,true,rfl,rfl,hil,by rw[all_takeB hil, <-hL,len_empty hLn,Bool.and_false];rfl,by rw[hnx,hdr,next_no hLn (by rw[headOk_any,any_getD hjl (by rw[<-hM];exact head_in h3)];rfl)]⟩)
    ·refine Z7 ?_;exact ag (⟨j+1,rfl,rfl,hjl,by rw[any_takeB hjl,hany, <-hM,head_out h3];rfl⟩)
   ·obtain rfl:j=A.length:=by omega
    rw[List.take_length] at hany;obtain⟨h,hh⟩:∃h,h=L.getD 0 default:=⟨_,rfl⟩;rw[<-hh] at hany;have hsome:nextH A A=some h:=by rw[hnx,hdr,next_yes hLn (by rw[headOk_any, <-hh,hany];rfl),hh]
    have hlt:=total_lt h A i hil (by rw[<-hL,hh];exact getD_memB hLn);have hle:=total_dropH h A;refine Z10 ?_;refine OL.alC rfl rfl rfl rfl (λb0=>?_);refine Z4 ?_;refine CW.freezeP (d:=10) rfl Yl ?_;rw[<-hh];refine Z3 ?_;refine OL.popC (x:=.sl 1 [[.i h]]) rfl rfl rfl (POp.row rfl rfl Yh rfl rfl rfl rfl rfl rfl) ?_;refine OL.appendC rfl rfl rfl rfl rfl rfl rfl rfl (AVle.refl _) (rfl) (λv=>by repeat (first | exact Upd.head _ _ _ | apply Upd.tail)) Yk Yk (λv47=>?_);refine Z10 ?_;refine CW.ownNil 11 23 1 rfl ?_;refine Z7 ?_;refine lj (λm st=>∃(k:Nat) (w:Value),st=⟨[(50,.i k),(49,.i A.length),(48,AV.intss A),(11,.as (AV.intss (dropH h (A.take k))) w),(10,.ptr [.i h]),(4,.as (.sl 1 ((out.map λn=>[AV.i n])++[[AV.i h]])) v47)],.own 23 1 w::.own 3 1 v47::H⟩/\m=A.length - k/\k<=A.length) (⟨0,_,rfl,rfl,Ya⟩) ?_;rintro m _ ⟨k,w,rfl,rfl,hk⟩;refine Z6 ?_;refine cd (λh4=>?_) λh4=>?_
    ·have hkl:k<A.length:=by omega
     have hkt:=len_total A k hkl;refine Z15 ?_;refine oP (POp.call .k (keepI (.of (merge1 h)) (A.getD k default) Ya)) ?_;refine OL.popC (x:=.sl 1 [[AV.ints ((A.getD k default).filter (· !=h))]]) rfl rfl rfl (POp.row rfl rfl Yh rfl rfl rfl rfl rfl rfl) ?_;refine OL.appendC rfl rfl rfl rfl rfl rfl rfl rfl (AVle.refl _) (rfl) (λv=>by repeat (first | exact Upd.head _ _ _ | apply Upd.tail)) YE YE (λv59=>?_);refine Z8 ?_;exact ag (⟨k+1,v59,by rw[dropH_snoc _ hkl],rfl,hkl⟩)
    ·obtain rfl:k=A.length:=by omega
     rw[List.take_length];refine Z6 ?_;refine CW.le 11 (y:=AV.intss (dropH h A)) rfl (AVle.asL _ _) ?_;refine Z11 ?_;refine Done.scopeX ?_;refine Z1 ?_;exact ag (⟨dropH h A,out++[h],n,v47,by rw[ints_snoc],rfl,Ya,by rw[<-hm,merge_some hsome],YaH,by rw[dropH_len,hA]⟩)
 ·obtain rfl:i=A.length:=by omega
  rw[List.drop_length] at hnx;rw[List.take_length] at hlf;refine Z15 ?_;refine Done.scopeR ?_;refine Z3 ?_;refine Done.scopeR ?_;refine Done.retR (rs:=[.tmp 2,.tmp 3]) (H':=H) rfl (.tmp rfl (.tmp rfl (.nil))) (.cons (AVle.asL _ _) (.cons (.refl _) .nil)) Yc ?_;exact⟨by rw[<-hm,merge_none hnx,hlf,Bool.not_not];rfl,rfl⟩
theorem lsWith(s:Nat)(c:Int)(hc:0<=c/\c<64)(hs:s<18446744073709551616):PCall Tryz.prog 270 [.agg [AV.set s],.i c] (.agg [AV.set (s ||| 2^c.toNat)]):=by
 intro H;refine aC (n:=12) Tryz.func270 λB I w0=>?_;refine Z2 ?_;refine OL.boxC rfl rfl rfl rfl rfl rfl rfl (λb0=>?_);refine OL.alC rfl rfl rfl rfl (λb1=>?_);refine Z3 ?_;refine CW.dp mixed ?_;refine DP.anyC 0 4 12 rfl Ye rfl rfl Ye ?_;refine Z3 ?_;refine AD.popC rfl rfl rfl (POp.shift rfl rfl rfl rfl rfl hc.1 (sh_left _ hc)) ?_;refine Z2 ?_;refine oP (POp.bits rfl rfl rfl rfl rfl (bit_or _ _ hs (Nat.pow_lt_pow_right (a:=2) (n:=64) Ya Ya))) ?_;refine Z11 ?_;refine rR [.cell 4 303] (H) ?_;exact⟨Yg,rfl⟩
theorem lsOr(s t:Nat)(hs:s<18446744073709551616)(ht:t<18446744073709551616):PCall Tryz.prog 271 [.agg [AV.set s],.agg [AV.set t]] (.agg [AV.set (s ||| t)]):=by
 intro H;refine aC (n:=12) Tryz.func271 λB I w0=>?_;refine Z2 ?_;refine OL.boxC rfl rfl rfl rfl rfl rfl rfl (λb0=>?_);refine Z1 ?_;refine OL.alC rfl rfl rfl rfl (λb1=>?_);refine Z8 ?_;refine oP (POp.bits rfl rfl rfl rfl rfl (bit_or _ _ hs ht)) ?_;refine Z11 ?_;refine rR [.cell 4 303] (H) ?_;exact⟨Yg,rfl⟩
abbrev walkF(wb:Nat)(G:AV)(p:Prog):AV:=.fn (.func 228) [] [.ptr [G],.ptr (progC p),.p wb 0]
abbrev walkE(wb:Nat)(G:AV)(p:Prog):Ent:=.blk wb 260 [walkF wb G p]
def WalkC(B:Nat)(p:Prog)(next:Bool)(G:AV)(L:List Vis)(fails:Bool)(J:List Vis->List Ent->Prop)(Jp:AV->List Ent->Prop)(wb:Nat)(f:Nat):Prop:=
 ∀(x:Vis) (out:List Int) (pre rest:List Vis) (H0 Hx:List Ent),x.dp+f=14->1<=x.dp->-1000<=x.sz/\x.sz<=1000+x.dp->pre++(visit p next f x out).1++rest=L->((visit p next f x out).2=none->rest= []/\fails=true)->((visit p next f x out).2≠none->fails=true->rest≠ [])->J pre H0->
  BCall B Tryz.prog 228 [.i x.n,plcA x,.ptr [G],.ptr (progC p),.p wb 0] (H0++(walkE wb G p::Hx)) (λy H'=>y= .b true/\(visit p next f x out).2≠none/\∃H1,H'=H1++(walkE wb G p::Hx)/\J (pre++(visit p next f x out).1) H1)
   (λy H'=>(visit p next f x out).2=none/\∃H1,H'=H1++(walkE wb G p::Hx)/\Jp y H1)
theorem walk_step{B:Nat}{p:Prog}{next:Bool}{g:Fn}{L:List Vis}{fails:Bool}(hcb:CbP B Tryz.prog (.fn g fs cs) (λx=>.i x.n) plcA L fails J Jp)(hcon:∀y H,Jp y H->∃v,y.Const v)
  {wb f:Nat} (ih:∀f',f=f'+1->WalkC B p next (.fn g fs cs) L fails J Jp wb f'):WalkC B p next (.fn g fs cs) L fails J Jp wb f:=by
 intro x out pre rest H0 Hx hdf hdp hsz hL hn1 hn2 hJ;refine BCall.of (n:=55) Tryz.func228 rfl Yf rfl rfl (λI w0=>?_);refine Z12 ?_;refine OL.vcall rfl rfl rfl rfl rfl rfl rfl (AVleL.refl _) (hcb pre x H0 (walkE wb (.fn g fs cs) p::Hx) (visit_pre hL) hJ) ?_ ?_
 ·rintro _ _ ⟨H1,rfl,rfl,hlast,hJ1⟩;obtain⟨hok,f',rfl⟩:=visit_ok hdf hL hn1 hlast;obtain⟨hp0,hp1⟩:=okV_place hok;obtain⟨K,hK⟩:∃K,K=ndOf p x:=⟨_,rfl⟩;have hvy:=visit_yes (f:=f') hok;rw[<-hK] at hvy;refine Z3 ?_;refine CW.cond rfl (λh0=>?_) (λh0=>?_)
  ·simp at h0
  ·replace h0:=nm h0;refine Z8 ?_;refine oP (YV) ?_;refine Z7 ?_;rw[show p.nodes.getD x.n.toNat default=K from hK.symm];refine CW.boundM (t:=21) rfl (λhb21=>?_);refine lj (λm st=>∃(i:Nat) (l:List Vis) (o:List Int) (H1:List Ent),st=⟨[(23,.i i),(22,.i K.kids.length),(21,AV.ints K.kids),(6,.ptr [.i x.sz,.i x.dp]),(0,.i x.n),(2,.ptr [.fn g fs cs]),(3,.ptr (progC p)),(4,.p wb 0)],H1++(walkE wb (.fn g fs cs) p::Hx)⟩/\m=K.kids.length - i/\i<=K.kids.length/\visitsW (visit p next f') ((kidsV x K.op 0 K.kids).take i) (setV out x)=(l,some o)/\J (pre++x::l) H1) (⟨0,[],setV out x,H1,rfl,rfl,Ya,rfl,hJ1⟩) ?_;rintro m _ ⟨i,l,o,H1,rfl,rfl,hi,hvs,hJ1⟩;refine Z6 ?_;refine cd (λh1=>?_) λh1=>?_
   ·have hil:i<K.kids.length:=by omega
    obtain⟨R,hR,hR1,hR2⟩:=kid_step (visit_ne (p:=p) (next:=next) f') (kidsV_get x K.op hil) hvs;obtain⟨hA1,hA2,hA3⟩:=kid_args hvy hL hn1 hn2 hR hR1 (λo' h=>(hR2 o' h).2);refine Z21 ?_;refine OL.alC rfl rfl rfl rfl (λtb=>?_);refine Z9 ?_;refine oP (YV) ?_;refine Z9 ?_;refine cd (λh2=>?_) λh2=>?_
    ·refine Z9 ?_;refine CW.perm (H':=H1++(walkE wb (.fn g fs cs) p::.blk tb 228 [.i (kidV x K.op i (K.kids.getD i default)).sz,.i (kidV x K.op i (K.kids.getD i default)).dp]::Hx)) (by rw[show (kidV x K.op i (K.kids.getD i default)).sz=x.sz+1 from by rw[show (p.nodes.getD x.n.toNat default).op=K.op by rw[hK];rfl] at h2;simp at h2;simp only[kidV];rw[if_pos Ya]];exact perm_kid _ _ _ _) ?_;refine Z1 ?_;refine oP (YW) ?_;refine Z1 ?_;refine oP (Yac) ?_;refine OL.bcall rfl rfl .k (ih f' rfl (kidV x K.op i (K.kids.getD i default)) o (pre++x::l) (R++rest) H1 (.blk tb 228 [.i (kidV x K.op i (K.kids.getD i default)).sz,.i (kidV x K.op i (K.kids.getD i default)).dp]::Hx) YaE YaE Ya9 hA1 hA2 hA3 hJ1) ?_ ?_
     ·rintro _ _ ⟨rfl,hne,H2,rfl,hJ2⟩;obtain⟨o',ho⟩:=Option.ne_none_iff_exists'.1 hne;obtain⟨hs',_⟩:=hR2 o' ho;refine Z3 ?_;refine CW.cond rfl (λh3=>?_) (λh3=>?_)
      ·simp at h3
      ·replace h3:=nm h3;refine Z3 ?_;refine CW.subH (drop_kid _ _ _ _) ?_;refine Z4 ?_;exact ag (⟨i+1,l++(visit p next f' (kidV x K.op i (K.kids.getD i default)) o).1,o',H2,YaI,rfl,hil,hs',by simpa using hJ2⟩)
     ·rintro y H3 ⟨hno,H2,rfl,hq⟩ a w s I v hv;obtain⟨v0,hc⟩:=hcon _ _ hq;rw[hc.is _ _ _ hv];exact outP (P:=Tryz.prog) (fn:=Tryz.f228) hc (drop_kid _ _ _ _) ⟨by rw[hvy];exact (hR1 hno).2,H2,rfl,hq⟩ a w s
    ·refine Z3 ?_;refine CW.perm (H':=H1++(walkE wb (.fn g fs cs) p::.blk tb 228 [.i (kidV x K.op i (K.kids.getD i default)).sz,.i (kidV x K.op i (K.kids.getD i default)).dp]::Hx)) (by rw[show (kidV x K.op i (K.kids.getD i default)).sz=x.sz from by rw[show (p.nodes.getD x.n.toNat default).op=K.op by rw[hK];rfl] at h2;simp at h2;simp only[kidV];rw[if_neg Ya]];exact perm_kid _ _ _ _) ?_;refine Z1 ?_;refine oP (YW) ?_;refine Z1 ?_;refine oP (Yac) ?_;refine OL.bcall rfl rfl .k (ih f' rfl (kidV x K.op i (K.kids.getD i default)) o (pre++x::l) (R++rest) H1 (.blk tb 228 [.i (kidV x K.op i (K.kids.getD i default)).sz,.i (kidV x K.op i (K.kids.getD i default)).dp]::Hx) YaE YaE Ya9 hA1 hA2 hA3 hJ1) ?_ ?_
     ·rintro _ _ ⟨rfl,hne,H2,rfl,hJ2⟩;obtain⟨o',ho⟩:=Option.ne_none_iff_exists'.1 hne;obtain⟨hs',_⟩:=hR2 o' ho;refine Z3 ?_;refine CW.cond rfl (λh4=>?_) (λh4=>?_)
      ·simp at h4
      ·replace h4:=nm h4;refine Z3 ?_;refine CW.subH (drop_kid _ _ _ _) ?_;refine Z4 ?_;exact ag (⟨i+1,l++(visit p next f' (kidV x K.op i (K.kids.getD i default)) o).1,o',H2,YaI,rfl,hil,hs',by simpa using hJ2⟩)
     ·rintro y H3 ⟨hno,H2,rfl,hq⟩ a w s I v hv;obtain⟨v0,hc⟩:=hcon _ _ hq;rw[hc.is _ _ _ hv];exact outP (P:=Tryz.prog) (fn:=Tryz.f228) hc (drop_kid _ _ _ _) ⟨by rw[hvy];exact (hR1 hno).2,H2,rfl,hq⟩ a w s
   ·obtain rfl:i=K.kids.length:=by omega
    have hvs2:visitsW (visit p next f') (kidsV x K.op 0 K.kids) (setV out x)=(l,some o):=by rwa [List.take_of_length_le (by rw[kidsV_len];omega)] at hvs
    rw[hvs2] at hvy;refine Z11 ?_;refine Done.retR (rs:=[.tmp 7]) rfl (.tmp rfl (.nil)) (AVleL.refl _) Yc ?_;exact⟨Yg,by rw[hvy];simp,H1,rfl,by rw[hvy];exact hJ1⟩
 ·rintro y H2 ⟨H1,rfl,hlast,hf,hq⟩ a w s I v hv;obtain⟨v0,hc⟩:=hcon _ _ hq;rw[hc.is _ _ _ hv];exact outP (P:=Tryz.prog) (fn:=Tryz.f228) hc (.refl _) ⟨visit_last hL hn2 hf hlast,H1,rfl,hq⟩ a w s
theorem walkAll{B:Nat}{p:Prog}{next:Bool}{g:Fn}{fs cs:List AV}{L:List Vis}{fails:Bool}{J:List Vis->List Ent->Prop}{Jp:AV->List Ent->Prop}(hcb:CbP B Tryz.prog (.fn g fs cs) (λx=>.i x.n) plcA L fails J Jp)(hcon:∀y H,Jp y H->∃v,y.Const v)(wb:Nat):
  ∀f,WalkC B p next (.fn g fs cs) L fails J Jp wb f
 | 0=>walk_step hcb hcon (λf' h=>by omega)
 | f+1=>walk_step hcb hcon (λf' h=>by(obtain rfl:f'=f:=by omega);exact walkAll hcb hcon wb f')
theorem below1{B:Nat}{p:Prog}{next:Bool}{g:Fn}{x:Vis}{out:List Int}(hx:x.dp=1)(hsz: -1000<=x.sz/\x.sz<=1001)(hcon:∀y H,Jp y H->∃v,y.Const v)
  (hcb:CbP B Tryz.prog (.fn g fs cs) (λx=>.i x.n) plcA (visit p next 13 x out).1 (visit p next 13 x out).2.isNone J Jp) {H0 Hx:List Ent} (hJ:J [] H0):
  BCall B Tryz.prog 227 [.fn g fs cs,.ptr (progC p),.ptr [.i x.n],.ptr [.i x.sz,.i x.dp]] (H0++Hx) (λ_ H'=>(visit p next 13 x out).2.isNone=false/\∃H1 wb,H'=H1++(walkE wb (.fn g fs cs) p::Hx)/\J (visit p next 13 x out).1 H1)
   (λy H'=>(visit p next 13 x out).2.isNone=true/\∃H1 wb,H'=H1++(walkE wb (.fn g fs cs) p::Hx)/\Jp y H1):=by
 refine BCall.of (n:=11) Tryz.func227 rfl Yf rfl rfl (λI w0=>?_);refine Z7 ?_;refine OL.alC rfl rfl rfl rfl (λwb=>?_);refine Z8 ?_;refine CW.perm (H':=H0++(walkE wb (.fn g fs cs) p::Hx)) List.perm_middle.symm ?_;refine Z1 ?_;refine oP (YW) ?_;refine Z2 ?_;refine OL.bcall rfl rfl .k (walkAll hcb hcon wb 13 x out [] [] H0 Hx Ya Ya Ya Yr (λh=>⟨rfl,by rw[h];rfl⟩) (λh hf=>absurd (Option.isNone_iff_eq_none.1 hf) h) hJ) ?_ ?_
 ·rintro _ _ ⟨rfl,hne,H1,rfl,hJ1⟩;refine Z1 ?_;refine Done.norR (rs:=[]) rfl (.nil) (AVleL.refl _) Yc ?_;exact⟨by cases h:(visit p next 13 x out).2 with
 | none=>exact absurd h hne
 | some o=>rfl,H1,wb,rfl,by simpa using hJ1⟩
 ·rintro y H2 ⟨hno,H1,rfl,hq⟩ a w s I v hv;obtain⟨v0,hc⟩:=hcon _ _ hq;rw[hc.is _ _ _ hv];exact outP (P:=Tryz.prog) (fn:=Tryz.f227) hc (.refl _) ⟨Ybj,H1,wb,rfl,hq⟩ a w s
theorem below(p:Prog)(x:Vis):PCall Tryz.prog 198 [AV.prog p,.i x.n,plcA x] (.fn (.func 227) [] [.ptr (progC p),.ptr [.i x.n],.ptr [.i x.sz,.i x.dp]]):=by
 intro H;refine aC (n:=8) Tryz.func198 λB I w0=>?_;refine Z15 ?_;refine r1 6 (H) ?_;exact⟨Yg,rfl⟩
theorem below_seq(B:Nat)(p:Prog)(next:Bool)(x:Vis)(out:List Int)(hx:x.dp=1)(hsz: -1000<=x.sz/\x.sz<=1001):SeqP B Tryz.prog (.fn (.func 227) [] [.ptr (progC p),.ptr [.i x.n],.ptr [.i x.sz,.i x.dp]]) (λx=>.i x.n) plcA (visit p next 13 x out).1 (visit p next 13 x out).2.isNone [] (λ_=>True):=by
 intro J Jp g fs cs hcon hcb H Hx hJ;refine VCall.fnB ((below1 hx hsz hcon hcb hJ).imp ?_ ?_)
 ·rintro y H' ⟨h,H1,wb,rfl,hJ1⟩;exact⟨h,H1,[walkE wb (.fn g fs cs) p],rfl,trivial,hJ1⟩
 ·rintro y H' ⟨h,H1,wb,rfl,hJ1⟩;exact⟨h,H1,[walkE wb (.fn g fs cs) p],rfl,hJ1⟩
end Go.Proofs.YtpgnjlngepfanaaGreat

namespace Go.Eng.Bd
open Go.Eng.Fc
theorem rep_and(n:Nat)(h:n<4294967296):bitI .and .u64 (n:Int) 4294967295=some (n:Int):=by
 rw[show (4294967295:Int)=((4294967295:Nat):Int) from rfl,bit_and n 4294967295 Ya Ya];rw[show (4294967295:Nat)=2^32 - 1 from rfl,Nat.and_two_pow_sub_one_eq_mod,Nat.mod_eq_of_lt Ya]
theorem rep_shr(n:Nat)(h:n<4294967296):shI .shr .u64 (n:Int) 32=some 0:=by
 show some ((n:Int).fdiv (2^(min (32:Int).toNat 64)))=some 0;congr 1;rw[show (2:Int)^(min (32:Int).toNat 64)=4294967296 from rfl,Int.fdiv_eq_ediv_of_nonneg _ Ya];omega
theorem u64_is{a:Int}{n:Nat}(h:a=n)(hn:n<18446744073709551616):IntKind.u64.wrap a=(n:Int):=by rw[h];exact u64_wrap n hn
def repC(x z:AV)(j k:Nat):List AV:=List.replicate j x++List.replicate k z
theorem repC_step(x z:AV)(j k m:Nat)(hj:m<=j)(hk:m<=k):(repC x z j k).take j++((repC x z j k).take j).take m++(repC x z j k).drop (j+m)=repC x z (j+m) (k - m):=by
 have e1:(repC x z j k).take j=List.replicate j x:=by rw[repC,List.take_append_of_le_length Yr,List.take_of_length_le Yr]
 rw[e1,List.take_replicate,Nat.min_eq_left hj,repC,List.drop_append,List.drop_eq_nil_of_le Yr,List.nil_append,List.length_replicate,Nat.add_sub_cancel_left,List.drop_replicate,repC,List.replicate_append_replicate]
theorem repC_first(x z:AV)(k:Nat)(hk:1<=k):(List.replicate k z).take 0++[x].take 1++(List.replicate k z).drop 1=repC x z 1 (k - 1):=by
 simp[repC]
theorem repC_all(x z:AV)(j:Nat):repC x z j 0=List.replicate j x:=by simp[repC]
theorem repC_len(x z:AV)(j k:Nat):(repC x z j k).length=j+k:=by simp[repC]
theorem repC_one(x z:AV)(j k:Nat)(hx:allOne [x]=true)(hz:allOne [z]=true):allOne ((repC x z j k).take j)=true:=by
 rw[repC,List.take_append_of_le_length Yr,List.take_of_length_le Yr];simp only[allOne,List.all_eq_true] at hx ⊢;intro y hy;rw[List.eq_of_mem_replicate hy];exact hx x Yr
end Go.Eng.Bd

namespace Go.Proofs.YtpgnjlngepfanaaGreat
open Go.Eng
open Go.Eng.Fc
open Go.Eng.Bd
variable{p:Prog}{g:List (List Int)}
instance:HasMk Tryz.prog 23 (3,8,.int .i64 0):=⟨Yf⟩
theorem mul64(n:Nat)(hn:n<4294967296):PCall Tryz.prog 249 [.val (.int .u64 ((1:Nat):Int)),.val (.int .u64 (n:Int))] (.tup [.val (.int .u64 0),.val (.int .u64 (n:Int))]):=by
 intro H;refine aC (n:=51) Tryz.func249 λB I w0=>?_;refine Z9 ?_;refine oP (POp.bits rfl rfl rfl rfl rfl (rep_and 1 Ya)) ?_;refine Z6 ?_;refine oP (POp.shift rfl rfl rfl rfl rfl Ya (rep_shr 1 Ya)) ?_;refine Z6 ?_;refine oP (POp.bits rfl rfl rfl rfl rfl (rep_and _ Ya)) ?_;refine Z6 ?_;refine oP (POp.shift rfl rfl rfl rfl rfl Ya (rep_shr _ Ya)) ?_;refine Z7 ?_;refine oP (POp.arith rfl rfl rfl rfl rfl rfl (u64_is (n:=n) Ya Ya)) ?_;refine Z7 ?_;refine oP (POp.arith rfl rfl rfl rfl rfl rfl (u64_is (n:=0) Ya Ya)) ?_;refine Z1 ?_;refine oP (POp.shift rfl rfl rfl rfl rfl Ya (rep_shr _ Ya)) ?_;refine oP (POp.arith rfl rfl rfl rfl rfl rfl (u64_is (n:=0) Ya Ya)) ?_;refine Z6 ?_;refine oP (POp.bits rfl rfl rfl rfl rfl (rep_and 0 Ya)) ?_;refine Z6 ?_;refine oP (POp.shift rfl rfl rfl rfl rfl Ya (rep_shr 0 Ya)) ?_;refine Z8 ?_;refine oP (POp.arith rfl rfl rfl rfl rfl rfl (u64_is (n:=0) Ya Ya)) ?_;refine oP (POp.arith rfl rfl rfl rfl rfl rfl (u64_is (n:=0) Ya Ya)) ?_;refine Z7 ?_;refine oP (POp.arith rfl rfl rfl rfl rfl rfl (u64_is (n:=0) Ya Ya)) ?_;refine Z1 ?_;refine oP (POp.arith rfl rfl rfl rfl rfl rfl (u64_is (n:=0) Ya Ya)) ?_;refine Z1 ?_;refine oP (POp.shift rfl rfl rfl rfl rfl Ya (rep_shr 0 Ya)) ?_;refine oP (POp.arith rfl rfl rfl rfl rfl rfl (u64_is (n:=0) Ya Ya)) ?_;refine Z7 ?_;refine oP (POp.arith rfl rfl rfl rfl rfl rfl (u64_is (n:=n) Ya Ya)) ?_;refine Z4 ?_;refine rR [.tmp 4,.tmp 5] (H) ?_;exact⟨Yg,rfl⟩
theorem mulU(n:Nat)(hn:n<4294967296):PCall Tryz.prog 226 [.val (.int .u64 ((1:Nat):Int)),.val (.int .u64 (n:Int))] (.tup [.val (.int .u64 0),.val (.int .u64 (n:Int))]):=by
 intro H;refine aC (n:=30) Tryz.func226 λB I w0=>?_;refine Z7 ?_;refine CW.condKF ?_;refine Z6 ?_;refine oP (POp.call .k (mul64 n hn)) ?_;refine Z16 ?_;refine rR [.tmp 4,.tmp 5] (H) ?_;exact⟨Yg,rfl⟩
theorem repeatI(n:Nat)(hn:1<=n/\n<=1000000)(H:List Ent):ACall Tryz.prog 196 [.sl 1 [[(.i (-1))]],.i n] H (λy H'=>∃nb,y=(.val (.slice (some ⟨nb,0,none⟩) n n))/\H'= .blk nb 3 (List.replicate n (.i (-1)))::H) (λ_ _=>False):=by
 refine aC (n:=48) Tryz.func196 λB I w0=>?_;refine Z12 ?_;refine CW.cond rfl (λh0=>?_) (λh0=>?_)
 ·simp at h0;omega
 ·replace h0:=nm h0;refine Z6 ?_;refine oP (POp.cv rfl rfl rfl (u64_is (n:=1) rfl Ya)) ?_;refine Z1 ?_;refine oP (POp.cv rfl rfl rfl (u64_is (n:=n) rfl Ya)) ?_;refine oP (POp.call .k (mulU n Ya)) ?_;refine Z18 ?_;refine CW.cond rfl (λh1=>?_) (λh1=>?_)
  ·simp at h1;omega
  ·replace h1:=nm h1;refine Z5 ?_;refine oP (POp.cv rfl rfl rfl (wrap64 (n:=(n:Int)) Ya)) ?_;refine OL.mkSlC (n) rfl rfl rfl rfl rfl rfl rfl rfl (rfl) Ya YJ (λnb=>?_);refine Z7 ?_;refine OL.copyC 1 rfl rfl rfl rfl rfl rfl (SlReads.sl (els:=[[(.i (-1))]]) YaL rfl rfl (AVle.refl _) Yr) rfl Yw Yw (.head _ _ _) ?_;refine Z5 ?_;refine CW.eqH (H':=.blk nb 3 (repC (.i (-1)) (.val (.int .i64 0)) 1 (n - 1))::H) (by rw[show (0:Nat)+1*1=1 from rfl,show 1*1=1 from rfl];rw[<-repC_first _ _ _ hn.1];rfl) ?_;refine lj (λm st=>∃j:Nat,st=⟨[(8,.i j),(7,(.val (.slice (some ⟨nb,0,none⟩) n n))),(0,.sl 1 [[(.i (-1))]])],.blk nb 3 (repC (.i (-1)) (.val (.int .i64 0)) j (n - j))::H⟩/\m=n - j/\1<=j/\j<=n) (⟨1,rfl,rfl,Ya,Ya⟩) ?_;rintro m _ ⟨j,rfl,rfl,hj1,hj⟩;refine Z9 ?_;refine cd (λh2=>?_) λh2=>?_
   ·have hjn:j<n:=by simpa using h2
    refine Z3 ?_;refine CW.dp mixed ?_;refine DP.anyH [⟨7,45,false⟩] (()) (λ(g:Unit) (vs:List (Option Value))=>match vs with | [none]=>.blk nb 3 (repC (.i (-1)) (.val (.int .i64 0)) j (n - j))::H | [some _]=>.blk nb 3 ((repC (.i (-1)) (.val (.int .i64 0)) j (n - j)).take (0+j*1)++(((repC (.i (-1)) (.val (.int .i64 0)) j (n - j)).drop (0+0*1)).take ((j - 0)*1)).take (min j (n - j)*1)++(repC (.i (-1)) (.val (.int .i64 0)) j (n - j)).drop (0+j*1+min j (n - j)*1))::H | _=>[]) 0 8 48 rfl Ye Ye rfl rfl Ye rfl ?_;refine UD.popG [[true],[false]] rfl Ye rfl rfl rfl ⟨λg f=>POp.move rfl rfl rfl,λg f=>POp.move rfl rfl rfl,trivial⟩ ?_;refine UD.popG [[false]] rfl Ye rfl rfl rfl ⟨λg f=>POp.move rfl rfl rfl,trivial⟩ ?_;refine UD.popG [[false]] rfl Ye rfl rfl rfl ⟨λg f=>POp.move rfl rfl rfl,trivial⟩ ?_;refine UD.popG [[false]] rfl Ye rfl rfl rfl ⟨λg f=>POp.slC (kh:=.i64) (l:=j) (m:=n) rfl rfl rfl rfl rfl rfl rfl Ya Ya Ya,trivial⟩ ?_;refine UD.popG [[false]] rfl Ye rfl rfl rfl ⟨λg f=>POp.move rfl rfl rfl,trivial⟩ ?_;refine UD.popG [[false]] rfl Ye rfl rfl rfl ⟨λg f=>POp.move rfl rfl rfl,trivial⟩ ?_;refine UD.popG [[false]] rfl Ye rfl rfl rfl ⟨λg f=>POp.slC (kl:=.i64) (l:=0) (m:=j) rfl rfl rfl rfl rfl rfl rfl Ya Ya Ya,trivial⟩ ?_;refine UD.effG 0 [[false]] rfl rfl rfl Ye rfl rfl rfl ⟨λg f=>FOk.copy () (min j (n - j)) rfl rfl rfl (SlReads.blk YaL rfl rfl (.head _) (by rw[repC_len];omega)) (by rw[Nat.zero_add,Nat.zero_mul,List.drop_zero,Nat.sub_zero,Nat.mul_one];exact repC_one _ _ _ _ rfl rfl) Ya (by rw[repC_len];omega) (λv=>.head _ _ _),trivial⟩ ?_;refine UD.nil (λg f=>?_);simp only[CE.vals,List.map_cons,List.map_nil,List.cons_append,List.nil_append];refine Z5 ?_;refine Done.eqH (H':=.blk nb 3 (repC (.i (-1)) (.val (.int .i64 0)) (j+min j (n - j)) (n - (j+min j (n - j))))::H) (by rw[Nat.zero_add,Nat.zero_add,Nat.zero_mul,Nat.mul_one,Nat.mul_one,Nat.mul_one,List.drop_zero,Nat.sub_zero,repC_step _ _ _ _ _ Ya Ya,Nat.sub_sub]) ?_;refine Done.le 8 (y:=.i (j+min j (n - j):Nat)) rfl (AVle.eqI Ya) ?_;exact ag ⟨j+min j (n - j),rfl,rfl,Ya,Ya⟩
   ·obtain rfl:j=n:=by simp at h2;omega
    refine Z12 ?_;refine r1 4 (.blk nb 3 (repC (.i (-1)) (.val (.int .i64 0)) j (j - j))::H) ?_;exact⟨nb,Yg,by rw[Nat.sub_self,repC_all]⟩
instance:HasTa Tryz.prog 233:=⟨Yf⟩
instance:HasTa Tryz.prog 234:=⟨Yf⟩
abbrev outH(ob nb n:Nat)(o:List Int):List Ent:=[.blk ob 23 [(.val (.slice (some ⟨nb,0,none⟩) n n))],.blk nb 3 ((o).map AV.i)]
theorem round_key{next:Bool}{out:List Int}{x0:Vis}{pre:List Vis}{x:Vis}(hd:x0.dp=1)(h:pre++[x]<+:(visit p next 13 x0 out).1):
  (okV p next x (outsV pre out)=true/\(pre++[x]=(visit p next 13 x0 out).1->(visit p next 13 x0 out).2.isNone=false))\/(okV p next x (outsV pre out)=false/\pre++[x]=(visit p next 13 x0 out).1/\(visit p next 13 x0 out).2.isNone=true):=by
 have hv:=visit_vp (p:=p) (next:=next) 13 x0 out Ya;rcases Classical.em (pre++[x]=(visit p next 13 x0 out).1/\(visit p next 13 x0 out).2=none) with⟨h1,h2⟩ | h1
 ·exact .inr ⟨hv.no pre x h1 h2,h1,by rw[h2];rfl⟩
 ·refine .inl ⟨hv.yes pre x h h1,λe=>?_⟩;cases hr:(visit p next 13 x0 out).2 with
  | none=>exact absurd ⟨e,hr⟩ h1
  | some o=>rfl
theorem kind_arg{x:Nd}{sz:Int}(h:kindOf x.op=some none)(hn:numP p x sz=true):0<=x.n/\x.n<p.gens.length:=by
 have h5:x.op=5:=by
  unfold kindOf at h
  repeat' split at h
  all_goals first | assumption | (simp at h;done)
 unfold numP mostP at hn;rw[if_neg Ya,if_neg Ya,if_neg Ya,if_neg Ya,if_pos h5] at hn;simpa using hn
theorem bodyS{n:Nat}(hn:n=p.nodes.length)(k size:Int)(next:Bool)(hs:0<=size/\size<=1000)(out:List Int)(ho:out.length=n)(hC0:p.classes.length<=100)(ob nb:Nat)(H:List Ent):
  ACall Tryz.prog 197 [.i k,.i size,.b next,.ptr (progC p),.p ob 0] (outH ob nb n out++H) (λ_ H'=>(visit p next 13 (⟨k,size,1⟩:Vis) out).2.isNone=false/\H'=outH ob nb n (outsV (visit p next 13 (⟨k,size,1⟩:Vis) out).1 out)++H) (λy H'=>y=unfA/\(visit p next 13 (⟨k,size,1⟩:Vis) out).2.isNone=true/\∃o',H'=outH ob nb n o'++H):=by
 refine ACall.mkF (n:=86) Tryz.func197 rfl Yf rfl rfl (λB I w0=>?_);refine CWF.seq ?_;refine CW.atF ?_;refine Z3 ?_;refine CWF.done ?_;refine CWF.seq ?_;refine CW.atF ?_;refine Z5 ?_;refine oP (POp.call .k (below p (⟨k,size,1⟩:Vis))) ?_;refine Z1 ?_;refine CWF.done ?_;refine CWF.block ?_;refine CWF.rangeFuncP Tryz.func197 (λx=>.i x.n) (plcA) ((visit p next 13 (⟨k,size,1⟩:Vis) out).1) ((visit p next 13 (⟨k,size,1⟩:Vis) out).2.isNone) (λpre H=>H=outH ob nb n (outsV pre out)) (λy H=>y=unfA/\∃o',H=outH ob nb n o') (outH ob nb n out) ([]) (H) (λ_=>True) (λx=>[(9,.ptr [.i x.sz,.i x.dp]),(8,.i x.n),(7,.ptr [.b next]),(3,.ptr (progC p)),(4,.p ob 0)]) rfl rfl rfl rfl rfl (below_seq B p next (⟨k,size,1⟩:Vis) out rfl (by show _<=size/\size<=_;omega)) (rfl) (λy H h=>⟨unfV,h.1.symm▸unf_c⟩) ?_ ?_ ?_ ?_
 ·intro l0 I1 w1 x Hy;refine Z6 ?_;refine OL.alC rfl rfl rfl rfl (λb0=>?_);refine Z2 ?_;refine Done.freezeP (d:=9) rfl (Del.head _ _) ?_;exact λa w s=>⟨_,rfl,s.weaken (envLe_get Ya1) (List.Sublist.refl _)⟩
 ·intro l0 D0 lp pre x H1 Hy I1 w1 hpre hJ;obtain rfl:=hJ;obtain⟨C,hC⟩:∃C,C=outsV pre out:=⟨_,rfl⟩;have hCl:C.length=n:=by rw[hC,outsV_len,ho]
  have hkey:=round_key rfl hpre;rw[<-hC] at hkey ⊢;have hsm:=visit_small (p:=p) (next:=next) 13 (⟨k,size,1⟩:Vis) out YaI (by unfold smallV;simp only[];omega) x (hpre.subset Yr);unfold smallV at hsm;refine Z15 ?_;refine OL.guardC rfl rfl rfl rfl rfl rfl (λhg=>POp.ixC rfl rfl (gd hg) rfl (gd hg) Yat) ?_;refine OL.guardC rfl rfl rfl rfl rfl rfl (λhg=>(by first | exact POp.ld1 rfl rfl (gd hg) rfl | (apply POp.ld1H rfl rfl (gd hg);(case hm=>exact .tail _ (.tail _ (.tail _ (.head _))));(case hy=>exact cellI_get Yat)))) ?_;refine Z7 ?_;cases hpl:placeOk p x C
  ·refine OL.rcallN rfl rfl (.mk' rfl rfl rfl rfl rfl) (needF (by simp only[Bool.cond_false_right,ge_iff_le];exact hpl) _) unf_c ?_;rcases hkey with⟨h1,_⟩ | ⟨_,h2,h3⟩
   ·rw[okV_no1 hpl] at h1;cases h1
   ·intro a w s;exact Done.roundPP (J:=λpre H=>H=outH ob nb n (outsV pre out)) (H:=outH ob nb n (C)) Yc unf_c h2 h3 ⟨rfl,_,rfl⟩ a w s
  ·refine OL.rcallS rfl rfl rfl (.mk' rfl rfl rfl rfl rfl) (needT (by simp only[Bool.cond_false_right,ge_iff_le];exact hpl) _) ?_;obtain⟨hp0,hp1⟩:=placeOk_in hpl;refine Z8 ?_;refine oP (POp.ixC rfl rfl rfl rfl rfl Ya) ?_;apply OL.stoC rfl rfl rfl rfl rfl rfl rfl rfl rfl rfl
   (case hu=>repeat (first | exact Upd.head _ _ _ | apply Upd.tail));(case hfit=>exact Nat.ble_eq_true_of_le Yaa);(case hds=>exact cellI_set Ya)
   refine Z7 ?_;refine oP (YV) ?_;refine Z1 ?_;refine OL.alC rfl rfl rfl rfl (λkb=>?_);refine Z9 ?_;refine oP (POp.call .k (number p hC0 (ndOf p x) x.sz)) ?_;refine Z8 ?_;cases hgd:(numP p (ndOf p x) x.sz && (next || (ndOf p x).op !=18))
   ·refine OL.rcallN rfl rfl (.mk' rfl rfl rfl rfl rfl) (needF (by simp only[Bool.cond_false_right,Bool.cond_true_left];exact hgd) _) unf_c ?_;rcases hkey with⟨h1,_⟩ | ⟨_,h2,h3⟩
    ·rw[okV_no2 hgd] at h1;cases h1
    ·intro a w s;exact Done.roundPP (J:=λpre H=>H=outH ob nb n (outsV pre out)) (H:=outH ob nb n (setV C x)) Yc unf_c h2 h3 ⟨rfl,_,rfl⟩ a w s
   ·refine OL.rcallS rfl rfl rfl (.mk' rfl rfl rfl rfl rfl) (needT (by simp only[Bool.cond_false_right,Bool.cond_true_left];exact hgd) _) ?_;refine Z6 ?_;rcases hkd:kindOf (ndOf p x).op with _ | _ | kk
    ·refine oP (POp.call .k (show PCall Tryz.prog 200 [.i (ndOf p x).op] (.val .nilIface) from by have h:=kidsOf (ndOf p x).op;rw[hkd] at h;exact h)) ?_;refine Z5 ?_;refine oP (YF) ?_;refine Z2 ?_;refine oP (YF) ?_;refine Z5 ?_;refine CW.cond rfl (λh0=>?_) (λh0=>?_)
     ·simp at h0
     ·replace h0:=nm h0;refine Z6 ?_
      ·refine OL.rcallN rfl rfl (.mk' rfl rfl rfl rfl rfl) (needF (rfl) _) unf_c ?_;rcases hkey with⟨h1,_⟩ | ⟨_,h2,h3⟩
       ·rw[okV_no3 hkd] at h1;cases h1
       ·intro a w s;exact Done.roundPP (J:=λpre H=>H=outH ob nb n (outsV pre out)) (H:=outH ob nb n (setV C x)) Yc unf_c h2 h3 ⟨rfl,_,rfl⟩ a w s
    ·refine oP (POp.call .k (show PCall Tryz.prog 200 [.i (ndOf p x).op] (.iface 234 (.agg [])) from by have h:=kidsOf (ndOf p x).op;rw[hkd] at h;exact h)) ?_;have hok:=okV_a hpl hgd hkd;obtain⟨hx0,hx1⟩:=kind_arg hkd (Bool.and_eq_true_iff.1 hgd).1;refine Z5 ?_;refine oP (YF) ?_;refine Z2 ?_;refine oP (YF) ?_;refine Z5 ?_;refine CW.cond rfl (λh1=>?_) (λh1=>?_)
     ·replace h1:=nm h1;refine Z5 ?_;refine CW.dp mixed ?_;refine DP.anyC 0 7 86 rfl Ye rfl rfl Ye ?_;refine Z6 ?_;refine AD.popC rfl rfl rfl Y7 ?_;refine Z3 ?_;cases hbb:okV p next x C
      ·refine OL.rcallN rfl rfl (.mk' rfl rfl rfl rfl rfl) (needF Ybl _) unf_c ?_;rcases hkey with⟨h1,_⟩ | ⟨_,h2,h3⟩
       ·rw[hbb] at h1;cases h1
       ·intro a w s;exact Done.roundPP (J:=λpre H=>H=outH ob nb n (outsV pre out)) (H:=outH ob nb n (setV C x)) Yc unf_c h2 h3 ⟨rfl,_,rfl⟩ a w s
      ·refine OL.rcallS rfl rfl rfl (.mk' rfl rfl rfl rfl rfl) (needT Ybl _) ?_;refine Z3 ?_;exact Done.roundNP (H:=outH ob nb n (setV C x)) Yc Ya3 (by rw[outsV_snoc, <-hC])
     ·simp at h1
    ·refine oP (POp.call .k (show PCall Tryz.prog 200 [.i (ndOf p x).op] (.iface 233 (.i kk)) from by have h:=kidsOf (ndOf p x).op;rw[hkd] at h;exact h)) ?_;have hok:=okV_k hpl hgd hkd;refine Z5 ?_;refine oP (YF) ?_;refine Z2 ?_;refine oP (YF) ?_;refine Z5 ?_;refine CW.cond rfl (λh2=>?_) (λh2=>?_)
     ·replace h2:=nm h2;refine Z5 ?_;refine CW.dp mixed ?_;refine DP.anyC 0 7 86 rfl Ye rfl rfl Ye ?_;refine Z6 ?_;refine AD.popC rfl rfl rfl Y7 ?_;refine Z3 ?_;cases hbb:okV p next x C
      ·refine OL.rcallN rfl rfl (.mk' rfl rfl rfl rfl rfl) (needF Ybl _) unf_c ?_;rcases hkey with⟨h1,_⟩ | ⟨_,h2,h3⟩
       ·rw[hbb] at h1;cases h1
       ·intro a w s;exact Done.roundPP (J:=λpre H=>H=outH ob nb n (outsV pre out)) (H:=outH ob nb n (setV C x)) Yc unf_c h2 h3 ⟨rfl,_,rfl⟩ a w s
      ·refine OL.rcallS rfl rfl rfl (.mk' rfl rfl rfl rfl rfl) (needT Ybl _) ?_;refine Z3 ?_;exact Done.roundNP (H:=outH ob nb n (setV C x)) Yc Ya3 (by rw[outsV_snoc, <-hC])
     ·simp at h2
 ·intro D0 H1 Hs1 hfl hHn hJ;obtain rfl:=hJ;refine Done.subH (H':=.obj D0 (.deferred (some []))::(outH ob nb n (outsV (visit p next 13 (⟨k,size,1⟩:Vis) out).1 out)++H)) (.cons_cons _ (.append_left (List.sublist_append_right _ _) _)) ?_;refine Z1 ?_;refine Done.retM1 (rs:=[]) (H':=outH ob nb n (outsV (visit p next 13 (⟨k,size,1⟩:Vis) out).1 out)++H) rfl Yl (.nil) (AVleL.refl _) Yc ?_;exact⟨hfl,rfl⟩
 ·intro D0 y H1 Hs1 hfl hJp I1 v1 a1 w1 hs1 hv1;obtain⟨rfl,o1,rfl⟩:=hJp;rw[unf_c.is _ _ _ hv1];exact outM unf_c (Del.head _ _) (.append_left (List.sublist_append_right _ _) _) ⟨rfl,hfl,o1,rfl⟩ a1 w1 hs1
instance:HasMapI Tryz.prog 276 (3,23):=⟨Yf,Yf⟩
instance:HasZ Tryz.prog 23 (.slice none 0 0):=⟨Yf⟩
abbrev gphE(gb mb:Nat)(g:List (List Int))(U:AV):Ent:=.blk gb 278 [AV.intss (parsOf g),U,.val (.map (some mb))]
theorem listsC(hg:fineP g=true){c:Nat}(hc:c<3+g.length){O:List (List Int)}{l:List (Int×AV)}(hO:OrdsOk O)(hOl:O.length=c)(hM:OrdMap l O)(gb mb:Nat)(U:AV):
  PCallIn Tryz.prog [gphE gb mb g U,imapE mb l] 287 [.p gb 0,.i c] (.tup [AV.intss ((listsP O ((parsOf g).getD c default)).getD []),.b (listsP O ((parsOf g).getD c default)).isSome]):=by
 intro H hm;refine aC (n:=50) Tryz.func287 λB I w0=>?_;obtain⟨ps,hps⟩:∃ps,ps=((parsOf g).getD c default):=⟨_,rfl⟩;have hpo:=parsOf_ps hg c;rw[<-hps] at hpo ⊢;have hgl:=fineP_len hg;refine Z17 ?_;refine oP (Yau) ?_;refine Z1 ?_;refine oP (Yaj) ?_;refine Z6 ?_;rw[show (parsOf g).getD c default=ps from hps.symm];have hp3:=hpo.1;refine CW.ownNil 6 23 1 rfl ?_;refine lj (λm st=>∃(i:Nat) (v:Value),st=⟨[(17,.i i),(16,.i ps.length),(15,AV.ints ps),(0,.p gb 0),(1,.i c),(6,.as (AV.intss ((ps.take i).map (λp=>bareL (O.getD p.toNat [])))) v)],.own 23 1 v::H⟩/\m=ps.length - i/\i<=ps.length/\∀p∈ps.take i,O.getD p.toNat []≠ []) (⟨0,_,rfl,rfl,Ya,Yr⟩) ?_;rintro m _ ⟨i,v,rfl,rfl,hi,hne⟩;refine Z6 ?_;refine cd (λh0=>?_) λh0=>?_
 ·have hil:i<ps.length:=by omega
  obtain⟨p,hp⟩:∃p,p=ps.getD i default:=⟨_,rfl⟩;have hpm:p∈ps:=hp▸getD_memB hil;have hpr:=hpo.2 p hpm;have hol:=hO.len p.toNat;refine Z13 ?_;rw[<-hp];refine Z4 ?_;refine oP (YZ) ?_;refine Z1 ?_;refine oP (POp.lookupI rfl rfl rfl rfl rfl (.tail _ (hm _ (.tail _ (.head _)))) hM.ok Yax) ?_;refine OL.le 26 (y:=AV.ints (O.getD p.toNat [])) rfl (hM.look p Ya) ?_;refine Z4 ?_;refine cd (λh1=>?_) λh1=>?_
  ·have he:O.getD p.toNat []= []:=List.eq_nil_of_length_eq_zero Ya;refine Z13 ?_;refine Done.retR (rs:=[.tmp 4,.tmp 5]) (H':=H) rfl (.tmp rfl (.tmp rfl (.nil))) (.cons (AVle.nil 1) (.cons (.refl _) .nil)) Yc ?_;exact⟨by rw[lists_none hpm he];rfl,rfl⟩
  ·have he:O.getD p.toNat []≠ []:=λe=>by rw[e] at h1;simp at h1
   refine Z7 ?_;refine oP (YZ) ?_;refine Z1 ?_;refine oP (POp.lookupI rfl rfl rfl rfl rfl (.tail _ (hm _ (.tail _ (.head _)))) hM.ok Yax) ?_;refine OL.le 35 (y:=AV.ints (O.getD p.toNat [])) rfl (hM.look p Ya) ?_;refine oP (POp.call .k (bareC _ Ya)) ?_;refine OL.popC (x:=.sl 1 [[AV.ints (bareL (O.getD p.toNat []))]]) rfl rfl rfl (POp.row rfl rfl Yh rfl rfl rfl rfl rfl rfl) ?_;refine OL.appendC rfl rfl rfl rfl rfl rfl rfl rfl (AVle.refl _) (rfl) (λv=>by repeat (first | exact Upd.head _ _ _ | apply Upd.tail)) Yk Yk (λv38=>?_);refine Z8 ?_;exact ag (⟨i+1,v38,by rw[intss_snocF (λp=>bareL (O.getD p.toNat [])) ps hil, <-hp],rfl,hil,λq hq=>by rw[<-take_getD hil,List.mem_append,List.mem_singleton, <-hp] at hq;rcases hq with hq | rfl;exact hne q hq;exact he⟩)
 ·obtain rfl:i=ps.length:=by omega
  rw[List.take_length] at hne ⊢;refine Z11 ?_;refine oP (YZ) ?_;refine Z1 ?_;refine oP (Yaj) ?_;refine Z1 ?_;refine OL.popC (x:=.sl 1 [[AV.ints ((parsOf g).getD c default)]]) rfl rfl rfl (POp.row rfl rfl Yh rfl rfl rfl rfl rfl rfl) ?_;refine OL.appendC rfl rfl rfl rfl rfl rfl rfl rfl (AVle.refl _) (rfl) (λv=>by repeat (first | exact Upd.head _ _ _ | apply Upd.tail)) Yk Yk (λv49=>?_);refine Z5 ?_;refine Done.retR (rs:=[.tmp 4,.tmp 5]) (H':=H) rfl (.tmp rfl (.tmp rfl (.nil))) (.cons (AVle.asL _ _) (.cons (.refl _) .nil)) Yc ?_;exact⟨by rw[lists_some hne, <-hps];show _=AV.tup [AV.sl 1 (List.map _ (_++_)),_];rw[List.map_append];rfl,rfl⟩
theorem orderC(hg:fineP g=true){O:List (List Int)}(hc:O.length<3+g.length){l:List (Int×AV)}(hO:OrdsOk O)(hM:OrdMap l O)(gb mb:Nat)(U:AV)(H:List Ent):
  ACall Tryz.prog 272 [.p gb 0,.i O.length] (gphE gb mb g U::imapE mb l::H) (λ_ H'=>∃l',OrdMap l' (O++[orderP O O.length ((parsOf g).getD O.length default)])/\H'=gphE gb mb g U::imapE mb l'::H) (λ_ _=>False):=by
 refine aC (n:=40) Tryz.func272 λB I w0=>?_;have hgl:=fineP_len hg;have hpo:=parsOf_ps hg O.length;have hol:=(orderP_ok hO hpo).len;refine Z7 ?_;refine cd (λh0=>?_) λh0=>?_
 ·have h0:O.length=0:=by omega
  refine Z6 ?_;refine oP (POp.row rfl rfl Yh rfl rfl rfl rfl rfl rfl) ?_;refine OL.mapPut (u':=AV.ints [0]) rfl rfl (.inl rfl) rfl rfl rfl rfl rfl rfl (AVle.refl _) (.tail _ _ _ _ _ (.head _ _ _)) hM.ok Yax ?_;refine Z4 ?_;refine rR [] (gphE gb mb g U::imapE mb (putI l 0 (AV.ints [0]))::H) ?_;exact⟨_,by rw[order_zero h0];have:=hM.put (x:=[0]) Yr Ya;rwa [h0] at this,rfl⟩
 ·have h0:O.length≠0:=by omega
  refine Z3 ?_;rcases hl:listsP O ((parsOf g).getD O.length default) with _ | all
  ·refine Z3 ?_;refine oP (POp.callIn .k (AVleL.refl _) (by have h:=listsC hg hc hO rfl hM gb mb U;rw[hl] at h;exact h) mem_two) ?_;refine Z14 ?_;refine CW.cond rfl (λh1=>?_) (λh1=>?_)
   ·replace h1:=nm h1;refine Z2 ?_;refine rR [] (gphE gb mb g U::imapE mb l::H) ?_;exact⟨l,by rw[order_none h0 hl];exact hM.skip,rfl⟩
   ·simp at h1
  ·obtain⟨ht1,ht2⟩:=lists_total hO hpo.1 hl;refine Z3 ?_;refine oP (POp.callIn .k (AVleL.refl _) (by have h:=listsC hg hc hO rfl hM gb mb U;rw[hl] at h;exact h) mem_two) ?_;refine Z14 ?_;refine CW.cond rfl (λh2=>?_) (λh2=>?_)
   ·simp at h2
   ·replace h2:=nm h2;refine Z5 ?_;refine oP (POp.call .k (mergeC all Ya Ya)) ?_;refine Z12 ?_;refine cd (λh3=>?_) λh3=>?_
    ·have h3:(mergeP all).2=true:=h3;rw[order_yes h0 hl h3] at hol;simp only[List.length_cons,List.length_append,List.length_nil] at hol;refine CW.dp mixed ?_;refine DP.anyK (X:=noX) [⟨6,35,false⟩,⟨8,37,false⟩,⟨10,39,false⟩] (λJ=>match J with | [some v,none,none]=>.own 3 1 v::gphE gb mb g U::imapE mb l::H | [_,some v,none]=>.own 3 1 v::gphE gb mb g U::imapE mb l::H | [_,_,some v]=>.own 3 1 v::gphE gb mb g U::imapE mb l::H | _=>gphE gb mb g U::imapE mb l::H) (λq J=>match q,J with | 0,[some v,_,_]=>.as (.sl 1 [[AV.i (O.length:Int)]]) v | 1,[_,some v,_]=>.as (.sl 1 ([[AV.i (O.length:Int)]]++((mergeP all).1.map λn=>[AV.i n]))) v | 2,[_,_,some v]=>.as (.sl 1 ([[AV.i (O.length:Int)]]++((mergeP all).1.map λn=>[AV.i n])++[[.i 0]])) v | _,_=>.any) 0 11 40 rfl Ye Ye rfl rfl Ye rfl (λ_ _ _ _ _ _ _ _ _ h=>h.elim) ?_;refine UD.popK [[true,true,true],[true,true,false],[true,false,false],[false,false,false]] rfl Ye rfl rfl rfl ⟨λf=>POp.move rfl rfl rfl,λf=>POp.move rfl rfl rfl,λf=>POp.move rfl rfl rfl,λf=>POp.move rfl rfl rfl,trivial⟩ ?_;refine UD.popK [[true,true,true],[true,true,false],[true,false,false],[false,false,false]] rfl Ye rfl rfl rfl ⟨λf=>YA,λf=>YA,λf=>YA,λf=>YA,trivial⟩ ?_;refine UD.popK [[true,true,true],[true,true,false],[true,false,false],[false,false,false]] rfl Ye rfl rfl rfl ⟨λf=>Yj,λf=>Yj,λf=>Yj,λf=>Yj,trivial⟩ ?_;refine UD.popK [[true,true,true],[true,true,false],[true,false,false],[false,false,false]] rfl Ye rfl rfl rfl ⟨λf=>Yb,λf=>Yb,λf=>Yb,λf=>Yb,trivial⟩ ?_;refine UD.popK [[true,true,true],[true,true,false],[true,false,false],[false,false,false]] rfl Ye rfl rfl rfl ⟨λf=>POp.move rfl rfl rfl,λf=>POp.move rfl rfl rfl,λf=>POp.move rfl rfl rfl,λf=>POp.move rfl rfl rfl,trivial⟩ ?_;refine UD.popK [[false,false,false]] rfl Ye rfl rfl rfl ⟨λf=>POp.move rfl rfl rfl,trivial⟩ ?_;refine UD.effK 0 [[false,false,false]] rfl rfl rfl Ye rfl rfl rfl ⟨λf=>⟨KOk.rowOwn rfl rfl rfl rfl rfl rfl rfl rfl rfl (λ_=>rfl) (λ_=>rfl),Yn⟩,trivial⟩ ?_;refine UD.popK [[true,false,false],[false,false,false]] rfl Ye rfl rfl rfl ⟨λf=>POp.move rfl rfl rfl,λf=>POp.move rfl rfl rfl,trivial⟩ ?_;refine UD.effK 1 [[true,false,false]] rfl rfl rfl Ye rfl rfl rfl ⟨λf=>⟨KOk.own rfl rfl rfl (AVle.refl _) rfl rfl (AVle.refl _) (one_ints _) Yw Yw (λ_=>.head _ _ _) (λ_=>rfl),Yn⟩,trivial⟩ ?_;refine UD.popK [[true,true,false],[true,false,false],[false,false,false]] rfl Ye rfl rfl rfl ⟨λf=>POp.row rfl rfl Yh rfl rfl rfl rfl rfl rfl,λf=>POp.row rfl rfl Yh rfl rfl rfl rfl rfl rfl,λf=>POp.row rfl rfl Yh rfl rfl rfl rfl rfl rfl,trivial⟩ ?_;refine UD.effK 2 [[true,true,false]] rfl rfl rfl Ye rfl rfl rfl ⟨λf=>⟨KOk.own (news:=[[.i 0]]) rfl rfl rfl (AVle.refl _) rfl rfl (AVle.refl _) rfl Yw Yw (λ_=>.head _ _ _) (λ_=>rfl),Yn⟩,trivial⟩ ?_;refine UD.nil (λf=>?_);simp only[kvals,List.map_cons,List.map_nil,List.cons_append,List.nil_append];refine Z1 ?_;refine OL.le 39 (y:=AV.ints ((O.length:Int)::((mergeP all).1++[0]))) rfl (by rw[ord_cells];exact AVle.asL _ _) ?_;refine OL.mapPut rfl rfl (.inl rfl) rfl rfl rfl rfl rfl rfl (AVle.refl _) (.tail _ _ _ _ _ (.tail _ _ _ _ _ (.head _ _ _))) hM.ok Yax ?_;refine Z1 ?_;refine nR [] (gphE gb mb g U::imapE mb (putI l O.length (AV.ints ((O.length:Int)::((mergeP all).1++[0]))))::H) ?_;exact⟨_,by rw[order_yes h0 hl h3];exact hM.put Yr Ya,rfl⟩
    ·have h3:(mergeP all).2=false:=h3;refine Z1 ?_;refine nR [] (gphE gb mb g U::imapE mb l::H) ?_;exact⟨l,by rw[order_no h0 hl h3];exact hM.skip,rfl⟩
instance:HasMk Tryz.prog 149 (23,24,.slice none 0 0):=⟨Yf⟩
theorem openT(hg:fineP g=true){cs:List Int}(hcs:∀c∈cs,0<=c/\c<3+g.length)(hcl:cs.length<=1000000)(H:List Ent):ACall Tryz.prog 247 [AV.intss g,AV.ints cs] H
  (λy H'=>∃gb mb l U,y= .tup [.p gb 0,.b true]/\OrdMap l (ordersP g)/\H'=gphE gb mb g U::imapE mb l::H) (λ_ _=>False):=by
 refine aC (n:=104) Tryz.func247 λB I w0=>?_;have hgl:=fineP_len hg;refine Z10 ?_;refine oP (POp.call .k (fine g)) ?_;refine Z3 ?_;refine CW.cond rfl (λh0=>?_) (λh0=>?_)
 ·simp[hg] at h0
 ·replace h0:=nm h0;refine Z11 ?_;refine lj (λm st=>∃i:Nat,st=⟨[(20,.i i),(19,.i cs.length),(18,AV.ints cs),(0,AV.intss g)],H⟩/\m=cs.length - i/\i<=cs.length) (⟨0,rfl,rfl,Ya⟩) ?_;rintro m _ ⟨i,rfl,rfl,hi⟩;refine Z6 ?_;refine cd (λh1=>?_) λh1=>?_
  ·have hil:i<cs.length:=by omega
   have hc:=hcs _ (getD_memB hil);refine Z24 ?_;refine CW.cond rfl (λh2=>?_) (λh2=>?_)
   ·rw[Bool.cond_true_left] at h2;simp only[Bool.or_eq_true,decide_eq_true_eq] at h2;omega
   ·replace h2:=nm h2;refine Z7 ?_;exact ag (⟨i+1,rfl,rfl,hil⟩)
  ·refine Z10 ?_;refine OL.mkSlL 3 (3+g.length) rfl rfl rfl rfl rfl rfl rfl rfl rfl Yr Ya Ya YJ (λpb=>?_);refine OL.mkMap rfl rfl rfl rfl (λmb=>?_);refine Z1 ?_;refine OL.boxC rfl rfl rfl rfl rfl rfl rfl (λgb=>?_);refine Z11 ?_;refine OL.appendRoomX (news:=gRows g) rfl rfl rfl rfl rfl rfl rfl rfl (AVle.refl _) Yaa (one_intss g) (by rw[gRows_flat,List.length_replicate];omega) (.tail _ _ _ _ _ (.tail _ _ _ _ _ (.head _ _ _))) ?_;refine OL.eqH (H':=.blk gb 278 [.val (.slice (some ⟨pb,0,none⟩) 3 (3+g.length)),.val (.slice none 0 0),.val (.map (some mb))]::imapE mb []::.blk pb 23 ((nilRows++gRows g).flatten++[])::H) (by rw[<-rows_cells g _ rfl];rfl) ?_;refine OL.freezeS (k:=1) (d:=47) rfl (.tail _ _ _ _ (.tail _ _ _ _ (.head _ _))) Yw (λe he=>?_) Yaa YJ ?_
   ·rcases List.mem_append.1 he with h | h
    ·simp at h;rw[h];rfl
    ·obtain⟨y,_,rfl⟩:=List.mem_map.1 h;rfl
   refine OL.le 47 (y:=AV.intss (parsOf g)) rfl (rows_le g) ?_;refine Z17 ?_;refine CW.ownNilB (b:=gb) (t:=278) 303 1 1 YC rfl rfl ?_;refine CW.le 54 (y:=.i ((3+g.length:Nat):Int)) rfl (AVle.eqI (by rw[parsOf_len])) ?_;refine lj (λm st=>∃(i:Nat) (us:List Nat) (v:Value),st=⟨[(55,.i i),(54,.i ((3+g.length:Nat):Int)),(53,AV.intss (parsOf g)),(8,.p gb 0)],.own 303 1 v::gphE gb mb g (.as (AV.sets us) v)::imapE mb []::H⟩/\m=(3+g.length) - i/\i<=(3+g.length)/\us.length=i/\∀x∈us,x<18446744073709551616) (⟨0,[],_,rfl,rfl,Ya,rfl,Yr⟩) ?_;rintro m _ ⟨i,us,v,rfl,rfl,hi,hus,hu64⟩;refine Z6 ?_;refine cd (λh3=>?_) λh3=>?_
   ·have hil:i<3+g.length:=by omega
    obtain⟨ps,hps⟩:∃ps,ps=(parsOf g).getD i default:=⟨_,rfl⟩;have hpo:=parsOf_ps hg i;rw[<-hps] at hpo;have hp3:=hpo.1;refine Z7 ?_;refine oP ((by first | exact POp.ixM rfl rfl rfl rfl rfl (by rw[parsOf_len];exact hil) | exact POp.ixI rfl rfl rfl rfl rfl (by rw[parsOf_len];exact hil))) ?_;refine Z6 ?_;rw[<-hps];refine Z3 ?_;refine oP (POp.call .k (lsWith 0 i Ya Ya)) ?_;refine oP (POp.call .k (lsWith _ 0 Ya (or64 Ya (pow64 Ya)))) ?_;refine OL.alC rfl rfl rfl rfl (λsb=>?_);refine Z12 ?_;obtain⟨s0,hs0⟩:∃s0,s0=0 ||| 2^(i:Int).toNat ||| 2^(0:Int).toNat:=⟨_,rfl⟩
    have hs64:s0<18446744073709551616:=hs0▸or64 (or64 Ya (pow64 Ya)) YO;refine lj (λm st=>∃(j s:Nat),st=⟨[(66,.i j),(65,.i ps.length),(64,AV.ints ps),(11,.p sb 0),(55,.i i),(54,.i ((3+g.length:Nat):Int)),(53,AV.intss (parsOf g)),(8,.p gb 0)],.blk sb 303 [AV.set s]::.own 303 1 v::gphE gb mb g (.as (AV.sets us) v)::imapE mb []::H⟩/\m=ps.length - j/\j<=ps.length/\s<18446744073709551616) (⟨0,s0,by rw[hs0],rfl,Ya,hs64⟩) ?_;rintro m _ ⟨j,s,rfl,rfl,hj,hs⟩;refine Z6 ?_;refine cd (λh4=>?_) λh4=>?_
    ·have hjl:j<ps.length:=by omega
     have hpm:=hpo.2 _ (getD_memB hjl);refine Z11 ?_;refine CW.dp mixed ?_;refine DP.anyC 0 8 104 rfl Ye rfl rfl Ye ?_;refine Z6 ?_;refine AD.popC rfl rfl rfl (POp.leC 74 rfl (AVle.asL _ _) (POp.ixI rfl rfl rfl rfl rfl Ya)) ?_;refine Z3 ?_;refine oP (POp.call .k (lsOr s _ hs (lt_get hu64 _))) ?_;refine Z8 ?_;exact ag (⟨j+1,s ||| us.getD (ps.getD j default).toNat default,rfl,rfl,hjl,or64 hs (lt_get hu64 _)⟩)
    ·refine Z5 ?_;refine CW.dp mixed ?_;refine DP.anyK (X:=noX) [⟨7,87,false⟩] (λJ=>match J with | [some v2]=>.blk sb 303 [AV.set s]::.own 303 1 v2::gphE gb mb g (.as (AV.sets us) v)::imapE mb []::H | _=>.blk sb 303 [AV.set s]::.own 303 1 v::gphE gb mb g (.as (AV.sets us) v)::imapE mb []::H) (λq J=>match q,J with | 0,[some v2]=>.as (.sl 1 ((us.map λs=>[AV.set s])++[[AV.set s]])) v2 | _,_=>.any) 0 8 104 rfl Ye Ye rfl rfl Ye rfl (λ_ _ _ _ _ _ _ _ _ h=>h.elim) ?_;refine UD.popK [[true],[false]] rfl Ye rfl rfl rfl ⟨λf=>POp.move rfl rfl rfl,λf=>POp.move rfl rfl rfl,trivial⟩ ?_;refine UD.popK [[false]] rfl Ye rfl rfl rfl ⟨λf=>POp.move rfl rfl rfl,trivial⟩ ?_;refine UD.popK [[false]] rfl Ye rfl rfl rfl ⟨λf=>YA,trivial⟩ ?_;refine UD.popK [[false]] rfl Ye rfl rfl rfl ⟨λf=>Yj,trivial⟩ ?_;refine UD.popK [[false]] rfl Ye rfl rfl rfl ⟨λf=>Yb,trivial⟩ ?_;refine UD.popK [[false]] rfl Ye rfl rfl rfl ⟨λf=>YK,trivial⟩ ?_;refine UD.popK [[false]] rfl Ye rfl rfl rfl ⟨λf=>POp.row rfl rfl Yh rfl rfl rfl rfl rfl rfl,trivial⟩ ?_;refine UD.effK 0 [[false]] rfl rfl rfl Ye rfl rfl rfl ⟨λf=>⟨KOk.own (news:=[[AV.set s]]) rfl rfl rfl (AVle.refl _) rfl rfl (AVle.refl _) rfl Yw Yw (λ_=>.tail _ _ _ _ _ (.head _ _ _)) (λ_=>rfl),Yn⟩,trivial⟩ ?_;refine UD.nil (λf=>?_);simp only[kvals,List.map_cons,List.map_nil,List.cons_append,List.nil_append];refine Z11 ?_;rw[sets_snoc];exact ag ⟨i+1,us++[s],f 87,rfl,rfl,hil,by rw[List.length_append,hus];rfl,λx hx=>by rcases List.mem_append.1 hx with h | h;exact hu64 x h;simp at h;rw[h];exact hs⟩
   ·refine Z17 ?_;refine CW.subH (H':=gphE gb mb g (.as (AV.sets us) v)::imapE mb []::H) (.cons _ (.refl _)) ?_;obtain⟨U,hU⟩:∃U:AV,U= .as (AV.sets us) v:=⟨_,rfl⟩;rw[<-hU];refine CW.le 95 (y:=.i ((3+g.length:Nat):Int)) rfl (AVle.eqI (by rw[parsOf_len])) ?_;refine lj (λm st=>∃(i:Nat) (l:List (Int×AV)),st=⟨[(96,.i i),(95,.i ((3+g.length:Nat):Int)),(8,.p gb 0)],gphE gb mb g U::imapE mb l::H⟩/\m=(3+g.length) - i/\i<=(3+g.length)/\OrdMap l (ordT g i)) (⟨0,[],rfl,rfl,Ya,.nil⟩) ?_;rintro m _ ⟨i,l,rfl,rfl,hi,hM⟩;refine Z6 ?_;refine cd (λh5=>?_) λh5=>?_
    ·have hil:i<3+g.length:=by omega
     refine Z13 ?_;refine bC .k (by have h:=orderC hg (O:=ordT g i) (by rw[ordT_len Ya];exact hil) (ordT_ok hg i Ya) hM gb mb U H;rw[ordT_len Ya] at h;exact h.b) ?_
     ·rintro y H1 ⟨l',hM',rfl⟩;rw[<-ordT_succ' hil] at hM';refine Z7 ?_;exact ag (⟨i+1,l',rfl,rfl,hil,hM'⟩)
    ·obtain rfl:i=3+g.length:=by omega
     rw[ordT_all] at hM;refine Z13 ?_;refine rR [.tmp 4,.tmp 5] (gphE gb mb g U::imapE mb l::H) ?_;exact⟨gb,mb,l,U,Yg,hM,rfl⟩
theorem linT(hg:fineP g=true){c:Int}(hc:0<=c/\c<3+g.length):PCall Tryz.prog 224 [AV.intss g,.i c] (.tup [AV.ints (linP g c),.i (if(linP g c).isEmpty then 7 else 0)]):=by
 intro H;refine aC (n:=32) Tryz.func224 λB I w0=>?_;have hgl:=fineP_len hg;have hll:(linP g c).length<=1000:=by
  have h1:=(ordT_ok hg (3+g.length) (Nat.le_refl _)).len c.toNat;rw[ordT_len (Nat.le_refl _),ordT_all] at h1;show ((ordersP g).getD c.toNat []).length<=1000;omega
 refine Z10 ?_;refine oP (POp.row rfl rfl Yh rfl rfl rfl rfl rfl rfl) ?_;refine bC .k ((openT hg (cs:=[c]) (λx hx=>by simp at hx;rw[hx];exact hc) Yr H).b) ?_
 ·rintro _ _ ⟨gb,mb,l,U,rfl,hM,rfl⟩;refine Z14 ?_;refine CW.cond rfl (λh0=>?_) (λh0=>?_)
  ·simp at h0
  ·replace h0:=nm h0;refine Z10 ?_;refine oP (POp.lookupI rfl rfl rfl rfl rfl (.tail _ (.head _)) hM.ok Yax) ?_;refine OL.le 22 (y:=AV.ints (linP g c)) rfl (hM.look c Ya) ?_;refine Z4 ?_;refine cd (λh1=>?_) λh1=>?_
   ·have he:linP g c= []:=List.eq_nil_of_length_eq_zero Ya;refine Z8 ?_;refine Done.retR (rs:=[.tmp 4,.tmp 5]) (H':=H) rfl (.tmp rfl (.tmp rfl (.nil))) (.cons (AVle.nil 1) (.cons (.refl _) .nil)) Yc ?_;exact⟨by rw[he];rfl,rfl⟩
   ·have he:linP g c≠ []:=λe=>by rw[e] at h1;simp at h1
    refine Z9 ?_;refine oP (POp.lookupI rfl rfl rfl rfl rfl (.tail _ (.head _)) hM.ok Yax) ?_;refine OL.le 30 (y:=AV.ints (linP g c)) rfl (hM.look c Ya) ?_;refine oP (POp.call .k (cloneI _ Ya)) ?_;refine Z5 ?_;refine rR [.tmp 4,.tmp 5] (H) ?_;exact⟨by cases hl:linP g c with
 | nil=>exact absurd hl he
 | cons a r=>rfl,rfl⟩
end Go.Proofs.YtpgnjlngepfanaaGreat
