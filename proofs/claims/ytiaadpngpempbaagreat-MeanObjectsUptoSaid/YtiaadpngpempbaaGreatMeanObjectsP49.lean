/- Part 49 of the proof: contracts of functions of the program and what they need. No condition beyond those that each theorem names. -/
import Derived.Test.YtiaadpngpempbaaGreatMeanObjectsP48
set_option maxHeartbeats 1000000
set_option linter.unusedVariables false
set_option linter.unusedSimpArgs false
set_option maxRecDepth 10000
namespace Go.Proofs.YtiaadpngpempbaaGreat
open Go.Eng
open Go.Eng.Fc
open Go.Eng.Bd
variable{p:Prog}{c k s:Int}{r:List Int}{I:List (Int×Int)}{j:Nat}
instance:HasFldV Tryz.prog 31 1 1:=⟨Yb⟩
def turnS(p:Prog)(x:Th)(c s:Int):Int×Int:=if 0<=idxP (hasP p x.cls) s then x.slots.getD (idxP (hasP p x.cls) s).toNat default else slotP p c s
theorem turnP_eq(p:Prog)(x:Th)(c:Int):turnP p x c=⟨c,(hasP p c).map (turnS p x c)⟩:=by
 unfold turnP;congr 1;refine List.map_congr_left λs _=>?_;unfold turnS idxP;cases (hasP p x.cls).findIdx? (λy=>y==s) with
 | none=>
  show _=if(0:Int)<= -1 then _ else _
  rw[if_neg Ya]
 | some i=>rw[if_pos Yn];simp
def turnU(p:Prog)(x:Th)(c:Int)(k:Nat):List (Int×Int):=((hasP p c).take k).map (turnS p x c)++((hasP p c).drop k).map (slotP p c)
theorem turnU_len(p:Prog)(x:Th)(c:Int)(k:Nat):(turnU p x c k).length=(hasP p c).length:=by
 rw[turnU,List.length_append,List.length_map,List.length_map,List.length_take,List.length_drop];omega
theorem turnU_zero(p:Prog)(x:Th)(c:Int):turnU p x c 0=(newP p c).slots:=by rw[turnU,List.take_zero,List.drop_zero];rfl
theorem turnU_all(p:Prog)(x:Th)(c:Int):turnU p x c (hasP p c).length=(turnP p x c).slots:=by rw[turnU,List.take_length,List.drop_length,turnP_eq];simp
theorem turnU_set{x:Th}{k:Nat}(h:k<(hasP p c).length):(turnU p x c k).set k (turnS p x c ((hasP p c).getD k default))=turnU p x c (k+1):=by
 have hd:(hasP p c).drop k=(hasP p c).getD k default::(hasP p c).drop (k+1):=drop_getD h;rw[turnU,turnU,hd,List.map_cons,List.set_append_right _ _ (by rw[List.length_map,List.length_take];omega), <-take_getD h,List.map_append];rw[show k - (((hasP p c).take k).map (turnS p x c)).length=0 by rw[List.length_map,List.length_take];omega];simp
theorem turnU_same{x:Th}{k:Nat}(h:k<(hasP p c).length)(e:turnS p x c ((hasP p c).getD k default)=slotP p c ((hasP p c).getD k default)):turnU p x c k=turnU p x c (k+1):=by
 have hd:(hasP p c).drop k=(hasP p c).getD k default::(hasP p c).drop (k+1):=drop_getD h;rw[turnU,turnU,hd,List.map_cons, <-take_getD h,List.map_append,List.map_singleton,e];simp
theorem idxP_lt{l:List Int}{v:Int}(h:0<=idxP l v):(idxP l v).toNat<l.length:=by
 unfold idxP at h ⊢;cases hi:l.findIdx? (λx=>x==v) with
 | none=>rw[hi] at h;simp at h
 | some i=>
  obtain⟨h1,_⟩:=List.findIdx?_eq_some_iff_getElem.1 hi;simpa using h1
def turnOk(p:Prog)(objs:List Th)(n c:Int):Bool:=ownC p c && checkP p objs && decide (0<=n) && decide (n<objs.length)
def turnsP(p:Prog)(objs:List Th)(n c:Int):List Th:=objs.set n.toNat (turnP p (objs.getD n.toNat default) c)
theorem check_thing{objs:List Th}(h:checkP p objs=true):(sizesP p).isSome=true/\objs.length<=40/\∀t∈objs,thingP p objs.length t=true:=by
 simp only[checkP,Bool.and_eq_true,decide_eq_true_eq] at h;exact⟨h.1.1,h.1.2,List.all_eq_true.1 h.2⟩
theorem thing_slots{n:Int}{t:Th}(h:thingP p n t=true):ownC p t.cls=true/\(hasP p t.cls).length=t.slots.length:=by
 simp only[thingP,Bool.and_eq_true,beq_iff_eq] at h;exact h.1
theorem turn_bif(p:Prog)(objs:List Th)(n c:Int):(bif bif bif (if ownC p c then (0:Int) else 2) !=0 then true else (if checkP p objs then (0:Int) else 2) !=0 then true else decide (n<0) then true else decide (n>=(objs.length:Int)))= !turnOk p objs n c:=by
 unfold turnOk;cases ownC p c <;> cases checkP p objs <;> simp;rw[Bool.eq_iff_iff];simp only[Bool.or_eq_true,decide_eq_true_eq,Bool.not_eq_true', <-Bool.not_eq_true,Bool.and_eq_true];omega
theorem objectP(ho:ownC p c=true){sb fb:Nat}{lf:List (Int×AV)}(hF:MapOf (fNew p) lf p.classes.length):PCallIn Tryz.prog [imapE fb lf] 12 [.ptr (clsK p sb fb),.i c] (.agg (thA (newP p c))):=by
 intro H hm;refine aC (n:=15) Tryz.func12 λB I w0=>?_;have hcl:=clsOk_of ho;have hck:smallKey c:=by have:=hcl.c3;have:=hcl.cl;have:=hcl.c10;unfold smallKey;omega
 have hhl:=hcl.hl;have hnl:(newP p c).slots.length=(hasP p c).length:=by simp[newP]
 refine Z2 ?_;refine OL.alC rfl rfl rfl rfl (λb0=>?_);refine Z10 ?_;refine oP (POp.le (POp.lookupI rfl rfl rfl rfl rfl (.tail _ (hm _ (.head _))) hF.ok hck) (hF.look ⟨by have:=hcl.c3;omega,by have:=hcl.cl;omega⟩ _)) ?_;refine oP (POp.fieldV rfl rfl rfl rfl) ?_;refine oP (POp.call .k (valsC (newP p c).slots Ya)) ?_;refine Z5 ?_;refine rR [.cell 4 31] (H) ?_;exact⟨Yac,rfl⟩
theorem objectB(ho:ownC p c=true){sb fb:Nat}{lf:List (Int×AV)}(hF:MapOf (fNew p) lf p.classes.length)(hne:0<(hasP p c).length)(H:List Ent)(hm:∀e∈ [imapE fb lf],e∈H):ACall Tryz.prog 12 [.ptr (clsK p sb fb),.i c] H (λy H'=>∃b more,y= .agg [.i c,.val (.slice (some ⟨b,0,none⟩) (hasP p c).length (hasP p c).length)]/\H'= .blk b 58 (((newP p c).slots.map initA).flatten++more)::H) (λ_ _=>False):=by
 refine aC (n:=15) Tryz.func12 λB I w0=>?_;have hcl:=clsOk_of ho;have hck:smallKey c:=by have:=hcl.c3;have:=hcl.cl;have:=hcl.c10;unfold smallKey;omega
 have hhl:=hcl.hl;have hnl:(newP p c).slots.length=(hasP p c).length:=by simp[newP]
 refine Z2 ?_;refine OL.alC rfl rfl rfl rfl (λb0=>?_);refine Z10 ?_;refine oP (POp.le (POp.lookupI rfl rfl rfl rfl rfl (.tail _ (hm _ (.head _))) hF.ok hck) (hF.look ⟨by have:=hcl.c3;omega,by have:=hcl.cl;omega⟩ _)) ?_;refine oP (POp.fieldV rfl rfl rfl rfl) ?_;refine bC .k ((valsB (newP p c).slots Ya Ya _).b) ?_;rintro _ _ ⟨b,more,rfl,rfl⟩;rw[hnl];refine Z5 ?_;refine Done.retR (rs:=[.cell 4 31]) (H':=.blk b 58 (((newP p c).slots.map initA).flatten++more)::H) rfl (YA) (AVleL.refl _) (by exact .cons_cons _ (.cons _ (.refl _))) ?_;exact⟨b,more,rfl,rfl⟩
theorem turned0(ho:ownC p c=true){x:Th}(hx:ownC p x.cls=true)(hxl:(hasP p x.cls).length=x.slots.length){sb fb:Nat}{ls lf:List (Int×AV)}(hS:MapOf (fHas p) ls p.classes.length)(hF:MapOf (fNew p) lf p.classes.length)(hne:hasP p c= []):PCallIn Tryz.prog [imapE fb lf,imapE sb ls] 18 [.ptr (clsK p sb fb),.agg (thA x),.i c] (.agg (thA (turnP p x c))):=by
 intro H hm;refine aC (n:=48) Tryz.func18 λB I w0=>?_;have hcl:=clsOk_of ho;have hck:smallKey c:=by have:=hcl.c3;have:=hcl.cl;have:=hcl.c10;unfold smallKey;omega
 have hhl:=hcl.hl;have hnl:(newP p c).slots.length=(hasP p c).length:=by simp[newP]
 have hxc:=clsOk_of hx;have hxk:smallKey x.cls:=by have:=hxc.c3;have:=hxc.cl;have:=hxc.c10;unfold smallKey;omega
 refine Z3 ?_;refine OL.alC rfl rfl rfl rfl (λob=>?_);refine Z6 ?_;refine oP (POp.callIn .k (AVleL.refl _) (objectP ho hF) (λe he=>by rw[List.mem_singleton] at he;subst he;exact .tail _ (hm _ (.head _)))) ?_;refine OL.alC rfl rfl rfl rfl (λtb=>?_);refine Z11 ?_;refine oP (POp.le (POp.lookupI rfl rfl rfl rfl rfl (.tail _ (.tail _ (hm _ (.tail _ (.head _))))) hS.ok hck) (hS.look ⟨by have:=hcl.c3;omega,by have:=hcl.cl;omega⟩ _)) ?_;refine Z5 ?_;refine lj (λm st=>st=⟨[(21,.i 0),(20,.i (hasP p c).length),(7,.p tb 0),(6,.p ob 0)],.blk tb 31 (thA (newP p c))::.blk ob 31 [.i 0,.val (.slice none 0 0)]::H⟩/\m=0) (⟨rfl,rfl⟩) ?_;rintro m _ ⟨rfl,rfl⟩;refine Z6 ?_;refine CW.cond rfl (λh0=>?_) (λh0=>?_)
 ·exfalso;rw[hne] at h0;simp at h0
 ·refine Z12 ?_;refine rR [.cell 6 31] (H) ?_;exact⟨by rw[turnP_eq,newP,hne];rfl,rfl⟩
theorem turnedB(ho:ownC p c=true){x:Th}(hx:ownC p x.cls=true)(hxl:(hasP p x.cls).length=x.slots.length){sb fb:Nat}{ls lf:List (Int×AV)}(hS:MapOf (fHas p) ls p.classes.length)(hF:MapOf (fNew p) lf p.classes.length)(hne:0<(hasP p c).length):PCallIn Tryz.prog [imapE fb lf,imapE sb ls] 18 [.ptr (clsK p sb fb),.agg (thA x),.i c] (.agg (thA (turnP p x c))):=by
 intro H hm;refine aC (n:=48) Tryz.func18 λB I w0=>?_;have hcl:=clsOk_of ho;have hck:smallKey c:=by have:=hcl.c3;have:=hcl.cl;have:=hcl.c10;unfold smallKey;omega
 have hhl:=hcl.hl;have hnl:(newP p c).slots.length=(hasP p c).length:=by simp[newP]
 have hxc:=clsOk_of hx;have hxk:smallKey x.cls:=by have:=hxc.c3;have:=hxc.cl;have:=hxc.c10;unfold smallKey;omega
 refine Z3 ?_;refine OL.alC rfl rfl rfl rfl (λob=>?_);refine Z6 ?_;refine bC .k ((objectB ho hF hne _ (λe he=>by rw[List.mem_singleton] at he;subst he;exact .tail _ (hm _ (.head _)))).b) ?_;rintro _ _ ⟨b,more,rfl,rfl⟩;refine OL.alC rfl rfl rfl rfl (λtb=>?_);refine Z5 ?_;refine CW.perm (H':=.blk b 58 (((turnU p x c 0).map initA).flatten++more)::.blk tb 31 [.i c,.val (.slice (some ⟨b,0,none⟩) (hasP p c).length (hasP p c).length)]::.blk ob 31 [.i 0,.val (.slice none 0 0)]::H) (by rw[turnU_zero];exact .swap _ _ _) ?_;refine Z6 ?_;refine oP (POp.le (POp.lookupI rfl rfl rfl rfl rfl (.tail _ (.tail _ (.tail _ (hm _ (.tail _ (.head _)))))) hS.ok hck) (hS.look ⟨by have:=hcl.c3;omega,by have:=hcl.cl;omega⟩ _)) ?_;refine Z5 ?_;refine lj (λm st=>∃k:Nat,st=⟨[(21,.i k),(20,.i (hasP p c).length),(19,AV.ints (hasP p c)),(7,.p tb 0),(6,.p ob 0),(4,.ptr (thA x)),(2,.i c),(0,.ptr (clsK p sb fb))],.blk b 58 (((turnU p x c k).map initA).flatten++more)::.blk tb 31 [.i c,.val (.slice (some ⟨b,0,none⟩) (hasP p c).length (hasP p c).length)]::.blk ob 31 [.i 0,.val (.slice none 0 0)]::H⟩/\m=(hasP p c).length - k/\k<=(hasP p c).length) (⟨0,rfl,rfl,Ya⟩) ?_;rintro m _ ⟨k,rfl,rfl,hk⟩;refine Z6 ?_;refine cd (λh0=>?_) λh0=>?_
 ·have hkl:k<(hasP p c).length:=by omega
  obtain⟨s,hs⟩:∃s,s=(hasP p c).getD k default:=⟨_,rfl⟩;have hset:=turnU_set (x:=x) hkl;have hsame:=turnU_same (x:=x) hkl;rw[<-hs] at hset hsame;have hul:=turnU_len p x c k;refine Z14 ?_;rw[<-hs];refine CW.dp mixed ?_;refine DP.anyC 0 8 48 rfl Ye rfl rfl Ye ?_;refine Z6 ?_;refine AD.popC rfl rfl rfl (POp.le (POp.lookupI rfl rfl rfl rfl rfl (.tail _ (.tail _ (.tail _ (hm _ (.tail _ (.head _)))))) hS.ok hxk) (hS.look ⟨by have:=hxc.c3;omega,by have:=hxc.cl;omega⟩ _)) ?_;refine Z3 ?_;refine oP (POp.call .k (p100 (hasP p x.cls) s)) ?_;refine Z9 ?_;refine CW.cond rfl (λh1=>?_) (λh1=>?_)
  ·have h1:0<=idxP (hasP p x.cls) s:=by simpa using h1
   have hil:=idxP_lt h1;have htS:turnS p x c s=x.slots.getD (idxP (hasP p x.cls) s).toNat default:=if_pos h1;rw[htS] at hset;refine CW.dp mixed ?_;refine DP.anyC 0 8 48 rfl Ye rfl rfl Ye ?_;refine Z6 ?_;refine AD.popC rfl rfl rfl (Yu) ?_;refine Z3 ?_;refine oP (POp.ixC rfl rfl rfl rfl rfl Ya) ?_;apply OL.stoC rfl rfl rfl rfl rfl rfl rfl rfl rfl rfl
   (case hu=>repeat (first | exact Upd.head _ _ _ | apply Upd.tail));(case hfit=>exact flatK_fit in_two Ya more);(case hds=>exact (flatK_set in_two Ya _ more).trans (by rw[hset]))
   refine Z7 ?_;exact ag (⟨k+1,rfl,rfl,hkl⟩)
  ·have h1: ¬0<=idxP (hasP p x.cls) s:=by simpa using h1
   replace hsame:=hsame (if_neg h1);refine Z7 ?_;exact ag (⟨k+1,by rw[<-hsame],rfl,hkl⟩)
 ·obtain rfl:k=(hasP p c).length:=by omega
  have hul:=turnU_len p x c (hasP p c).length;refine Z6 ?_;refine CW.freezeCellC (k:=2) (xs:=[.i c]) (ys:=[]) (els:=(turnU p x c (hasP p c).length).map initA) (by rw[List.length_map,hul]) (λe he=>by obtain⟨y,_,rfl⟩:=List.mem_map.1 he;rfl) (Nat.le_refl _) Yw ?_;rw[turnU_all];refine Z6 ?_;refine rR [.cell 6 31] (H) ?_;exact⟨by rw[turnP_eq];rfl,rfl⟩
theorem turnedC(ho:ownC p c=true){x:Th}(hx:ownC p x.cls=true)(hxl:(hasP p x.cls).length=x.slots.length){sb fb:Nat}{ls lf:List (Int×AV)}(hS:MapOf (fHas p) ls p.classes.length)(hF:MapOf (fNew p) lf p.classes.length):PCallIn Tryz.prog [imapE fb lf,imapE sb ls] 18 [.ptr (clsK p sb fb),.agg (thA x),.i c] (.agg (thA (turnP p x c))):=by
 rcases Nat.eq_zero_or_pos (hasP p c).length with h | h
 ·exact turned0 ho hx hxl hS hF (List.eq_nil_of_length_eq_zero h)
 ·exact turnedB ho hx hxl hS hF h
theorem newC(hp:p.Small)(c:Int):PCall Tryz.prog 4 [AV.prog p,.i c] (.tup [.agg (thA (if ownC p c then newP p c else default)),.i (if ownC p c then 0 else 2)]):=by
 intro H;refine aC (n:=21) Tryz.func4 λB I w0=>?_;refine Z3 ?_;refine OL.alC rfl rfl rfl rfl (λb0=>?_);refine Z8 ?_;refine oP (POp.call .k (hasB hp c)) ?_;refine Z13 ?_;refine CW.cond rfl (λh0=>?_) (λh0=>?_)
 ·have ho:ownC p c=false:=by cases h:ownC p c with
   | false=>rfl
   | true=>rw[h] at h0;simp at h0
  rw[ho];refine Z9 ?_;refine Done.retR (rs:=[.cell 4 31,.tmp 5]) (H':=H) rfl (Yq) (.cons (AVle.agg (.cons (.refl _) (.cons (AVle.nil 2) .nil))) (.cons (.refl _) .nil)) Yd ?_;exact⟨Yac,rfl⟩
 ·have ho:ownC p c=true:=by cases h:ownC p c with
   | true=>rfl
   | false=>rw[h] at h0;simp at h0
  have hz:(sizesP p).isSome=true:=by unfold ownC at ho;rw[Bool.and_eq_true] at ho;exact ho.2
  rw[ho];refine Z5 ?_;refine bC .k ((knownC hp hz _).b) ?_;rintro _ _ ⟨sb,fb,ls,lf,rfl,rfl,hS,hF⟩;refine Z1 ?_;refine oP (POp.callIn .k (AVleL.refl _) (objectP ho hF) (λe he=>by rw[List.mem_singleton] at he;subst he;exact .head _)) ?_;refine Z5 ?_;refine Done.retR (rs:=[.cell 4 31,.tmp 5]) (H':=H) rfl (Yq) (AVleL.refl _) Yd ?_;exact⟨Yac,rfl⟩
theorem turnC(hp:p.Small)(objs:List Th)(n c:Int):PCall Tryz.prog 6 [AV.prog p,AV.ths objs,.i n,.i c] (.tup [AV.ths (if turnOk p objs n c then turnsP p objs n c else []),.i (if turnOk p objs n c then 0 else 2)]):=by
 intro H;refine aC (n:=51) Tryz.func6 λB I w0=>?_;refine CW.boundM (t:=1) rfl (λhb1=>?_);refine Z12 ?_;refine oP (POp.call .k (hasB hp c)) ?_;refine Z14 ?_;refine OL.guardC rfl rfl rfl rfl rfl rfl (λhg=>POp.call (.mk' rfl rfl rfl rfl Yc) (meanCheck hp objs)) ?_;refine Z14 ?_;refine CW.cond rfl (λh0=>?_) (λh0=>?_)
 ·rw[turn_bif,Bool.not_eq_true'] at h0;rw[h0];refine Z8 ?_;refine Done.retR (rs:=[.tmp 8,.tmp 9]) (H':=H) rfl (.tmp rfl (.tmp rfl (.nil))) (.cons (AVle.nil 2) (.cons (.refl _) .nil)) Yd ?_;exact⟨Yac,rfl⟩
 ·rw[turn_bif,Bool.not_eq_false'] at h0;rw[h0];have ho:=h0;simp only[turnOk,Bool.and_eq_true,decide_eq_true_eq] at ho;obtain⟨⟨⟨ho,hch⟩,hn0⟩,hnl⟩:=ho;obtain⟨hz,h40,hth⟩:=check_thing hch;obtain⟨k,rfl⟩:∃k:Nat,n=k:=⟨n.toNat,Ya⟩;have hkl:k<objs.length:=by omega
  have hsl:∀t∈objs,t.slots.length<=100000:=λt ht=>by obtain⟨q1,q2⟩:=thing_slots (hth t ht);have:=(clsOk_of q1).hl;omega
  obtain⟨hxo,hxl⟩:=thing_slots (hth _ (getD_memB hkl));refine Z5 ?_;refine bC .k ((thingsB objs Ya hsl Ya _).b) ?_;rintro _ _ ⟨b,more,rfl,rfl⟩;refine Z4 ?_;refine CW.dp mixed ?_;refine DP.anyXC (λy H'=>∃sb fb ls lf,y= .ptr (clsK p sb fb)/\H'=imapE fb lf::imapE sb ls::.blk b 31 ((objs.map thA).flatten++more)::H/\MapOf (fHas p) ls p.classes.length/\MapOf (fNew p) lf p.classes.length) 42 3 0 10 51 rfl Ye Ye rfl rfl Ye ?_;refine TD.popX Ye rfl rfl rfl rfl (λy H1 hP=>POp.move rfl rfl rfl) (λh0=>POp.move rfl rfl rfl) ?_;refine TD.popX Ye rfl rfl rfl rfl (λy H1 hP=>POp.move rfl rfl rfl) (λh0=>POp.move rfl rfl rfl) ?_;refine TD.popX Ye rfl rfl rfl rfl (λy H1 hP=>Yr) (λh0=>Yr) ?_;refine TD.effX Ye Ye rfl rfl rfl .k (λB=>(knownC hp hz _).b) ?_;refine TD.popX Ye rfl rfl rfl rfl (λy H1 hP=>POp.move rfl rfl rfl) (λh0=>POp.move rfl rfl rfl) ?_;refine TD.popX Ye rfl rfl rfl rfl (λy H1 hP=>POp.move rfl rfl rfl) (λh0=>POp.move rfl rfl rfl) ?_;refine TD.popX Ye rfl rfl rfl rfl (λy H1 hP=>POp.ixC rfl rfl rfl rfl rfl Ya) (λh0=>POp.ixC rfl rfl rfl rfl rfl Ya) ?_;refine TD.popX Ye rfl rfl rfl rfl (λy H1 hP=>(by obtain⟨sb,fb,ls,lf,rfl,rfl,_⟩:=hP;exact (by apply POp.ldAH rfl rfl rfl;(case hm=>exact .tail _ (.tail _ (.head _)));(case hy=>exact flatK_get th_two hkl more);(case hn=>rfl)))) (λh0=>YW) ?_;refine TD.popX Ye rfl rfl rfl rfl (λy H1 hP=>POp.move rfl rfl rfl) (λh0=>POp.move rfl rfl rfl) ?_;refine TD.popX Ye rfl rfl rfl rfl (λy H1 hP=>(by obtain⟨sb,fb,ls,lf,rfl,rfl,hS,hF⟩:=hP;exact POp.callIn .k (AVleL.refl _) (turnedC ho hxo hxl hS hF) (λe he=>by rcases List.mem_cons.1 he with rfl | he;exact .head _;rw[List.mem_singleton] at he;subst he;exact .tail _ (.head _)))) (λh0=>absurd h0 Ye) ?_;refine TD.nil (λy H1 hP=>?_);obtain⟨sb,fb,ls,lf,rfl,rfl,hS,hF⟩:=hP;refine Z1 ?_;refine oP (POp.ixC rfl rfl rfl rfl rfl Ya) ?_;apply OL.stoC rfl rfl rfl rfl rfl rfl rfl rfl rfl rfl
  (case hu=>repeat (first | exact Upd.head _ _ _ | apply Upd.tail));(case hfit=>exact flatK_fit th_two hkl more);(case hds=>exact flatK_set th_two hkl _ more)
  refine Z3 ?_;refine CW.subH (H':=.blk b 31 (((turnsP p objs (k:Int) c).map thA).flatten++more)::H) (.cons _ (.cons _ (.refl _))) ?_;refine CW.freezeS (k:=2) (d:=12) rfl (.head _ _) (by rw[List.length_map,turnsP,List.length_set]) (λe he=>by obtain⟨y,_,rfl⟩:=List.mem_map.1 he;rfl) (Nat.le_refl _) Yw ?_;refine Z7 ?_;refine rR [.tmp 8,.tmp 9] (H) ?_;exact⟨Yac,rfl⟩
theorem first_skip(h:k<3):firstIn p s (k::r)=firstIn p s r:=by
 have e:initsC p k= []:=by rw[initsC,if_neg Ya]
 rw[firstIn,e];rfl
theorem first_none(hI:initsC p k=I)(h:I.any (λx=>x.1==s)=false):firstIn p s (k::r)=firstIn p s r/\I.filter (λx=>x.1==s)= []:=by
 have e:I.filter (λx=>x.1==s)= []:=List.filter_eq_nil_iff.2 λx hx=>by have:=List.any_eq_false.1 h x hx;simpa using this
 refine⟨?_,e⟩;rw[firstIn,hI,e];rfl
theorem first_some(hI:initsC p k=I)(h:I.any (λx=>x.1==s)=true):firstIn p s (k::r)=I.filter (λx=>x.1==s):=by
 rw[firstIn,hI];have e:(I.filter λx=>x.1==s).isEmpty=false:=by
  rw[<-Bool.not_eq_true,List.isEmpty_iff];intro e;obtain⟨x,hx,hp⟩:=List.any_eq_true.1 h;have:x∈I.filter λx=>x.1==s:=List.mem_filter.2 ⟨hx,hp⟩;rw[e] at this;cases this
 simp only[e];rfl
theorem filt_yes(h:j<I.length)(hp:((I.getD j default).1==s)=true):(I.take (j+1)).filter (λx=>x.1==s)=(I.take j).filter (λx=>x.1==s)++[I.getD j default]/\(I.take (j+1)).any (λx=>x.1==s)=true:=by
 rw[<-take_getD h,List.filter_append,List.any_append];simp only[List.filter_cons,List.filter_nil,List.any_cons,hp,if_true,Bool.true_or,Bool.or_true,and_self]
theorem filt_no(h:j<I.length)(hp:((I.getD j default).1==s)=false):(I.take (j+1)).filter (λx=>x.1==s)=(I.take j).filter (λx=>x.1==s)/\(I.take (j+1)).any (λx=>x.1==s)=(I.take j).any (λx=>x.1==s):=by
 rw[<-take_getD h,List.filter_append,List.any_append];simp only[List.filter_cons,List.filter_nil,List.any_cons,List.any_nil,hp,Bool.or_false,List.append_nil,and_self,if_false,Bool.false_eq_true]
theorem mvs_app(O W:List (Int×Int))(x:Int×Int):AV.mvs (O++(W++[x]))= .sl 2 ((O++W).map initA++[initA x]):=by rw[<-List.append_assoc,mvsB_snoc]
theorem flat_snocB{α β:Type}[Inhabited α](f:α->List β){l:List α}{i:Nat}(h:i<l.length):(l.take (i+1)).flatMap f=(l.take i).flatMap f++f (l.getD i default):=by
 rw[<-take_getD h,List.flatMap_append];simp
theorem first_len{p:Prog}{s:Int}(n:Nat)(h:∀k∈p.classes,k.inits.length<=n):∀l:List Int,(firstIn p s l).length<=n
 | []=>Nat.zero_le _
 | k::r=>by
  simp only[firstIn];split
  ·exact first_len n h r
  ·refine Nat.le_trans (List.length_filter_le _ _) ?_;unfold initsC;split
   ·by_cases hk:(k - 3).toNat<p.classes.length
    ·exact h _ (getD_memB hk)
    ·rw[List.getD_eq_getElem?_getD,List.getElem?_eq_none Ya];exact Nat.zero_le _
   ·exact Nat.zero_le _
theorem inits1_nodup(mine:List Int):∀(l:List (Int×Int)) (seen:List Int),inits1 mine l seen=true->(∀x∈l,x.1∉seen)/\(l.map (·.1)).Nodup
 | [],seen,h=>⟨λx hx=>by(cases hx),.nil⟩
 | y::r,seen,h=>by
  simp only[inits1,Bool.and_eq_true,Bool.not_eq_true',List.contains_eq_mem,decide_eq_false_iff_not] at h;obtain⟨h1,h2⟩:=inits1_nodup mine r _ h.2;refine⟨λx hx=>?_,?_⟩
  ·rcases List.mem_cons.1 hx with rfl | hx
   ·exact h.1.1.2
   ·exact λe=>h1 x hx (List.mem_append_left _ e)
  ·rw[List.map_cons,List.nodup_cons];refine⟨λe=>?_,h2⟩;obtain⟨x,hx,hxe⟩:=List.mem_map.1 e;exact h1 x hx (by rw[hxe];simp)
theorem cls_inits(h:ownC p c=true):∀k∈p.classes,k.inits.length<=20000:=by
 obtain⟨⟨h3,hc⟩,hcl⟩:=own_parts h;have hz:(sizesP p).isSome=true:=by unfold ownC at h;rw[Bool.and_eq_true] at h;exact h.2
 have hcl2:=hcl;simp only[classesP,Bool.and_eq_true,decide_eq_true_eq] at hcl2;intro k hk;obtain⟨i,hi,rfl⟩:=List.mem_iff_getElem.1 hk;have e:p.classes.getD i default=p.classes[i]:=by rw[List.getD_eq_getElem?_getD,List.getElem?_eq_getElem hi];rfl
 have h2:=List.all_eq_true.1 hcl2.2 i (List.mem_range.2 hi);rw[clsOk,Bool.and_eq_true,e] at h2;have hnd:=(inits1_nodup _ _ _ h2.2).2;have hsub:=inits1_mem _ _ _ h2.2;have hl:=(clsOk_of (p:=p) (c:=(i:Int)+3) (by unfold ownC;rw[hz,Bool.and_true,Bool.and_eq_true,decide_eq_true_eq,decide_eq_true_eq];omega)).hl;have:=List.Nodup.length_le_of_subset hnd (l₂:=hasP p ((i:Int)+3)) (λy hy=>by obtain⟨x,hx,rfl⟩:=List.mem_map.1 hy;exact hsub x hx);rw[List.length_map] at this;omega
theorem rBegin(hp:p.Small){c:Int}(ho:ownC p c=true):PCall Tryz.prog 38 [AV.prog p,.i c] (AV.mvs (beginR p c)):=by
 intro H;refine aC (n:=81) Tryz.func38 λB I w0=>?_;have hc0:=clsOk_of ho;obtain⟨h3,hcl,h10,hsl,hpk,hfine,hne,hlen,hin,hini,hhas,hhl⟩:=clsOk_of ho;have hil0:=cls_inits ho;have hz:(sizesP p).isSome=true:=by unfold ownC at ho;rw[Bool.and_eq_true] at ho;exact ho.2
 have hgl:(graphP p).length=p.classes.length:=by simp[graphP]
 refine Z9 ?_;refine oP (POp.call .k (rGraph p Ya (λc h=>(hsl c h).1))) ?_;refine Z1 ?_;refine oP (POp.call .k (rLin hfine Ya Ya)) ?_;refine Z11 ?_;refine oP (POp.call .k (rHasOf hp hz h3 hcl)) ?_;refine Z15 ?_;refine CW.ownNil 8 79 2 rfl ?_;refine lj (λm st=>∃(i:Nat) (v:Value) (O:List (Int×Int)),st=⟨[(9,.i i),(8,.as (AV.mvs O) v),(7,AV.ints (hasP p c)),(5,AV.ints (linP (graphP p) c)),(2,.ptr (progC p))],.own 79 2 v::H⟩/\m=(hasP p c).length - i/\i<=(hasP p c).length/\O=(((hasP p c).take i).flatMap λs=>firstIn p s (linP (graphP p) c))/\O.length<=i*20000) (⟨0,_,[],rfl,rfl,Ya,rfl,Yn⟩) ?_;rintro m _ ⟨i,v,O,rfl,rfl,hi,hO,hOl⟩;refine Z9 ?_;refine cd (λh0=>?_) λh0=>?_
 ·have hil:i<(hasP p c).length:=by omega
  obtain⟨s,hs⟩:∃s,s=(hasP p c).getD i default:=⟨_,rfl⟩;have hsn:=flat_snocB (λs=>firstIn p s (linP (graphP p) c)) hil;rw[<-hs, <-hO] at hsn;have hfl:=first_len (s:=s) 20000 hil0;refine Z15 ?_;refine lj (λm st=>∃(k:Nat) (fd:Bool) (v:Value) (W:List (Int×Int)),st=⟨[(11,.i k),(10,.b fd),(9,.i i),(8,.as (AV.mvs (O++W)) v),(7,AV.ints (hasP p c)),(5,AV.ints (linP (graphP p) c)),(2,.ptr (progC p))],.own 79 2 v::H⟩/\m=(linP (graphP p) c).length - k/\k<=(linP (graphP p) c).length/\(fd=true->W=firstIn p s (linP (graphP p) c))/\(fd=false->W= []/\firstIn p s (linP (graphP p) c)=firstIn p s ((linP (graphP p) c).drop k))) (⟨0,false,v,[],by rw[List.append_nil],rfl,Ya,λh=>Y5,λ_=>⟨rfl,rfl⟩⟩) ?_;rintro m _ ⟨k,fd,v,W,rfl,rfl,hk,hf1,hf2⟩;refine Z13 ?_;refine cd (λh1=>?_) λh1=>?_
  ·have hkl:k<(linP (graphP p) c).length/\fd=false:=by revert h1;cases fd <;> simp <;> omega
   obtain⟨hkl,rfl⟩:=hkl;obtain⟨rfl,hg2⟩:=hf2 rfl;obtain⟨q,hq⟩:∃q,q=(linP (graphP p) c).getD k default:=⟨_,rfl⟩;have hqr:=hin q (hq▸getD_memB hkl);have hdr:(linP (graphP p) c).drop k=q::(linP (graphP p) c).drop (k+1):=by rw[hq];exact drop_getD hkl
   rw[hdr] at hg2;refine Z6 ?_;refine CW.dp mixed ?_;refine DP.anyC 0 5 81 rfl Ye rfl rfl Ye ?_;refine Z7 ?_;refine oP (POp.call .k (rOwnP p Ya _)) ?_;refine Z3 ?_;rw[<-hq];refine cd (λh2=>?_) λh2=>?_
   ·have hq3:q<3:=by revert h2;simp <;> omega
    refine Z9 ?_;exact ag (⟨k+1,false,v,[],rfl,rfl,hkl,λh=>Y5,λ_=>⟨rfl,by rw[hg2,first_skip hq3]⟩⟩)
   ·have hq3:3<=q:=by revert h2;simp <;> omega
    have hql:(q - 3).toNat<p.classes.length:=by omega
    obtain⟨I,hI⟩:∃I,I=(p.classes.getD (q - 3).toNat default).inits:=⟨_,rfl⟩;have hIl:I.length<=20000:=hI▸hil0 _ (getD_memB hql);have hIc:initsC p q=I:=by rw[initsC_at hq3,hI]
    refine Z3 ?_;refine CW.dp mixed ?_;refine DP.anyC 0 7 81 rfl Ye rfl rfl Ye ?_;refine Z6 ?_;refine AD.popC rfl rfl rfl (POp.arith rfl rfl rfl rfl rfl rfl (wrap64 (by rw[<-hq];omega))) ?_;refine Z2 ?_;refine oP ((by first | exact POp.ixM rfl rfl rfl rfl rfl ⟨by rw[<-hq];omega,by rw[<-hq];omega⟩ | exact POp.ixI rfl rfl rfl rfl rfl ⟨by rw[<-hq];omega,by rw[<-hq];omega⟩)) ?_;refine Z6 ?_;rw[<-hq, <-hI];refine Z5 ?_;refine lj (λm st=>∃(j:Nat) (v:Value),st=⟨[(13,.i j),(12,AV.mvs I),(11,.i k),(10,.b ((I.take j).any λx=>x.1==s)),(9,.i i),(8,.as (AV.mvs (O++((I.take j).filter λx=>x.1==s))) v),(7,AV.ints (hasP p c)),(5,AV.ints (linP (graphP p) c)),(2,.ptr (progC p))],.own 79 2 v::H⟩/\m=I.length - j/\j<=I.length) (⟨0,v,rfl,rfl,Ya⟩) ?_;rintro m _ ⟨j,v,rfl,rfl,hj⟩;refine Z9 ?_;refine cd (λh3=>?_) λh3=>?_
    ·have hjl:j<I.length:=by omega
     have hyes:=filt_yes (s:=s) hjl;have hno:=filt_no (s:=s) hjl;refine Z5 ?_;refine CW.dp mixed ?_;refine DP.anyC 0 9 81 rfl Ye rfl rfl Ye ?_;refine Z14 ?_;rw[<-hs];refine CW.cond rfl (λh4=>?_) (λh4=>?_)
     ·obtain⟨hy1,hy2⟩:=hyes h4;refine Z11 ?_;refine OL.popC (x:=.sl 2 [initA (I.getD j default)]) rfl rfl rfl (POp.row rfl rfl Yg rfl rfl rfl rfl rfl rfl) ?_;refine OL.appendC rfl rfl rfl rfl rfl rfl rfl rfl (AVle.refl _) (rfl) (λv=>by repeat (first | exact Upd.head _ _ _ | apply Upd.tail)) YK YK (λv79=>?_);refine Z9 ?_;exact ag (⟨j+1,v79,by rw[hy1,hy2,mvs_app],rfl,hjl⟩)
     ·obtain⟨hn1,hn2⟩:=hno h4;refine Z8 ?_;exact ag (⟨j+1,v,by rw[hn1,hn2],rfl,hjl⟩)
    ·obtain rfl:j=I.length:=by omega
     rw[List.take_length];refine Z11 ?_;exact ag (⟨k+1,I.any (λx=>x.1==s),v,I.filter (λx=>x.1==s),rfl,rfl,hkl,λh=>by rw[hg2,first_some hIc h],λh=>⟨(first_none (r:=[]) hIc h).2,by rw[hg2,(first_none hIc h).1]⟩⟩)
  ·have hW:W=firstIn p s (linP (graphP p) c):=by
    cases fd with
    | true=>exact hf1 rfl
    | false=>
     obtain⟨e1,e2⟩:=hf2 rfl;have:k=(linP (graphP p) c).length:=by revert h1;simp;omega
     rw[e1,e2,this,List.drop_length];rfl
   subst hW;refine Z11 ?_;exact ag (⟨i+1,v,_,rfl,rfl,hil,hsn.symm,by have h9:=hfl (linP (graphP p) c);rw[List.length_append,Nat.succ_mul];omega⟩)
 ·obtain rfl:i=(hasP p c).length:=by omega
  rw[List.take_length] at hO;refine Z12 ?_;refine Done.retR (rs:=[.tmp 4]) (H':=H) rfl (.tmp rfl (.nil)) (.cons (AVle.asL _ _) .nil) Yd ?_;exact⟨by rw[hO];rfl,rfl⟩
instance:HasEq Tryz.prog 58 2:=⟨Yb⟩
theorem lastOf_take{B:List (Int×Int)}(h:j<B.length)(s:Int):lastOf (B.take (j+1)) s=if(B.getD j default).1=s then some (B.getD j default).2 else lastOf (B.take j) s:=by
 rw[<-take_getD h,lastOf_snoc]
theorem own_bif:(bif !(sizesP p).isSome then true else !(decide (c>=3) && decide (c<3+p.classes.length)))= !ownC p c:=by
 unfold ownC;cases (sizesP p).isSome <;> simp
theorem turn_bifR(p:Prog)(objs:List Th)(n c:Int):(bif bif bif !checkP p objs then true else decide (n<0) then true else decide (n>=(objs.length:Int)) then true else !(decide (c>=3) && decide (c<3+p.classes.length)))= !turnOk p objs n c:=by
 unfold turnOk ownC;cases hc:checkP p objs with
 | false=>simp
 | true=>
  obtain⟨hz,_⟩:=check_thing hc;rw[hz,show decide (0<=n)= !decide (n<0) by simp[<-Int.not_lt],show decide (n<(objs.length:Int))= !decide (n>=(objs.length:Int)) by simp[<-Int.not_lt]];generalize decide (n<0)=x1;generalize decide (n>=(objs.length:Int))=x2;generalize decide (c>=3)=x3;generalize decide (c<3+(p.classes.length:Int))=x4;revert x1 x2 x3 x4;decide
theorem noneM:PCall Tryz.prog 39 [] (AV.mv (2,0)):=by
 intro H;refine aC (n:=2) Tryz.func39 λB I w0=>?_;refine Z2 ?_;refine OL.alC rfl rfl rfl rfl (λb0=>?_);refine Z9 ?_;refine rR [.cell 0 58] (H) ?_;exact⟨Yac,rfl⟩
theorem intM(n:Int):PCall Tryz.prog 29 [.i n] (AV.mv (1,n)):=by
 intro H;refine aC (n:=5) Tryz.func29 λB I w0=>?_;refine Z2 ?_;refine OL.alC rfl rfl rfl rfl (λb0=>?_);refine Z10 ?_;refine rR [.cell 2 58] (H) ?_;exact⟨Yac,rfl⟩
theorem rNewOf(hp:p.Small){c:Int}(ho:ownC p c=true)(H:List Ent):ACall Tryz.prog 15 [AV.prog p,.i c] H (λy H'=>∃a cap,y= .agg [.i c,.val (.slice a (newP p c).slots.length cap)]/\H'= .row 58 2 (.slice a (newP p c).slots.length cap) (newP p c).slots.length ((newP p c).slots.map initA).flatten::H) (λ_ _=>False):=by
 refine aC (n:=55) Tryz.func15 λB I w0=>?_;have hc0:=clsOk_of ho;obtain⟨h3,hcl,h10,hsl,hpk,hfine,hne,hlen,hin,hini,hhas,hhl⟩:=clsOk_of ho;have hil0:=cls_inits ho;have hz:(sizesP p).isSome=true:=by unfold ownC at ho;rw[Bool.and_eq_true] at ho;exact ho.2
 have hgl:(graphP p).length=p.classes.length:=by simp[graphP]
 have hbl:(beginR p c).length<=400000000:=by
  have h9:∀l:List Int,(l.flatMap λs=>firstIn p s (linP (graphP p) c)).length<=l.length*20000:=λl=>by
   induction l with
   | nil=>simp
   | cons a r ih=>rw[List.flatMap_cons,List.length_append,List.length_cons,Nat.succ_mul];have:=first_len (s:=a) 20000 hil0 (linP (graphP p) c);omega
  have:=h9 (hasP p c);unfold beginR;omega
 refine Z3 ?_;refine OL.alC rfl rfl rfl rfl (λnb=>?_);refine Z6 ?_;refine oP (POp.call .k (rHasOf hp hz h3 hcl)) ?_;refine Z7 ?_;refine oP (POp.call .k (rBegin hp ho)) ?_;refine Z7 ?_;refine OL.alC rfl rfl rfl rfl (λtb=>?_);refine Z10 ?_;refine CW.rowNil 58 2 ?_;refine lj (λm st=>∃(i:Nat) (v:Value),st=⟨[(8,.i i),(6,AV.mvs (beginR p c)),(5,AV.ints (hasP p c)),(7,.p tb 0),(4,.p nb 0)],.row 58 2 v i ((((hasP p c).take i).map (slotP p c)).map initA).flatten::.blk tb 31 [.i c,.val v]::.blk nb 31 [.i 0,.val (.slice none 0 0)]::H⟩/\m=(hasP p c).length - i/\i<=(hasP p c).length) (⟨0,_,rfl,rfl,Ya⟩) ?_;rintro m _ ⟨i,v,rfl,rfl,hi⟩;refine Z9 ?_;refine cd (λh0=>?_) λh0=>?_
 ·have hil:i<(hasP p c).length:=by omega
  obtain⟨s,hs⟩:∃s,s=(hasP p c).getD i default:=⟨_,rfl⟩;have hsm:s∈(hasP p c):=hs▸getD_memB hil;refine Z6 ?_;refine oP (POp.call .k (noneM)) ?_;refine OL.alC rfl rfl rfl rfl (λvb=>?_);refine Z10 ?_;refine lj (λm st=>∃(k:Nat),st=⟨[(10,.i k),(9,.p vb 0),(8,.i i),(6,AV.mvs (beginR p c)),(5,AV.ints (hasP p c)),(7,.p tb 0),(4,.p nb 0)],.blk vb 58 (initA (slotV (lastOf ((beginR p c).take k) s)))::.row 58 2 v i ((((hasP p c).take i).map (slotP p c)).map initA).flatten::.blk tb 31 [.i c,.val v]::.blk nb 31 [.i 0,.val (.slice none 0 0)]::H⟩/\m=(beginR p c).length - k/\k<=(beginR p c).length) (⟨0,rfl,rfl,Ya⟩) ?_;rintro m _ ⟨k,rfl,rfl,hk⟩;refine Z9 ?_;refine cd (λh1=>?_) λh1=>?_
  ·have hkl:k<(beginR p c).length:=by omega
   have hlt:=lastOf_take hkl s;refine Z5 ?_;refine CW.dp mixed ?_;refine DP.anyC 0 9 55 rfl Ye rfl rfl Ye ?_;refine Z14 ?_;rw[<-hs];refine CW.cond rfl (λh2=>?_) (λh2=>?_)
   ·rw[if_pos YU] at hlt;refine Z6 ?_;refine oP (POp.call .k (intM _)) ?_;refine Z9 ?_;exact ag (⟨k+1,by rw[hlt],rfl,hkl⟩)
   ·rw[if_neg YU] at hlt;refine Z8 ?_;exact ag (⟨k+1,by rw[hlt],rfl,hkl⟩)
  ·obtain rfl:k=(beginR p c).length:=by omega
   rw[List.take_length,slotR hsm];refine Z9 ?_;refine OL.popC (x:=.sl 2 [initA (slotP p c s)]) rfl rfl rfl (POp.row rfl rfl Yg rfl rfl rfl rfl rfl rfl) ?_;refine OL.appendRowAny [initA (slotP p c s)] rfl rfl rfl rfl rfl rfl rfl rfl (AVle.refl _) rfl (λv=>.tail _ _ _ _ _ (.head _ _ _)) YN YN (λv52=>?_);refine OL.rowSl (.tail _ (.head _)) (λa52 c52 e52=>?_);subst e52;refine Z5 ?_;refine CW.subH (H':=.row 58 2 (.slice a52 (i+1) c52) (i+1) (((((hasP p c).take i).map (slotP p c)).map initA).flatten++[initA (slotP p c s)].flatten)::.blk tb 31 [.i c,.val (.slice a52 (i+1) c52)]::.blk nb 31 [.i 0,.val (.slice none 0 0)]::H) (.cons _ (.refl _)) ?_;refine CW.eqH (H':=.row 58 2 (.slice a52 (i+1) c52) (i+1) ((((hasP p c).take (i+1)).map (slotP p c)).map initA).flatten::.blk tb 31 [.i c,.val (.slice a52 (i+1) c52)]::.blk nb 31 [.i 0,.val (.slice none 0 0)]::H) (by rw[hs, <-take_getD hil,List.map_append,List.map_append,List.flatten_append];rfl) ?_;refine Z5 ?_;exact ag (⟨i+1,.slice a52 (i+1) c52,rfl,rfl,hil⟩)
 ·obtain rfl:i=(hasP p c).length:=by omega
  rw[List.take_length];refine CW.rowSl (.head _) (λa cap e=>?_);subst e;refine Z12 ?_;refine Done.retR (rs:=[.cell 4 31]) (H':=.row 58 2 (.slice a (newP p c).slots.length cap) (newP p c).slots.length ((newP p c).slots.map initA).flatten::H) rfl (YA) (AVleL.refl _) (by first | exact List.Sublist.refl _ | (rw[show (newP p c).slots.length=(hasP p c).length by simp[newP]];exact .cons_cons _ (.cons _ (.cons _ (.refl _))))) ?_;exact⟨a,cap,by rw[show (newP p c).slots.length=(hasP p c).length by simp[newP]];rfl,rfl⟩
theorem rPlace(hp:p.Small){c:Int}(ho:ownC p c=true)(s:Int):PCall Tryz.prog 48 [AV.prog p,.i c,.i s] (.i (idxP (hasP p c) s)):=by
 intro H;refine aC (n:=25) Tryz.func48 λB I w0=>?_;have hc0:=clsOk_of ho;obtain⟨h3,hcl,h10,hsl,hpk,hfine,hne,hlen,hin,hini,hhas,hhl⟩:=clsOk_of ho;have hil0:=cls_inits ho;have hz:(sizesP p).isSome=true:=by unfold ownC at ho;rw[Bool.and_eq_true] at ho;exact ho.2
 have hgl:(graphP p).length=p.classes.length:=by simp[graphP]
 refine Z10 ?_;refine oP (POp.call .k (rHasOf hp hz h3 hcl)) ?_;refine Z10 ?_;refine lj (λm st=>∃k:Nat,st=⟨[(8,.i k),(7,AV.ints (hasP p c)),(2,.i s)],H⟩/\m=(hasP p c).length - k/\k<=(hasP p c).length/\∀x∈(hasP p c).take k,x≠s) (⟨0,rfl,rfl,Ya,Yn⟩) ?_;rintro m _ ⟨k,rfl,rfl,hk,hpp⟩;refine Z9 ?_;refine cd (λh0=>?_) λh0=>?_
 ·have hkl:k<(hasP p c).length:=by omega
  refine Z14 ?_;refine CW.cond rfl (λh1=>?_) (λh1=>?_)
  ·have h1:(hasP p c).getD k default=s:=by simpa using h1
   refine Z12 ?_;refine r1 6 (H) ?_;exact⟨retI (idxP_at hkl hpp h1.symm),rfl⟩
  ·have h1: ¬(hasP p c).getD k default=s:=by simpa using h1
   refine Z8 ?_;exact ag (⟨k+1,rfl,rfl,hkl,λx hx=>by rw[<-take_getD hkl,List.mem_append,List.mem_singleton] at hx;rcases hx with hx | rfl;exact hpp x hx;exact h1⟩)
 ·refine Z11 ?_;refine r1 6 (H) ?_;exact⟨retI (by have e:k=(hasP p c).length:=Ya;rw[e,List.take_length] at hpp;unfold idxP;rw[List.findIdx?_eq_none_iff.2 (λx hx=>by simpa using hpp x hx)]),rfl⟩
theorem rTurnOf(hp:p.Small){c:Int}(ho:ownC p c=true){x:Th}(hx:ownC p x.cls=true)(hxl:(hasP p x.cls).length=x.slots.length):PCall Tryz.prog 21 [AV.prog p,.agg (thA x),.i c] (.agg (thA (turnP p x c))):=by
 intro H;refine aC (n:=43) Tryz.func21 λB I w0=>?_;have hc0:=clsOk_of ho;obtain⟨h3,hcl,h10,hsl,hpk,hfine,hne,hlen,hin,hini,hhas,hhl⟩:=clsOk_of ho;have hil0:=cls_inits ho;have hz:(sizesP p).isSome=true:=by unfold ownC at ho;rw[Bool.and_eq_true] at ho;exact ho.2
 have hgl:(graphP p).length=p.classes.length:=by simp[graphP]
 have hnl:(newP p c).slots.length=(hasP p c).length:=by simp[newP]
 refine Z4 ?_;refine OL.alC rfl rfl rfl rfl (λob=>?_);refine Z6 ?_;refine bC .k ((rNewOf hp ho _).b) ?_;rintro _ _ ⟨a,cap,rfl,rfl⟩;rw[hnl];refine OL.alC rfl rfl rfl rfl (λtb=>?_);refine Z4 ?_;obtain⟨v,hv⟩:∃v:Value,v= .slice a (hasP p c).length cap:=⟨_,rfl⟩;rw[<-hv];refine CW.perm (H':=.row 58 2 v (hasP p c).length ((turnU p x c 0).map initA).flatten::.blk tb 31 [.i c,.val v]::.blk ob 31 [.i 0,.val (.slice none 0 0)]::H) (by rw[turnU_zero];exact .swap _ _ _) ?_;refine Z3 ?_;refine oP (POp.call .k (rHasOf hp hz h3 hcl)) ?_;refine Z10 ?_;refine lj (λm st=>∃k:Nat,st=⟨[(9,.i k),(8,AV.ints (hasP p c)),(7,.p tb 0),(6,.p ob 0),(4,.ptr (thA x)),(3,.ptr (progC p))],.row 58 2 v (hasP p c).length ((turnU p x c k).map initA).flatten::.blk tb 31 [.i c,.val v]::.blk ob 31 [.i 0,.val (.slice none 0 0)]::H⟩/\m=(hasP p c).length - k/\k<=(hasP p c).length) (⟨0,rfl,rfl,Ya⟩) ?_;rintro m _ ⟨k,rfl,rfl,hk⟩;refine Z9 ?_;refine cd (λh0=>?_) λh0=>?_
 ·have hkl:k<(hasP p c).length:=by omega
  obtain⟨s,hs⟩:∃s,s=(hasP p c).getD k default:=⟨_,rfl⟩;have hset:=turnU_set (x:=x) hkl;have hsame:=turnU_same (x:=x) hkl;rw[<-hs] at hset hsame;have hul:=turnU_len p x c k;have hul2:=turnU_len p x c (k+1);refine Z5 ?_;refine CW.dp mixed ?_;refine DP.anyC 0 7 43 rfl Ye rfl rfl Ye ?_;refine Z9 ?_;refine oP (POp.call .k (rPlace hp hx _)) ?_;refine Z4 ?_;rw[<-hs];refine Z5 ?_;refine CW.cond rfl (λh1=>?_) (λh1=>?_)
  ·have h1:0<=idxP (hasP p x.cls) s:=by simpa using h1
   have hil:=idxP_lt h1;have htS:turnS p x c s=x.slots.getD (idxP (hasP p x.cls) s).toNat default:=if_pos h1;rw[htS] at hset;refine CW.rowBlk Ya (λb cap more=>.head _ _ _) (λb cap more e1 e2 e3 e4 e5=>?_);subst e1;refine CW.dp mixed ?_;refine DP.anyC 0 8 43 rfl Ye rfl rfl Ye ?_;refine Z6 ?_;refine AD.popC rfl rfl rfl (Yu) ?_;refine Z3 ?_;refine oP (POp.ixC rfl rfl rfl rfl rfl Ya) ?_;apply OL.stoC rfl rfl rfl rfl rfl rfl rfl rfl rfl rfl
   (case hu=>repeat (first | exact Upd.head _ _ _ | apply Upd.tail));(case hfit=>exact flatK_fit in_two Ya more);(case hds=>exact (flatK_set in_two Ya _ more).trans (by rw[hset]))
   refine Z3 ?_;have hk2:=flatK_len in_two (turnU p x c k);have hk3:=flatK_len in_two (turnU p x c (k+1));refine CW.blkRow (k:=2) (n:=(hasP p c).length) e2 e3 (by rw[List.length_append] at e4 ⊢;omega) Ya (.head _ _ _) ?_;refine Z5 ?_;exact ag (⟨k+1,rfl,rfl,hkl⟩)
  ·have h1: ¬0<=idxP (hasP p x.cls) s:=by simpa using h1
   replace hsame:=hsame (if_neg h1);refine Z8 ?_;exact ag (⟨k+1,by rw[<-hsame],rfl,hkl⟩)
 ·obtain rfl:k=(hasP p c).length:=by omega
  have hul:=turnU_len p x c (hasP p c).length;refine Z6 ?_;refine CW.eqH (H':=.row 58 2 v ((turnU p x c (hasP p c).length).map initA).length ((turnU p x c (hasP p c).length).map initA).flatten::.blk tb 31 ([.i c]++.val v::[])::.blk ob 31 [.i 0,.val (.slice none 0 0)]::H) (by rw[List.length_map,hul];rfl) ?_;refine CW.freezeRowCellC (k:=2) (λe he=>by obtain⟨y,_,rfl⟩:=List.mem_map.1 he;rfl) ?_;rw[turnU_all];refine Z6 ?_;refine rR [.cell 6 31] (H) ?_;exact⟨by rw[turnP_eq];rfl,rfl⟩
theorem rValsM(l:List (Int×Int))(hl:l.length<=100000):PCall Tryz.prog 47 [AV.mvs l] (AV.mvs l):=by
 intro H;refine aC (n:=5) Tryz.func47 λB I w0=>?_;refine Z8 ?_;refine oP (POp.appendI rfl rfl rfl AVle.nil0 rfl rfl (AVle.refl _) (one_mvsM _) YH YH) ?_;refine Z4 ?_;refine r1 2 (H) ?_;exact⟨Yac,rfl⟩
theorem rThingsB(l:List Th)(hl:l.length<=100000)(hs:∀t∈l,t.slots.length<=100000)(H:List Ent):ACall Tryz.prog 20 [AV.ths l] H (λy H'=>∃v,y= .val v/\H'= .row 31 2 v l.length (l.map thA).flatten::H) (λ_ _=>False):=by
 refine aC (n:=27) Tryz.func20 λB I w0=>?_;refine Z17 ?_;refine CW.rowNil 31 2 ?_;refine lj (λm st=>∃(i:Nat) (v:Value),st=⟨[(4,.i i),(3,.val v),(0,AV.ths l)],.row 31 2 v i ((l.take i).map thA).flatten::H⟩/\m=l.length - i/\i<=l.length) (⟨0,_,rfl,rfl,Ya⟩) ?_;rintro m _ ⟨i,v,rfl,rfl,hi⟩;refine Z9 ?_;refine cd (λh0=>?_) λh0=>?_
 ·have hil:i<l.length:=by omega
  refine Z4 ?_;refine CW.dp mixed ?_;refine DP.anyC 0 14 27 rfl Ye rfl rfl Ye ?_;refine Z11 ?_;refine AD.popC rfl rfl rfl (POp.call .k (rValsM _ (hs _ (getD_memB hil)))) ?_;refine Z1 ?_;refine AD.popC (x:=.sl 2 [thA (l.getD i default)]) rfl rfl rfl (POp.row rfl rfl Yg rfl rfl rfl rfl rfl rfl) ?_;refine Z2 ?_;refine OL.appendRowAny [thA (l.getD i default)] rfl rfl rfl rfl rfl rfl rfl rfl (AVle.refl _) rfl (λv=>.head _ _ _) YN YN (λv25=>?_);refine Z4 ?_;refine CW.eqH (H':=.row 31 2 v25 (i+1) ((l.take (i+1)).map thA).flatten::H) (by rw[<-flat_snocM thA hil];rfl) ?_;refine Z5 ?_;exact ag (⟨i+1,v25,rfl,rfl,hil⟩)
 ·obtain rfl:i=l.length:=by omega
  rw[List.take_length];refine Z12 ?_;refine Done.retR (rs:=[.tmp 2]) (H':=_) rfl (.tmp rfl (.nil)) (AVleL.refl _) (by exact List.Sublist.refl _) ?_;exact⟨v,rfl,rfl⟩
theorem rNew(hp:p.Small)(c:Int):PCall Tryz.prog 5 [AV.prog p,.i c] (.tup [.agg (thA (if ownC p c then newP p c else default)),.i (if ownC p c then 0 else 2)]):=by
 intro H;refine aC (n:=19) Tryz.func5 λB I w0=>?_;have hpc:=hp.classes;refine Z3 ?_;refine OL.alC rfl rfl rfl rfl (λnb=>?_);refine Z7 ?_;refine oP (POp.call .k (rProg hp)) ?_;refine Z4 ?_;refine OL.guardC rfl rfl rfl rfl rfl rfl (λhg=>POp.call (.mk' rfl rfl rfl rfl Yc) (rOwnP p Ya c)) ?_;refine Z4 ?_;refine CW.cond rfl (λh0=>?_) (λh0=>?_)
 ·rw[own_bif,Bool.not_eq_true'] at h0;rw[h0];refine Z9 ?_;refine Done.retR (rs:=[.cell 4 31,.tmp 5]) (H':=H) rfl (Yq) (.cons (AVle.agg (.cons (.refl _) (.cons (AVle.nil 2) .nil))) (.cons (.refl _) .nil)) Yd ?_;exact⟨Yac,rfl⟩
 ·rw[own_bif,Bool.not_eq_false'] at h0;rw[h0];refine Z6 ?_;refine bC .k ((rNewOf hp h0 _).b) ?_;rintro _ _ ⟨a,cap,rfl,rfl⟩;refine Z5 ?_;refine Done.eqH (H':=.row 58 2 (.slice a (newP p c).slots.length cap) ((newP p c).slots.map initA).length ((newP p c).slots.map initA).flatten::.blk nb 31 ([.i c]++.val (.slice a (newP p c).slots.length cap)::[])::H) (by rw[List.length_map];rfl) ?_;refine Done.freezeRowCellC (k:=2) (λe he=>by obtain⟨y,_,rfl⟩:=List.mem_map.1 he;rfl) ?_;refine Done.retR (rs:=[.cell 4 31,.tmp 5]) (H':=H) rfl (Yq) (AVleL.refl _) Yd ?_;exact⟨Yac,rfl⟩
theorem rTurn(hp:p.Small)(objs:List Th)(n c:Int):PCall Tryz.prog 7 [AV.prog p,AV.ths objs,.i n,.i c] (.tup [AV.ths (if turnOk p objs n c then turnsP p objs n c else []),.i (if turnOk p objs n c then 0 else 2)]):=by
 intro H;refine aC (n:=44) Tryz.func7 λB I w0=>?_;have hpc:=hp.classes;refine CW.boundM (t:=1) rfl (λhb1=>?_);refine Z12 ?_;refine oP (POp.call .k (rGood hp objs)) ?_;refine Z14 ?_;refine OL.guardC rfl rfl rfl rfl rfl rfl (λhg=>POp.call (.mk' rfl rfl rfl rfl Yc) (rOwnP p Ya c)) ?_;refine Z4 ?_;refine CW.cond rfl (λh0=>?_) (λh0=>?_)
 ·rw[turn_bifR,Bool.not_eq_true'] at h0;rw[h0];refine Z8 ?_;refine Done.retR (rs:=[.tmp 8,.tmp 9]) (H':=H) rfl (.tmp rfl (.tmp rfl (.nil))) (.cons (AVle.nil 2) (.cons (.refl _) .nil)) Yd ?_;exact⟨Yac,rfl⟩
 ·rw[turn_bifR,Bool.not_eq_false'] at h0;rw[h0];have ho:=h0;simp only[turnOk,Bool.and_eq_true,decide_eq_true_eq] at ho;obtain⟨⟨⟨ho,hch⟩,hn0⟩,hnl⟩:=ho;obtain⟨hz,h40,hth⟩:=check_thing hch;obtain⟨k,rfl⟩:∃k:Nat,n=k:=⟨n.toNat,Ya⟩;have hkl:k<objs.length:=by omega
  have hsl:∀t∈objs,t.slots.length<=100000:=λt ht=>by obtain⟨q1,q2⟩:=thing_slots (hth t ht);have:=(clsOk_of q1).hl;omega
  obtain⟨hxo,hxl⟩:=thing_slots (hth _ (getD_memB hkl));refine Z5 ?_;refine bC .k ((rThingsB objs Ya hsl _).b) ?_;rintro _ _ ⟨v,rfl,rfl⟩;refine Z4 ?_;refine CW.rowBlk Ya (λb cap more=>.head _ _ _) (λb cap more e1 e2 e3 e4 e5=>?_);subst e1;refine CW.dp mixed ?_;refine DP.anyC 0 9 44 rfl Ye rfl rfl Ye ?_;refine Z5 ?_;refine AD.popC rfl rfl rfl (POp.ixC rfl rfl rfl rfl rfl Ya) ?_;refine AD.popC rfl rfl rfl (YW) ?_;refine Z1 ?_;refine AD.popC rfl rfl rfl (POp.call .k (rTurnOf hp ho hxo hxl)) ?_;refine Z2 ?_;refine oP (POp.ixC rfl rfl rfl rfl rfl Ya) ?_;apply OL.stoC rfl rfl rfl rfl rfl rfl rfl rfl rfl rfl
  (case hu=>repeat (first | exact Upd.head _ _ _ | apply Upd.tail));(case hfit=>exact flatK_fit th_two hkl more);(case hds=>exact flatK_set th_two hkl _ more)
  refine Z3 ?_;refine CW.eqH (H':=.blk b 31 (((turnsP p objs (k:Int) c).map thA).flatten++more)::H) rfl ?_;refine CW.freezeS (k:=2) (d:=10) rfl (.head _ _) (by rw[List.length_map,turnsP,List.length_set]) (λe he=>by obtain⟨y,_,rfl⟩:=List.mem_map.1 he;rfl) e2 e3 ?_;refine Z7 ?_;refine rR [.tmp 8,.tmp 9] (H) ?_;exact⟨Yac,rfl⟩
theorem sameVM(a:List (Int×Int)):PCall Tryz.prog 22 [AV.mvs a,AV.mvs a] (.b true):=by
 intro H;refine aC (n:=26) Tryz.func22 λB I w0=>?_;refine CW.boundM (t:=0) rfl (λhb0=>?_);refine Z15 ?_;refine CW.cond rfl (λh0=>?_) (λh0=>?_)
 ·exact absurd h0 Yn
 ·refine Z9 ?_;refine lj (λm st=>∃i:Nat,st=⟨[(5,.i i),(0,AV.mvs a),(1,AV.mvs a)],H⟩/\m=a.length - i/\i<=a.length) (⟨0,rfl,rfl,Ya⟩) ?_;rintro m _ ⟨i,rfl,rfl,hi⟩;refine Z9 ?_;refine cd (λh1=>?_) λh1=>?_
  ·have hil:i<a.length:=by omega
   refine Z5 ?_;refine CW.dp mixed ?_;refine DP.anyC 0 8 26 rfl Ye rfl rfl Ye ?_;refine Z10 ?_;refine oP (POp.neI [(a.getD i default).1,(a.getD i default).2] [(a.getD i default).1,(a.getD i default).2] rfl rfl rfl rfl rfl rfl rfl) ?_;refine Z2 ?_;refine CW.cond rfl (λh2=>?_) (λh2=>?_)
   ·exact absurd h2 Yn
   ·refine Z8 ?_;exact ag (⟨i+1,rfl,rfl,hil⟩)
  ·refine Z11 ?_;refine r1 4 (H) ?_;exact⟨Yac,rfl⟩
theorem sameTM(a:List Th):PCall Tryz.prog 8 [AV.ths a,AV.ths a] (.b true):=by
 intro H;refine aC (n:=42) Tryz.func8 λB I w0=>?_;refine CW.boundM (t:=0) rfl (λhb0=>?_);refine Z15 ?_;refine CW.cond rfl (λh0=>?_) (λh0=>?_)
 ·exact absurd h0 Yn
 ·refine Z9 ?_;refine lj (λm st=>∃i:Nat,st=⟨[(5,.i i),(0,AV.ths a),(1,AV.ths a)],H⟩/\m=a.length - i/\i<=a.length) (⟨0,rfl,rfl,Ya⟩) ?_;rintro m _ ⟨i,rfl,rfl,hi⟩;refine Z9 ?_;refine cd (λh1=>?_) λh1=>?_
  ·have hil:i<a.length:=by omega
   refine Z5 ?_;refine CW.dp mixed ?_;refine DP.anyC 0 10 42 rfl Ye rfl rfl Ye ?_;refine Z19 ?_;refine DP.anyC 12 22 42 rfl Ye rfl rfl Ye ?_;refine Z12 ?_;refine OL.guardC rfl rfl rfl rfl rfl rfl (λhg=>POp.call (.mk' rfl rfl rfl rfl Yc) (sameVM (a.getD i default).slots)) ?_;refine Z4 ?_;refine CW.cond rfl (λh2=>?_) (λh2=>?_)
   ·exact absurd h2 Yn
   ·refine Z8 ?_;exact ag (⟨i+1,rfl,rfl,hil⟩)
  ·refine Z11 ?_;refine r1 4 (H) ?_;exact⟨Yac,rfl⟩
theorem objectsC(hk:PCall Tryz.prog 9 [] (.b true)){p:Prog}(hp:p.Small)(objs:List Th)(n c:Int):PCall Tryz.prog 3 [AV.prog p,AV.ths objs,.i n,.i c] (.b true):=by
 intro H;refine aC (n:=68) Tryz.func3 λB I w0=>?_;obtain⟨X,hX⟩:∃X:Th,X=(if ownC p c then newP p c else default):=⟨_,rfl⟩;have hnew:=newC hp c;have hnewR:=rNew hp c;rw[<-hX] at hnew hnewR;refine Z10 ?_;refine oP (POp.call .k (hnew)) ?_;refine Z3 ?_;refine OL.alC rfl rfl rfl rfl (λxb=>?_);refine Z5 ?_;refine CW.freezeP (d:=9) rfl Yi ?_;refine Z3 ?_;refine oP (POp.call .k (hnewR)) ?_;refine Z3 ?_;refine OL.alC rfl rfl rfl rfl (λyb=>?_);refine Z5 ?_;refine CW.freezeP (d:=11) rfl Yi ?_;refine Z5 ?_;refine oP (POp.call .k (turnC hp objs n c)) ?_;refine Z13 ?_;refine oP (POp.call .k (rTurn hp objs n c)) ?_;refine Z10 ?_;refine OL.popC (x:=AV.ths [X]) rfl rfl rfl (POp.row rfl rfl Yg rfl rfl rfl rfl rfl rfl) ?_;refine Z1 ?_;refine OL.popC (x:=AV.ths [X]) rfl rfl rfl (POp.row rfl rfl Yg rfl rfl rfl rfl rfl rfl) ?_;refine oP (POp.call .k (sameTM [X])) ?_;refine Z8 ?_;refine OL.guardC rfl rfl rfl rfl rfl rfl (λhg=>POp.call (.mk' rfl rfl rfl rfl Yc) (sameTM _)) ?_;refine Z7 ?_;refine OL.guardC rfl rfl rfl rfl rfl rfl (λhg=>POp.call .k (hk)) ?_;refine Z5 ?_;refine r1 8 (H) ?_;exact⟨retB Yn,rfl⟩
end Go.Proofs.YtiaadpngpempbaaGreat
