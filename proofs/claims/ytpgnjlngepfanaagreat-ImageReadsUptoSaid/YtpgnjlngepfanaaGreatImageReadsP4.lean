/- Part 4 of the proof: contracts of functions of the program and what they need. No condition beyond those that each theorem names. -/
import Derived.Test.YtpgnjlngepfanaaGreatImageReadsP3
import Derived.Laws.StructEq
import Derived.ChangeKeysEq
import Derived.Deep.AppendSrc
import Derived.Laws.BytesString
import Derived.RecoverIn
set_option maxHeartbeats 1000000
set_option linter.unusedVariables false
set_option linter.unusedSimpArgs false
namespace Go.Eng
open Go.RowKit (Below)
structure VS where
 e:Nat
 d:Nat
 t:TypeId
 zs:List Value
 s:Nat
 ys:List AV
def VS.ent(S:Nat->Bool)(bs:Nat->Nat)(v:VS):Option Ent:=if S v.e then some (.blk (bs v.d) v.t (if S v.s then v.ys else v.zs.map .val)) else none
def VS.ents(S:Nat->Bool)(bs:Nat->Nat)(vs:List VS):List Ent:=vs.filterMap (VS.ent S bs)
def VM(H:List Ent)(vs:List VS)(S:Nat->Bool):Mem:=λB a I w=>
 ∃bs:Nat->Nat,(∀v∈vs,S v.e=true->a.tmps.getD v.d undef= .pointer (some ⟨bs v.d,0,none⟩))/\HeapOk B I w (VS.ents S bs vs++H)
def vsChk(l:List Oper)(vs:List VS)(k m:Nat):Bool:=(vs.all λv=>Nat.ble k v.e && Nat.blt v.e m && Nat.ble k v.s && Nat.blt v.s m && ((masks l []).getD v.s 0).testBit v.e && vs.all λu=>!Nat.beq u.e v.s) && decide (vs.map (·.e)).Nodup && decide (vs.map (·.s)).Nodup && decide (vs.map (·.d)).Nodup
theorem nodup_at{α:Type}(f:α->Nat){l pre post:List α}{v u:α}(h:(l.map f).Nodup)(hl:l=pre++v::post)(hu:u∈pre\/u∈post):f u≠f v:=by
 subst hl;rw[List.map_append,List.map_cons] at h;have h2:=List.nodup_append.1 h;rcases hu with hu | hu
 ·exact λe=>h2.2.2 (f u) (List.mem_map_of_mem hu) (f v) Yx e
 ·exact λe=>(List.nodup_cons.1 h2.2.1).1 (by rw[<-e];exact List.mem_map_of_mem hu)
theorem ents_congr{S S':Nat->Bool}{bs bs':Nat->Nat}:∀{vs:List VS},(∀v∈vs,VS.ent S bs v=VS.ent S' bs' v)->VS.ents S bs vs=VS.ents S' bs' vs
 | [],_=>rfl
 | v::r,h=>by
  have h1:=h v (.head _);have h2:=ents_congr (vs:=r) λu hu=>h u (.tail _ hu);unfold VS.ents at*;rw[List.filterMap_cons,List.filterMap_cons,h1,h2]
theorem ents_app{S:Nat->Bool}{bs:Nat->Nat}{a b:List VS}:VS.ents S bs (a++b)=VS.ents S bs a++VS.ents S bs b:=List.filterMap_append
theorem ents_some{S:Nat->Bool}{bs:Nat->Nat}{v:VS}{r:List VS}{e:Ent}(h:VS.ent S bs v=some e):VS.ents S bs (v::r)=e::VS.ents S bs r:=List.filterMap_cons_some h
theorem ents_none{S:Nat->Bool}{bs:Nat->Nat}{v:VS}{r:List VS}(h:VS.ent S bs v=none):VS.ents S bs (v::r)=VS.ents S bs r:=List.filterMap_cons_none h
theorem Upd.under{e e':Ent}{H:List Ent}:∀(X:List Ent),Upd (X++e::H) e e' (X++e'::H)
 | []=>.head _ _ _
 | f::X=>.tail _ _ _ _ _ (Upd.under X)
section
variable{c:Ctx}{r:Option Nat}{P:Program}{l:List Oper}{Q:Exit->Act->World->Prop}
theorem ents_zero{bs:Nat->Nat}{k:Nat}:∀{vs:List VS},(∀v∈vs,Nat.blt v.e k=false)->VS.ents (λi=>Nat.blt i k) bs vs= []
 | [],_=>rfl
 | v::r,h=>by rw[ents_none (by rw[VS.ent,if_neg (by rw[h v (.head _)];simp)]),ents_zero λu hu=>h u (.tail _ hu)]
theorem ents_all{bs:Nat->Nat}{m:Nat}:∀{vs:List VS},(∀v∈vs,Nat.blt v.e m=true/\Nat.blt v.s m=true)->VS.ents (λi=>Nat.blt i m) bs vs=vs.map λv=>Ent.blk (bs v.d) v.t v.ys
 | [],_=>rfl
 | v::r,h=>by
  have:=h v (.head _);rw[ents_some (e:=.blk (bs v.d) v.t v.ys) (by rw[VS.ent,if_pos this.1,if_pos this.2]),ents_all λu hu=>h u (.tail _ hu)];rfl
theorem EnvOk.vars{I:Imm}{w:World}{a:Act}{env:List (Nat×AV)}{bs:Nat->Nat}(h:EnvOk I w (envGet env) a):∀(vs:List VS),(∀v∈vs,a.tmps.getD v.d undef= .pointer (some ⟨bs v.d,0,none⟩))->EnvOk I w (envGet (vs.map (λv=>(v.d,AV.p (bs v.d) 0))++env)) a
 | [],_=>h
 | v::r,hv=>λt x hx=>by
  rw[List.map_cons,List.cons_append,envGet_cons] at hx;split at hx
  ·rename_i e;cases hx;subst e;rw[hv v (.head _)];exact .val _
  ·exact EnvOk.vars h r (λu hu=>hv u (.tail _ hu)) t x hx
theorem DP.anyV{env:List (Nat×AV)}{H:List Ent}(vs:List VS)(k m n:Nat)(hn:c.n=n)(hchk:segChk l k m=true)(hvs:vsChk l vs k m=true)(hkm:Nat.ble k m=true)(hml:Nat.ble m l.length=true)(hlk:(l.all λo=>(looks l o).all λt=>Nat.blt t n)=true)
  (h:UD P (VM H vs) l c.n k ((l.drop k).take (m - k)) env λenv=>∀bs:Nat->Nat,DP c r P l Q m ⟨vs.map (λv=>(v.d,AV.p (bs v.d) 0))++env,vs.map (λv=>Ent.blk (bs v.d) v.t v.ys)++H⟩):DP c r P l Q k ⟨env,H⟩:=by
 simp only[vsChk,Bool.and_eq_true,List.all_eq_true,decide_eq_true_eq,Bool.not_eq_true'] at hvs;obtain⟨⟨⟨hv1,hv2⟩,hv3⟩,hv4⟩:=hvs;refine DP.anyU (M:=VM H vs) hchk (Nat.le_of_ble_eq_true hkm) (Nat.le_of_ble_eq_true hml) Ybh (λB a I w hh=>⟨λ_=>0,λv hv hs=>?_,?_⟩) (h.mono λenv hd a w I q1 q2 q3 q4 q5 q6=>?_)
 ·have h1:=Nat.le_of_ble_eq_true (hv1 v hv).1.1.1.1.1;have:Nat.blt v.e k=false:=by rw[Bool.eq_false_iff];intro hb;have:=Nat.lt_of_succ_le Ya9;omega
  have hs:Nat.blt v.e k=true:=hs;rw[this] at hs;cases hs
 ·rw[ents_zero λv hv=>by
   have h1:=Nat.le_of_ble_eq_true (hv1 v hv).1.1.1.1.1;rw[Bool.eq_false_iff];intro hb;have:=Nat.lt_of_succ_le Ya9;omega]
  exact hh
 ·obtain⟨bs,hb,hh⟩:=q5;have hh':HeapOk c.B I w (vs.map (λv=>Ent.blk (bs v.d) v.t v.ys)++H):=by rwa [ents_all λv hv=>⟨(hv1 v hv).1.1.1.1.2,(hv1 v hv).1.1.2⟩] at hh
  exact hd bs a w ⟨q1,q2,I,q3,q4,hh',q6.vars vs λv hv=>hb v hv (hv1 v hv).1.1.1.1.2⟩
end
section
variable{P:Program}{L rest:List Oper}{vs:List VS}{n i d:Nat}{o:Oper}{env:List (Nat×AV)}{K:List (Nat×AV)->Prop}{x:AV}{H:List Ent}
theorem UD.nil{X:PX}{M:(Nat->Bool)->Mem}(h:K env):UDX X P M L n i [] env K:=h
theorem UD.popV(hi:(vs.all λv=>!Nat.beq v.e i && !Nat.beq v.s i && !Nat.beq v.d d)=true)(hg:o.guard=none)(hd:o.dst=some d)(hn:Nat.blt d n=true)(h:POp P H (envGet env) o x)(next:UD P (VM H vs) L n (i+1) rest ((d,x)::env) K):UD P (VM H vs) L n i (o::rest) env K:=
 ⟨x,λS _ _ hSi=>EOkX.of hg (λB I w r a hw hm ho hz=>by
  obtain⟨bs,hb,hh⟩:=hm;simp only[List.all_eq_true,Bool.and_eq_true,Bool.not_eq_true'] at hi;have ne:∀{a b:Nat},Nat.beq a b=false->a≠b:=λh e=>by subst e;simp at h
  have he:∀v∈vs,VS.ent (addS S i) bs v=VS.ent S bs v:=λv hv=>by
   rw[VS.ent,VS.ent,addS_other (ne (hi v hv).1.1),addS_other (ne (hi v hv).1.2)]
  refine (h B I w r a _ hw hh (λe he=>List.mem_append_right _ he) ho).mono (λv w' ⟨I',a1,a2,a3,a4⟩=>⟨I',a1,a2,⟨bs,λu hu hs=>?_,?_⟩,a4⟩) (λ_ _ h=>h)
  ·rw[addS_other (ne (hi u hu).1.1)] at hs;rw[hd,tmps_put_other (ne (hi u hu).2)];exact hb u hu hs
  ·rw[ents_congr he];exact a3),dstOk_of hd hn,YU⟩
theorem UD.effV(pre post:List VS)(v:VS)(hvs:vs=pre++v::post)(hc:∃k m,vsChk L vs k m=true){zs:List Value}[hz:HasZero P v.t zs](hzs:v.zs=zs)(hi:v.e=i)(hg:o.guard=none)(hd:o.dst=some v.d)(hn:Nat.blt v.d n=true)(h:o.op= .alloc v.t)(hL:Nat.blt v.s L.length=true)
  (next:UD P (VM H vs) L n (i+1) rest ((v.d,.any)::env) K):UD P (VM H vs) L n i (o::rest) env K:=by
 obtain⟨k,m,hc⟩:=hc;simp only[vsChk,Bool.and_eq_true,List.all_eq_true,decide_eq_true_eq,Bool.not_eq_true'] at hc;obtain⟨⟨⟨hv1,hv2⟩,hv3⟩,hv4⟩:=hc;have hvm:v∈vs:=by rw[hvs];simp
 have ne:∀{a b:Nat},Nat.beq a b=false->a≠b:=λh e=>by subst e;simp at h
 refine⟨.any,λS hshut _ hSi=>EOkX.of hg (λB I w r a hw hm ho hzz=>?_),dstOk_of hd hn,YU⟩;obtain⟨bs,hb,hh⟩:=hm;have hz':=hz.h;unfold zeroCells at hz';cases hin:P.info? v.t with
 | none=>simp[hin] at hz'
 | some inf=>
  cases hz2:inf.zero with
  | none=>simp[hin,hz2] at hz'
  | some z=>
   simp[hin,hz2] at hz';have h1:RelL I w (zs.map .val) z.cells.toList:=by rw[hz'];exact relL_val zs
   have hsv:v.s≠i:=λe=>ne ((hv1 v hvm).2 v hvm) (by rw[hi,e]);have hSs:S v.s=false:=by
    rw[Bool.eq_false_iff];intro hs;have hlt:v.s<L.length:=Nat.lt_of_succ_le (by simpa [Nat.blt] using hL);have:=hshut v.s L[v.s] (List.getElem?_eq_getElem hlt) hs v.e (hv1 v hvm).1.2;rw[hi,hSi] at this;cases this
   let bs':Nat->Nat:=λd=>if d=v.d then w.heap.size else bs d
   have hother:∀u,u∈pre\/u∈post->VS.ent (addS S i) bs' u=VS.ent S bs u:=λu hu=>by
    have hum:u∈vs:=by rw[hvs];rcases hu with hu | hu <;> simp[hu]
    have e1:u.e≠i:=by rw[<-hi];exact nodup_at (·.e) hv2 hvs hu
    have e2:u.d≠v.d:=nodup_at (·.d) hv4 hvs hu;have e3:u.s≠i:=λe=>ne ((hv1 u hum).2 v hvm) (by rw[hi,e]);rw[VS.ent,VS.ent,addS_other e1,addS_other e3,show bs' u.d=bs u.d from if_neg e2]
   have hnew:VS.ent (addS S i) bs' v=some (.blk w.heap.size v.t (zs.map .val)):=by
    rw[VS.ent,hi,addS_same,if_pos rfl,addS_other hsv,hSs,show bs' v.d=w.heap.size from if_pos rfl,hzs];rfl
   have hold:VS.ent S bs v=none:=by rw[VS.ent,hi,hSi];rfl
   have e1:VS.ents S bs vs=VS.ents S bs pre++VS.ents S bs post:=by rw[hvs,ents_app,ents_none hold]
   have e2:VS.ents (addS S i) bs' vs=VS.ents S bs pre++.blk w.heap.size v.t (zs.map .val)::VS.ents S bs post:=by
    rw[hvs,ents_app,ents_some hnew,ents_congr λu hu=>hother u (.inl hu),ents_congr λu hu=>hother u (.inr hu)]
   rw[e1] at hh;refine Runs.of_value (v:=.pointer (some ⟨w.heap.size,0,none⟩)) (w':=w.alloc (.cells z.cells v.t)) YC Yba ⟨I,hw.alloc _,ext_alloc hw _,⟨bs',λu hu hs=>?_,?_⟩,.any _⟩
   ·by_cases e:u.d=v.d
    ·rw[e,hd,tmps_put_same (hzz v.d hd),show bs' v.d=w.heap.size from if_pos rfl]
    ·rw[hd,tmps_put_other e,show bs' u.d=bs u.d from if_neg e];refine hb u hu ?_;have hu2:u∈pre\/u∈post:=by
      rw[hvs] at hu;rcases List.mem_append.1 hu with h' | h'
      ·exact .inl h'
      ·rcases List.mem_cons.1 h' with h' | h'
       ·exact absurd (by rw[h']) e
       ·exact .inr h'
     have:u.e≠i:=by rw[<-hi];exact nodup_at (·.e) hv2 hvs hu2
     rwa [addS_other this] at hs
   ·rw[e2];have:=HeapOk.new hh hw v.t _ _ h1;exact this.perm (by rw[List.append_assoc,List.append_assoc];exact List.perm_middle.symm)
theorem UD.stoV(pre post:List VS)(v:VS)(hvs:vs=pre++v::post)(hc:∃k m,vsChk L vs k m=true)(hi:v.s=i)(hg:o.guard=none)(hd:o.dst=none)(h:∀b H' H'',Upd H' (.blk b v.t (v.zs.map .val)) (.blk b v.t v.ys) H''->SOk P H' H'' (envGet ((v.d,.p b 0)::env)) o)(next:UD P (VM H vs) L n (i+1) rest env K):UD P (VM H vs) L n i (o::rest) env K:=by
 obtain⟨k,m,hc⟩:=hc;simp only[vsChk,Bool.and_eq_true,List.all_eq_true,decide_eq_true_eq,Bool.not_eq_true'] at hc;obtain⟨⟨⟨hv1,hv2⟩,hv3⟩,hv4⟩:=hc;have hvm:v∈vs:=by rw[hvs];simp
 have ne:∀{a b:Nat},Nat.beq a b=false->a≠b:=λh e=>by subst e;simp at h
 refine⟨.any,λS hshut hmask hSi=>EOkX.of hg (λB I w r a hw hm ho hzz=>?_),by rw[hd];rfl,YU⟩;obtain⟨bs,hb,hh⟩:=hm;have hSe:S v.e=true:=hmask _ (by rw[<-hi];exact (hv1 v hvm).1.2);have hp:=hb v hvm hSe;have ho':OpsOk I w (envGet ((v.d,.p (bs v.d) 0)::env)) a o:=λx hx y hy=>by
  cases x with
  | tmp t=>
   simp only[aeval] at hy;rw[envGet_cons] at hy;split at hy
   ·rename_i e;subst e;cases hy;show Rel I w (.p (bs v.d) 0) (a.tmps.getD v.d undef);rw[hp];exact .val _
   ·exact ho _ hx y hy
  | const v=>exact ho _ hx y hy
  | global g=>exact ho _ hx y hy
  | func f=>exact ho _ hx y hy
 have hother:∀u,u∈pre\/u∈post->VS.ent (addS S i) bs u=VS.ent S bs u:=λu hu=>by
  have hum:u∈vs:=by rw[hvs];rcases hu with hu | hu <;> simp[hu]
  have e1:u.s≠i:=by rw[<-hi];exact nodup_at (·.s) hv3 hvs hu
  have e3:u.e≠i:=λe=>ne ((hv1 v hvm).2 u hum) (by rw[hi,e]);rw[VS.ent,VS.ent,addS_other e1,addS_other e3]
 have hes:v.e≠i:=λe=>ne ((hv1 v hvm).2 v hvm) (by rw[hi,e]);have hold:VS.ent S bs v=some (.blk (bs v.d) v.t (v.zs.map .val)):=by
  rw[VS.ent,if_pos hSe,hi,if_neg (by rw[hSi];simp)]
 have hnew:VS.ent (addS S i) bs v=some (.blk (bs v.d) v.t v.ys):=by
  rw[VS.ent,addS_other hes,if_pos hSe,hi,addS_same,if_pos rfl]
 have e1:VS.ents S bs vs++H=VS.ents S bs pre++.blk (bs v.d) v.t (v.zs.map .val)::(VS.ents S bs post++H):=by rw[hvs,ents_app,ents_some hold,List.append_assoc];rfl
 have e2:VS.ents (addS S i) bs vs++H=VS.ents S bs pre++.blk (bs v.d) v.t v.ys::(VS.ents S bs post++H):=by
  rw[hvs,ents_app,ents_some hnew,ents_congr λu hu=>hother u (.inl hu),ents_congr λu hu=>hother u (.inr hu),List.append_assoc];rfl
 rw[e1] at hh;refine (h (bs v.d) _ _ (Upd.under _) B I w r a hw hh ho').mono (λx w' ⟨I',a1,a2,a3⟩=>⟨I',a1,a2,⟨bs,λu hu hs=>?_,by rw[e2];exact a3⟩,.any _⟩) (λ_ _ h=>h);rw[hd];refine hb u hu ?_;have:u.e≠i:=λe=>ne ((hv1 v hvm).2 u hu) (by rw[hi,e]);rwa [addS_other this] at hs
end
theorem bfill_row{k:Nat}:∀(parts:List (Nat×AV)) (i0:Nat) (cs:List AV),parts.map (·.1)=(List.range parts.length).map (i0+ ·)->(∀p∈parts,bOk p.2=true/\(bcells p.2).length=k)->(i0+parts.length)*k<=cs.length->
  bfill (λi=>some (i*k,k)) cs parts=some (cs.take (i0*k)++(parts.map λp=>bcells p.2).flatten++cs.drop ((i0+parts.length)*k))
 | [],i0,cs,_,_,_=>by simp[bfill]
 | (i,x)::r,i0,cs,hi,hp,hl=>by
  have hx:=hp (i,x) (.head _);rw[List.length_cons,List.range_succ_eq_map,List.map_cons,List.map_cons,List.cons.injEq,List.map_map] at hi;obtain⟨e,hi⟩:=hi;simp only[Nat.add_zero] at e;subst e;rw[List.length_cons] at hl;have hm:(i+1)*k<=cs.length:=Nat.le_trans (Nat.mul_le_mul_right k Yd) hl;have e1:(i+1)*k=i*k+k:=Nat.succ_mul i k;have hlen:(cs.take (i*k)++bcells x++cs.drop (i*k+k)).length=cs.length:=by
   simp only[List.length_append,List.length_take,List.length_drop,hx.2];omega
  rw[bfill];simp only[hx.1,hx.2,Nat.beq_refl,Bool.true_and,Nat.ble_eq_true_of_le (e1▸hm),cond_true];rw[bfill_row r (i+1) _ (by rw[hi];exact List.map_congr_left λa _=>by simp;omega) (λp h=>hp p (.tail _ h)) (by rw[hlen];rw[show i+1+r.length=i+(r.length+1) by omega];exact hl)];rw[show i+1+r.length=i+(r.length+1) by omega,e1];congr 1;have t1:(cs.take (i*k)++bcells x++cs.drop (i*k+k)).take (i*k+k)=cs.take (i*k)++bcells x:=by
   rw[List.take_append_of_le_length YaV,List.take_of_length_le YaV]
  have t2:(cs.take (i*k)++bcells x++cs.drop (i*k+k)).drop ((i+(r.length+1))*k)=cs.drop ((i+(r.length+1))*k):=by
   have hle:i*k+k<=(i+(r.length+1))*k:=by rw[<-e1];exact Nat.mul_le_mul_right k Yd
   rw[List.drop_append,List.drop_of_length_le YaV,List.nil_append,List.drop_drop];congr 1;simp only[List.length_append,List.length_take,hx.2];omega
  rw[t1,t2];simp
section
variable{P:Program}{H:List Ent}{ρ:Nat->Option AV}{o:Oper}
theorem POp.rowK{t:TypeId}{n k:Nat}{ps:Array (Nat×Operand)}{zs:List Value}(ys:List (Bool×AV))[hR:HasRow P t (k,zs)](h:o.op= .buildSlice t n ps)
  (hy:aevs ρ (ps.toList.map (·.2))=some ys) (hg:ys.all (·.1)=true) (hidx:ps.toList.map (·.1)=List.range n) (hb:ys.all (λy=>bOk y.2 && Nat.beq (bcells y.2).length k)=true) (hlen:Nat.beq ys.length n=true)
  (hsm:Nat.ble (n*k) 16777216=true) (hpos:Nat.blt 0 (n*k)=true):POp P H ρ o (.sl k (ys.map λy=>bcells y.2)):=by
 have hn:=Nat.eq_of_beq_eq_true hlen;simp only[List.all_eq_true,Bool.and_eq_true] at hb;have hpl:partsOf ps.toList ys=(List.range n).zip (ys.map (·.2)):=by rw[partsOf,hidx]
 have hzl:((List.range n).zip (ys.map (·.2))).map (·.2)=ys.map (·.2):=List.map_snd_zip (by rw[List.length_range,List.length_map,hn];exact Nat.le_refl _);have hzf:((List.range n).zip (ys.map (·.2))).map (·.1)=List.range n:=List.map_fst_zip (by rw[List.length_range,List.length_map,hn];exact Nat.le_refl _);have hzn:((List.range n).zip (ys.map (·.2))).length=n:=by rw[List.length_zip,List.length_range,List.length_map,hn,Nat.min_self]
 have hmm:(ys.map (·.2)).map bcells=ys.map λy=>bcells y.2:=by rw[List.map_map];rfl
 have hall:(ys.map λy=>bcells y.2).all (λe=>Nat.beq e.length k)=true:=by
  rw[List.all_eq_true];intro e he;obtain⟨y,hy,rfl⟩:=List.mem_map.1 he;exact (hb y hy).2
 refine POp.row (hR:=hR) h hy hg (els:=ys.map λy=>bcells y.2) ?_ (by rw[List.length_map];exact hlen) hall hsm hpos ?_
 ·rw[hpl,show (λx:Nat×AV=>bcells x.2)=bcells∘(·.2) from rfl, <-List.map_map,hzl,hmm]
 ·rw[hpl,bfill_row ((List.range n).zip (ys.map (·.2))) 0 _ (by rw[hzf,hzn];simp) ?_ ?_]
  ·rw[hzn];have hzlen:((rowZero n k zs).map AV.val).length=n*k:=by simp[rowZero]
   rw[show (0+n)*k=n*k by rw[Nat.zero_add],List.drop_of_length_le (by rw[hzlen];exact Nat.le_refl _)];simp only[Nat.zero_mul,List.take_zero,List.nil_append,List.append_nil];rw[show (λp:Nat×AV=>bcells p.2)=bcells∘(·.2) from rfl, <-List.map_map,hzl,hmm]
  ·intro p hp;obtain⟨y,hy,e⟩:=List.mem_map.1 (List.of_mem_zip hp).2;have:=hb y hy;rw[<-e];exact⟨this.1,Nat.eq_of_beq_eq_true this.2⟩
  ·rw[hzn];simp[rowZero]
end
def blkOf:Value->Nat
 | .pointer (some a)=>a.block
 | _=>0
inductive ES where
 | own (i d e k:Nat) (y:AV)
 | al (i d:Nat) (t:TypeId) (zs:List Value)
def ES.i:ES->Nat
 | .own i _ _ _ _=>i
 | .al i _ _ _=>i
def ES.d:ES->Nat
 | .own _ d _ _ _=>d
 | .al _ d _ _=>d
def ES.en:ES->Value->Ent
 | .own _ _ e k _,v=>.own e k v
 | .al _ _ t zs,v=>.blk (blkOf v) t (zs.map .val)
def ES.okE:ES->Value->Prop
 | .own _ _ _ _ _,_=>True
 | .al _ _ _ _,v=>v= .pointer (some ⟨blkOf v,0,none⟩)
def ES.av:ES->Value->AV
 | .own _ _ _ _ y,v=>.as y v
 | .al _ _ _ _,v=>.p (blkOf v) 0
def ES.y:ES->AV
 | .own _ _ _ _ y=>y
 | .al _ _ _ _=>.any
def ES.mem(S:Nat->Bool)(f:Nat->Value)(es:List ES):List Ent:=es.filterMap λs=>if S s.i then some (s.en (f s.d)) else none
structure LS where
 i:Nat
 d:Nat
 ds:List Nat
 x:List Value->AV
def EM(H:List Ent)(es:List ES)(ls:List LS)(S:Nat->Bool):Mem:=λB a I w=>
 (∀s∈es,S s.i=true->s.okE (a.tmps.getD s.d undef))/\HeapOk B I w (ES.mem S (λd=>a.tmps.getD d undef) es++H)/\∀t∈ls,S t.i=true->Rel I w (t.x (t.ds.map λd=>a.tmps.getD d undef)) (a.tmps.getD t.d undef)
def esChk(l:List Oper)(es:List ES)(ls:List LS)(k m:Nat):Bool:=(es.all λs=>Nat.ble k s.i && Nat.blt s.i m) && (ls.all λt=>Nat.ble k t.i && Nat.blt t.i m && (es.all λs=>!Nat.beq s.i t.i && !Nat.beq s.d t.d) && t.ds.all λd=>es.any λs=>Nat.beq s.d d && ((masks l []).getD t.i 0).testBit s.i) && decide (es.map ES.i).Nodup && decide (es.map ES.d).Nodup && decide (ls.map LS.i).Nodup && decide (ls.map LS.d).Nodup
theorem esChk_of{l:List Oper}{es:List ES}{ls:List LS}{k m:Nat}(h:esChk l es ls k m=true):(∀s∈es,Nat.ble k s.i=true/\Nat.blt s.i m=true)/\(∀t∈ls,Nat.ble k t.i=true/\Nat.blt t.i m=true/\(∀s∈es,s.i≠t.i/\s.d≠t.d)/\∀d∈t.ds,∃s∈es,s.d=d/\((masks l []).getD t.i 0).testBit s.i=true)/\(es.map ES.i).Nodup/\(es.map ES.d).Nodup/\(ls.map LS.i).Nodup/\(ls.map LS.d).Nodup:=by
 have ne:∀{a b:Nat},Nat.beq a b=false->a≠b:=λh e=>by subst e;simp at h
 simp only[esChk,Bool.and_eq_true,List.all_eq_true,decide_eq_true_eq,List.any_eq_true,Bool.not_eq_true'] at h;obtain⟨⟨⟨⟨⟨h1,h2⟩,h3⟩,h4⟩,h5⟩,h6⟩:=h;refine⟨h1,λt ht=>?_,h3,h4,h5,h6⟩;obtain⟨⟨⟨a1,a2⟩,a3⟩,a4⟩:=h2 t ht;refine⟨a1,a2,λs hs=>⟨ne (a3 s hs).1,ne (a3 s hs).2⟩,λd hd=>?_⟩;obtain⟨s,hs,b1,b2⟩:=a4 d hd;exact⟨s,hs,Nat.eq_of_beq_eq_true b1,b2⟩
theorem mem_some{S:Nat->Bool}{f:Nat->Value}{s:ES}{r:List ES}(h:S s.i=true):ES.mem S f (s::r)=s.en (f s.d)::ES.mem S f r:=List.filterMap_cons_some (by rw[if_pos h])
theorem mem_none{S:Nat->Bool}{f:Nat->Value}{s:ES}{r:List ES}(h:S s.i=false):ES.mem S f (s::r)=ES.mem S f r:=List.filterMap_cons_none (by rw[if_neg (by rw[h];simp)])
theorem mem_zero{f:Nat->Value}{k:Nat}:∀{es:List ES},(∀s∈es,Nat.blt s.i k=false)->ES.mem (λi=>Nat.blt i k) f es= []
 | [],_=>rfl
 | s::r,h=>by rw[mem_none (h s (.head _)),mem_zero λu hu=>h u (.tail _ hu)]
theorem mem_all{f:Nat->Value}{m:Nat}:∀{es:List ES},(∀s∈es,Nat.blt s.i m=true)->ES.mem (λi=>Nat.blt i m) f es=es.map λs=>s.en (f s.d)
 | [],_=>rfl
 | s::r,h=>by rw[mem_some (h s (.head _)),mem_all λu hu=>h u (.tail _ hu)];rfl
theorem EnvOk.made{I:Imm}{w:World}{a:Act}{env:List (Nat×AV)}(h:EnvOk I w (envGet env) a):∀(es:List ES),(∀s∈es,s.okE (a.tmps.getD s.d undef)/\envGet env s.d=some s.y)->EnvOk I w (envGet (es.map (λs=>(s.d,s.av (a.tmps.getD s.d undef)))++env)) a
 | [],_=>h
 | s::r,hv=>λt x hx=>by
  rw[List.map_cons,List.cons_append,envGet_cons] at hx;split at hx
  ·rename_i e;cases hx;subst e;have h1:=hv s (.head _);cases s with
   | own i d e k y=>exact .as _ _ (h d y h1.2)
   | al i d t zs=>
    have h2:a.tmps.getD d undef= .pointer (some ⟨blkOf (a.tmps.getD d undef),0,none⟩):=h1.1;show Rel I w (.p (blkOf (a.tmps.getD d undef)) 0) (a.tmps.getD d undef);generalize a.tmps.getD d undef=v at h2;rw[h2];exact .val _
  ·exact EnvOk.made h r (λu hu=>hv u (.tail _ hu)) t x hx
section
variable{c:Ctx}{r:Option Nat}{P:Program}{l:List Oper}{Q:Exit->Act->World->Prop}
theorem EnvOk.late{I:Imm}{w:World}{a:Act}{env:List (Nat×AV)}(h:EnvOk I w (envGet env) a):∀(ls:List LS),(∀t∈ls,Rel I w (t.x (t.ds.map λd=>a.tmps.getD d undef)) (a.tmps.getD t.d undef))->EnvOk I w (envGet (ls.map (λt=>(t.d,t.x (t.ds.map λd=>a.tmps.getD d undef)))++env)) a
 | [],_=>h
 | t::r,hv=>λu x hx=>by
  rw[List.map_cons,List.cons_append,envGet_cons] at hx;split at hx
  ·rename_i e;cases hx;subst e;exact hv t (.head _)
  ·exact EnvOk.late h r (λs hs=>hv s (.tail _ hs)) u x hx
theorem DP.anyE{env:List (Nat×AV)}{H:List Ent}(es:List ES)(ls:List LS)(k m n:Nat)(hn:c.n=n)(hchk:segChk l k m=true)(hes:esChk l es ls k m=true)(hkm:Nat.ble k m=true)(hml:Nat.ble m l.length=true)(hlk:(l.all λo=>(looks l o).all λt=>Nat.blt t n)=true)
  (h:UD P (EM H es ls) l c.n k ((l.drop k).take (m - k)) env λenv=>(∀s∈es,envGet env s.d=some s.y)/\∀f:Nat->Value,DP c r P l Q m ⟨ls.map (λt=>(t.d,t.x (t.ds.map f)))++(es.map (λs=>(s.d,s.av (f s.d)))++env),es.map (λs=>s.en (f s.d))++H⟩):DP c r P l Q k ⟨env,H⟩:=by
 obtain⟨hv1,hv0,hv2,hv3,_⟩:=esChk_of hes;have blk:∀i,Nat.ble k i=true->Nat.blt i k=false:=λi hi=>by
  have h1:=Nat.le_of_ble_eq_true hi;rw[Bool.eq_false_iff];intro hb;have:=Nat.lt_of_succ_le Ya9;omega
 have hz:∀s∈es,Nat.blt s.i k=false:=λs hs=>blk _ (hv1 s hs).1;refine DP.anyU (M:=EM H es ls) hchk (Nat.le_of_ble_eq_true hkm) (Nat.le_of_ble_eq_true hml) Ybh (λB a I w hh=>⟨λs hs h1=>?_,?_,λt ht h1=>?_⟩) (h.mono λenv ⟨he,hd⟩ a w I q1 q2 q3 q4 q5 q6=>?_)
 ·have h1:Nat.blt s.i k=true:=h1;rw[hz s hs] at h1;cases h1
 ·rw[mem_zero hz];exact hh
 ·have h1:Nat.blt t.i k=true:=h1;rw[blk _ (hv0 t ht).1] at h1;cases h1
 ·obtain⟨hb,hh,hl⟩:=q5;have hh':HeapOk c.B I w (es.map (λs=>s.en (a.tmps.getD s.d undef))++H):=by rwa [mem_all λs hs=>(hv1 s hs).2] at hh
  exact hd (λd=>a.tmps.getD d undef) a w ⟨q1,q2,I,q3,q4,hh',(q6.made es λs hs=>⟨hb s hs (hv1 s hs).2,he s hs⟩).late ls λt ht=>hl t ht (hv0 t ht).2.1⟩
end
section
variable{P:Program}{L rest:List Oper}{es:List ES}{ls:List LS}{n i d:Nat}{o:Oper}{env:List (Nat×AV)}{K:List (Nat×AV)->Prop}{x:AV}{H:List Ent}
end
def eqField(P:Program)(p:Field×Nat):Bool:=p.1.offset==p.2 && p.1.name != "_" && P.plainKey p.1.type && (match P.underlying p.1.type with | some (.int _)=>true | _=>false)
def eqInts(P:Program)(t:TypeId)(n:Nat):Bool:=(match P.underlying t with | some (.struct fs)=>fs.toList.length==n && fs.toList.zipIdx.all (eqField P) | _=>false) && !P.stoodInHeld t && !P.eqGuardType P.depth t
class HasEq (P:Program) (t:TypeId) (n:outParam Nat):Prop where
 h:eqInts P t n=true
abbrev intsArr(l:List Int):Array Value:=(l.map λn=>Value.int .i64 n).toArray
theorem eqFields_ints{P:Program}{w:World}(d:Nat){as bs:List Int}{n:Nat}(ha:as.length=n)(hb:bs.length=n):∀(fs:List Field) (k:Nat),k+fs.length=n->((fs.zipIdx k).all (eqField P))=true->
  (Op.eqFields (d+1) (intsArr as) (intsArr bs) fs).run P w= .ok (as.drop k==bs.drop k) w
 | [],k,hk,_=>by
  rw[List.length_nil] at hk;rw[List.drop_of_length_le Yd,List.drop_of_length_le Yd];rfl
 | f::fs,k,hk,hf=>by
  rw[List.length_cons] at hk;rw[List.zipIdx_cons,List.all_cons,Bool.and_eq_true] at hf;have h1:=hf.1;simp only[eqField,Bool.and_eq_true,beq_iff_eq,bne_iff_ne,ne_eq] at h1;obtain⟨⟨⟨ho,hn⟩,hp⟩,hu⟩:=h1;obtain⟨k',hu⟩:∃k',P.underlying f.type=some (.int k'):=by
   split at hu
   ·rename_i k' e;exact⟨k',e⟩
   ·cases hu
  have hka:k<as.length:=by omega
  have hkb:k<bs.length:=by omega
  have ga:(intsArr as)[f.offset]? =some (.int .i64 as[k]):=by rw[ho];simp[intsArr,List.getElem?_eq_getElem hka]
  have gb:(intsArr bs)[f.offset]? =some (.int .i64 bs[k]):=by rw[ho];simp[intsArr,List.getElem?_eq_getElem hkb]
  have hab:(as.drop k==bs.drop k)=(as[k]==bs[k] && as.drop (k+1)==bs.drop (k+1)):=by rw[List.drop_eq_getElem_cons hka,List.drop_eq_getElem_cons hkb];rfl
  rw[hab];simp only[Op.eqFields,Sem.run_ite,Sem.run_bind];rw[if_pos hn,Go.run_part_plain (w:=w) hp ga];simp only[Result.andThen_ok];rw[Go.run_part_plain (w:=w) hp gb];simp only[Result.andThen_ok];rw[run_equalIn_int w d f.type .i64 k' as[k] bs[k] hu];simp only[Result.andThen_ok];have ih:=eqFields_ints (P:=P) (w:=w) d ha hb fs (k+1) Yd hf.2;by_cases e:as[k]=bs[k]
  ·have e2:(as[k]==bs[k])=true:=by simpa using e
   rw[e2];simp only[Bool.not_true,Bool.false_eq_true,if_false,Bool.true_and];exact ih
  ·have e2:(as[k]==bs[k])=false:=by simpa using e
   rw[e2];simp only[Bool.not_false,if_true,Sem.run_pure,Bool.false_and]
section
variable{P:Program}{H:List Ent}{ρ:Nat->Option AV}{o:Oper}
theorem aggInts_rel{I:Imm}{w:World}:∀{l:List Int} {vs:List Value},RelL I w (l.map AV.i) vs->vs=l.map λn=>Value.int .i64 n
 | [],_,h=>by cases h;rfl
 | n::r,_,h=>by
  cases h with
  | cons _ v _ vs hv ht=>
   rw[rel_val hv,aggInts_rel ht];rfl
theorem POp.eqI{t t':TypeId}{x y:Operand}{n:Nat}(as bs:List Int){gx gy:Bool}[he:HasEq P t n](h:o.op= .binOp .eql t x y t')(hx:aev ρ x=some (gx,.agg (as.map AV.i)))(hy:aev ρ y=some (gy,.agg (bs.map AV.i)))(hgx:gx=true)(hgy:gy=true)
  (ha:Nat.beq as.length n=true) (hb:Nat.beq bs.length n=true):POp P H ρ o (.b (as==bs)):=by
 have ha:=Nat.eq_of_beq_eq_true ha;have hb:=Nat.eq_of_beq_eq_true hb;have hh:=he.h;simp only[eqInts,Bool.and_eq_true,Bool.not_eq_true'] at hh;obtain⟨⟨h1,h2⟩,h3⟩:=hh;obtain⟨fs,hu⟩:∃fs,P.underlying t=some (.struct fs):=by
  split at h1
  ·rename_i fs e;exact⟨fs,e⟩
  ·cases h1
 rw[hu] at h1;simp only[Bool.and_eq_true,beq_iff_eq] at h1;have hfo:P.fieldsOf t=fs:=by rw[Program.fieldsOf,hu]
 refine .same YC λI w f ho=>?_;have q1:=ho.get Ym hx hgx;have q2:=ho.get Ym hy hgy;generalize hv:f.eval x=u at q1;generalize hz:f.eval y=z at q2;cases q1 with
 | agg _ vs hl1=>
  cases q2 with
  | agg _ us hl2=>
   have e1:vs=intsArr as:=Array.toList_inj.1 (by rw[aggInts_rel hl1]);have e2:us=intsArr bs:=Array.toList_inj.1 (by rw[aggInts_rel hl2]);subst e1;subst e2;refine⟨.bool (as==bs),?_,.val _⟩;have hrun:=eqFields_ints (P:=P) (w:=w) 9998 ha hb fs.toList 0 Yd h1.2;rw[List.drop_zero,List.drop_zero] at hrun;simp only[execOp,h,hv,hz,Sem.run_bind];rw[run_eqGuard_agg w .eql t x y _ _ h3];simp only[Result.andThen_ok];rw[run_eql_struct,run_equalIn_agg w 9999 t _ _ (by rw[hfo];exact hu) h2,hfo,hrun];rfl
end
section
variable{P:Program}{H:List Ent}{ρ:Nat->Option AV}{o:Oper}
end
section
variable{c:Ctx}{r:Option Nat}{P:Program}{ops:Array Oper}{l rest:List Oper}{o:Oper}{env:List (Nat×AV)}{H:List Ent}{Q:Exit->Act->World->Prop}{d:Nat}
end
structure CE where
 i:Nat
 d:Nat
 u:Bool
def CE.inst(es:List CE)(p:List Bool)(f:Nat->Value):List (Option Value):=List.zipWith (λe b=>if b then some (f e.d) else none) es p
def CE.vals:List CE->List Bool->(Nat->Value)->List (Nat×AV)
 | e::es,b::p,f=>match b,e.u with
  | true,true=>(e.d,.val (f e.d))::CE.vals es p f
  | _,_=>CE.vals es p f
 | _,_,_=>[]
def CE.pat(es:List CE)(S:Nat->Bool):List Bool:=es.map λe=>S e.i
def XM{G:Type}(HS:G->List (Option Value)->List Ent)(es:List CE)(S:Nat->Bool):Mem:=λB a I w=>∃g,HeapOk B I w (HS g (CE.inst es (CE.pat es S) λd=>a.tmps.getD d undef))
def CE.okPat(L:List Oper)(es:List CE)(i:Nat)(p:List Bool):Bool:=(es.zip p).all λx=>(!((masks L []).getD i 0).testBit x.1.i || x.2) && (!x.2 || (!((masks L []).getD x.1.i 0).testBit i && !Nat.beq x.1.i i && (es.zip p).all λy=>!((masks L []).getD x.1.i 0).testBit y.1.i || y.2))
def bools:Nat->List (List Bool)
 | 0=>[[]]
 | n+1=>(bools n).flatMap λp=>[false::p,true::p]
def CE.fits(L:List Oper)(es:List CE)(i:Nat)(pats:List (List Bool)):Bool:=(es.all λe=>Nat.blt e.i L.length) && (bools es.length).all λp=>!CE.okPat L es i p || pats.contains p
def AllP{α:Type}:List α->(α->Prop)->Prop
 | [],_=>True
 | a::r,Q=>Q a/\AllP r Q
theorem AllP.at{α:Type}{Q:α->Prop}:∀{l:List α},AllP l Q->∀a∈l,Q a
 | _::_,⟨h,_⟩,_,.head _=>h
 | _::_,⟨_,h⟩,_,.tail _ ha=>AllP.at h _ ha
theorem bools_all:∀(p:List Bool),p∈bools p.length
 | []=>.head _
 | b::p=>List.mem_flatMap.2 ⟨p,bools_all p,by cases b <;> simp⟩
theorem inst_pat(es:List CE)(S:Nat->Bool)(f:Nat->Value):CE.inst es (CE.pat es S) f=es.map λe=>if S e.i then some (f e.d) else none:=by
 induction es with
 | nil=>rfl
 | cons e r ih=>simp only[CE.inst,CE.pat,List.map_cons,List.zipWith_cons_cons] at ih ⊢;rw[ih]
theorem zip_pat{es:List CE}{S:Nat->Bool}:∀x∈es.zip (CE.pat es S),x.1∈es/\x.2=S x.1.i:=by
 induction es with
 | nil=>intro x hx;cases hx
 | cons e r ih=>
  intro x hx;simp only[CE.pat,List.map_cons,List.zip_cons_cons,List.mem_cons] at hx;rcases hx with rfl | hx
  ·exact⟨.head _,rfl⟩
  ·exact⟨.tail _ (ih x hx).1,(ih x hx).2⟩
theorem CE.fits_of{L:List Oper}{es:List CE}{i:Nat}{pats:List (List Bool)}{S:Nat->Bool}(h:CE.fits L es i pats=true)(hs:ShutS L S)(hm:∀j,((masks L []).getD i 0).testBit j=true->S j=true)(hi:S i=false):CE.pat es S∈pats:=by
 simp only[CE.fits,Bool.and_eq_true,List.all_eq_true] at h;obtain⟨hb,h⟩:=h;have hlt:∀e∈es,e.i<L.length:=λe he=>Nat.lt_of_succ_le (by simpa [Nat.blt] using hb e he);have h1:=h (CE.pat es S) (by have:=bools_all (CE.pat es S);rwa [CE.pat,List.length_map] at this);have key:CE.okPat L es i (CE.pat es S)=true:=by
  rw[CE.okPat,List.all_eq_true];intro x hx;obtain⟨x1,x2⟩:=zip_pat x hx;rw[Bool.and_eq_true];refine⟨?_,?_⟩
  ·cases hb:((masks L []).getD i 0).testBit x.1.i with
   | false=>rfl
   | true=>rw[x2,hm _ hb];rfl
  ·cases hx2:x.2 with
   | false=>rfl
   | true=>
    rw[hx2] at x2;have hsh:=hs x.1.i _ (List.getElem?_eq_getElem (hlt _ x1)) x2.symm;simp only[Bool.not_true,Bool.false_or,Bool.and_eq_true,Bool.not_eq_true',List.all_eq_true];refine⟨⟨?_,?_⟩,λy hy=>?_⟩
    ·cases hb:((masks L []).getD x.1.i 0).testBit i with
     | false=>rfl
     | true=>rw[hsh i hb] at hi;cases hi
    ·cases hb:Nat.beq x.1.i i with
     | false=>rfl
     | true=>rw[Nat.eq_of_beq_eq_true hb,hi] at x2;cases x2
    ·obtain⟨y1,y2⟩:=zip_pat y hy;cases hb:((masks L []).getD x.1.i 0).testBit y.1.i with
     | false=>rfl
     | true=>rw[y2,hsh _ hb];rfl
 rw[key] at h1;simpa using h1
theorem env_vals{f:Nat->Value}{env:List (Nat×AV)}{t:Nat}{y:AV}:∀(es:List CE) (p:List Bool),envGet (CE.vals es p f++env) t=some y->y= .val (f t)\/envGet env t=some y
 | [],p,h=>.inr h
 | _::_,[],h=>.inr h
 | e::es,b::p,h=>by
  unfold CE.vals at h;split at h
  ·rw[List.cons_append,envGet_cons] at h;split at h
   ·rename_i e1;cases h;rw[e1];exact .inl rfl
   ·exact env_vals es p h
  ·exact env_vals es p h
theorem ops_vals{I:Imm}{w:World}{a:Act}{o:Oper}{env:List (Nat×AV)}(es:List CE)(p:List Bool)(h:OpsOk I w (envGet env) a o):OpsOk I w (envGet (CE.vals es p (λd=>a.tmps.getD d undef)++env)) a o:=λx hx y hy=>by
 cases x with
 | tmp u=>
  simp only[aeval] at hy;rcases env_vals es p hy with rfl | hy
  ·exact .val _
  ·exact h _ hx y hy
 | const v=>exact h _ hx y hy
 | global g=>exact h _ hx y hy
 | func f=>exact h _ hx y hy
theorem EnvOk.vals{I:Imm}{w:World}{a:Act}{env:List (Nat×AV)}(es:List CE)(p:List Bool)(h:EnvOk I w (envGet env) a):EnvOk I w (envGet (CE.vals es p (λd=>a.tmps.getD d undef)++env)) a:=λt x hx=>by
 rcases env_vals es p hx with rfl | hx
 ·exact .val _
 ·exact h t x hx
def FOk{G:Type}(P:Program)(H:List Ent)(H':G->Value->List Ent)(ρ:Nat->Option AV)(o:Oper)(x:AV):Prop:=∀(B:Nat) (I:Imm) (w:World) (r:Option Nat) (a:Act),WOk B I w->HeapOk B I w H->OpsOk I w ρ a o->
 Runs P r o a w (λv w'=>∃I' g,WOk B I' w'/\Ext B I w I' w'/\HeapOk B I' w' (H' g v)/\Rel I' w' x v) (λ_ _=>False)
section
variable{c:Ctx}{r:Option Nat}{P:Program}{l:List Oper}{Q:Exit->Act->World->Prop}{G:Type}
theorem DP.anyH{env:List (Nat×AV)}{H:List Ent}(es:List CE)(g0:G)(HS:G->List (Option Value)->List Ent)(k m n:Nat)(hn:c.n=n)(hchk:segChk l k m=true)(hes:(es.all λe=>Nat.ble k e.i && Nat.blt e.i m)=true)(hkm:Nat.ble k m=true)(hml:Nat.ble m l.length=true)(hlk:(l.all λo=>(looks l o).all λt=>Nat.blt t n)=true)
  (h0:HS g0 (es.map λ_=>none)=H)
  (h:UD P (XM HS es) l c.n k ((l.drop k).take (m - k)) env λenv=>∀(g:G) (f:Nat->Value),DP c r P l Q m ⟨CE.vals es (es.map λ_=>true) f++env,HS g (es.map λe=>some (f e.d))⟩):DP c r P l Q k ⟨env,H⟩:=by
 simp only[List.all_eq_true,Bool.and_eq_true] at hes;have blk:∀i,Nat.ble k i=true->Nat.blt i k=false:=λi hi=>by
  have h1:=Nat.le_of_ble_eq_true hi;rw[Bool.eq_false_iff];intro hb;have:=Nat.lt_of_succ_le Ya9;omega
 refine DP.anyU (M:=XM HS es) hchk (Nat.le_of_ble_eq_true hkm) (Nat.le_of_ble_eq_true hml) Ybh (λB a I w hh=>⟨g0,?_⟩) (h.mono λenv hd a w I q1 q2 q3 q4 q5 q6=>?_)
 ·have e:CE.inst es (CE.pat es λi=>Nat.blt i k) (λd=>a.tmps.getD d undef)=es.map λ_=>none:=by
   rw[inst_pat];exact List.map_congr_left λe he=>by rw[blk _ (hes e he).1];rfl
  rw[e,h0];exact hh
 ·obtain⟨g,hh⟩:=q5;have e:CE.inst es (CE.pat es λi=>Nat.blt i m) (λd=>a.tmps.getD d undef)=es.map λe=>some (a.tmps.getD e.d undef):=by
   rw[inst_pat];exact List.map_congr_left λe he=>by rw[(hes e he).2];rfl
  rw[e] at hh;exact hd g (λd=>a.tmps.getD d undef) a w ⟨q1,q2,I,q3,q4,hh,q6.vals es _⟩
end
section
variable{P:Program}{L rest:List Oper}{es:List CE}{n i d:Nat}{o:Oper}{env:List (Nat×AV)}{K:List (Nat×AV)->Prop}{x:AV}{G:Type}{HS:G->List (Option Value)->List Ent}
theorem UD.popG(pats:List (List Bool))(hi:(es.all λe=>!Nat.beq e.i i && !Nat.beq e.d d)=true)(hf:CE.fits L es i pats=true)(hg:o.guard=none)(hd:o.dst=some d)(hn:Nat.blt d n=true)
  (h:AllP pats λp=>∀g f,POp P (HS g (CE.inst es p f)) (envGet (CE.vals es p f++env)) o x) (next:UD P (XM HS es) L n (i+1) rest ((d,x)::env) K):UD P (XM HS es) L n i (o::rest) env K:=
 ⟨x,λS hshut hmask hSi=>EOkX.of hg (λB I w r a hw hm ho hz=>by
  obtain⟨g,hm⟩:=hm;simp only[List.all_eq_true,Bool.and_eq_true,Bool.not_eq_true'] at hi;have ne:∀{a b:Nat},Nat.beq a b=false->a≠b:=λh e=>by subst e;simp at h
  refine (h.at _ (CE.fits_of hf hshut hmask hSi) g (λd=>a.tmps.getD d undef) B I w r a _ hw hm (λe he=>he) (ops_vals es _ ho)).mono (λv w' ⟨I',a1,a2,a3,a4⟩=>⟨I',a1,a2,⟨g,?_⟩,a4⟩) (λ_ _ h=>h);have e:CE.inst es (CE.pat es (addS S i)) (λd=>(a.put o.dst v).tmps.getD d undef)=CE.inst es (CE.pat es S) (λd=>a.tmps.getD d undef):=by
   rw[inst_pat,inst_pat];exact List.map_congr_left λe he=>by rw[addS_other (ne (hi e he).1),hd,tmps_put_other (ne (hi e he).2)]
  rw[e];exact a3),dstOk_of hd hn,YU⟩
theorem inst_set{S:Nat->Bool}{f f':Nat->Value}{q:Nat}{e:CE}{u:Value}(he:es[q]? =some e)(hu:f' e.d=u)(ho:∀q' e',q'≠q->es[q']? =some e'->e'.i≠e.i/\f' e'.d=f e'.d):CE.inst es (CE.pat es (addS S e.i)) f'=(CE.inst es (CE.pat es S) f).set q (some u):=by
 rw[inst_pat,inst_pat];refine List.ext_getElem? λj=>?_;rw[List.getElem?_set,List.length_map,List.getElem?_map,List.getElem?_map];have hq:=(List.getElem?_eq_some_iff.1 he).1;by_cases hj:q=j
 ·subst hj;rw[if_pos rfl,if_pos hq,he];show some (if addS S e.i e.i=true then some (f' e.d) else none)=_;rw[addS_same,hu];rfl
 ·rw[if_neg hj];cases hje:es[j]? with
  | none=>rfl
  | some e'=>
   have:=ho j e' (λh=>hj h.symm) hje;show some (if addS S e.i e'.i=true then some (f' e'.d) else none)=some (if S e'.i=true then some (f e'.d) else none);rw[addS_other this.1,this.2]
theorem UD.effG(q:Nat)(pats:List (List Bool)){e:CE}(he:es[q]? =some e)(hi:e.i=i)(ho:((es.take q++es.drop (q+1)).all λe'=>!Nat.beq e'.i i && !Nat.beq e'.d e.d)=true)(hf:CE.fits L es i pats=true)(hg:o.guard=none)(hd:o.dst=some e.d)(hn:Nat.blt e.d n=true)
  (h:AllP pats λp=>∀g f,FOk P (HS g (CE.inst es p f)) (λg' v=>HS g' ((CE.inst es p f).set q (some v))) (envGet (CE.vals es p f++env)) o x) (next:UD P (XM HS es) L n (i+1) rest ((e.d,x)::env) K):UD P (XM HS es) L n i (o::rest) env K:=
 ⟨x,λS hshut hmask hSi=>EOkX.of hg (λB I w r a hw hm hops hz=>by
  obtain⟨g,hm⟩:=hm;simp only[List.all_eq_true,Bool.and_eq_true,Bool.not_eq_true'] at ho;have ne:∀{a b:Nat},Nat.beq a b=false->a≠b:=λh e=>by subst e;simp at h
  refine (h.at _ (CE.fits_of hf hshut hmask hSi) g (λd=>a.tmps.getD d undef) B I w r a hw hm (ops_vals es _ hops)).mono (λv w' ⟨I',g',a1,a2,a3,a4⟩=>⟨I',a1,a2,⟨g',?_⟩,a4⟩) (λ_ _ h=>h);rw[<-hi,inst_set (S:=S) (f:=λd=>a.tmps.getD d undef) (f':=λd=>(a.put o.dst v).tmps.getD d undef) (u:=v) he (by rw[hd];exact tmps_put_same (hz _ hd)) (λq' e' hq he'=>?_)]
  ·exact a3
  ·have hm':e'∈es.take q++es.drop (q+1):=by
    rw[List.mem_append];rcases Nat.lt_or_gt_of_ne hq with h1 | h1
    ·exact .inl (List.mem_of_getElem? (i:=q') (by rw[List.getElem?_take,if_pos h1];exact he'))
    ·exact .inr (List.mem_of_getElem? (i:=q' - (q+1)) (by rw[List.getElem?_drop,show q+1+(q' - (q+1))=q' by omega];exact he'))
   refine⟨by rw[hi];exact ne (ho _ hm').1,?_⟩;show (a.put o.dst v).tmps.getD e'.d undef=_;rw[hd];exact tmps_put_other (ne (ho _ hm').2)),dstOk_of hd hn,YU⟩
theorem FOk.sto{H:List Ent}{H':List Ent}{ρ:Nat->Option AV}(g:G)(h:SOk P H H' ρ o):FOk P H (λ(_:G) _=>H') ρ o .any:=λB I w r a hw hh ho=>(h B I w r a hw hh ho).mono (λv w' ⟨I',a1,a2,a3⟩=>⟨I',g,a1,a2,a3,.any _⟩) (λ_ _ h=>h)
theorem FOk.app{H:List Ent}{ρ:Nat->Option AV}{s z:Operand}{t e k by_ m:Nat}{cs:List AV}{news:List (List AV)}{v:Value}{y:AV}{g1 g2:Bool}{H':G->Value->List Ent}(g:G)[hA:HasApp P t (e,k,by_)]
  (h:o.op= .call {callee:=.builtin .append,args:=#[s,z],argTypes:=#[t,t]}) (hs:aev ρ s=some (g1,.val v)) (hg1:g1=true) (hz:aev ρ z=some (g2,y)) (hg2:g2=true) (hy:AVle y (.sl k news)) (hne:news≠ [])
  (h1:news.all allOne=true) (hu:∀v',Upd H (.row e k v m cs) (.row e k v' (m+news.length) (cs++news.flatten)) (H' g v')) (hb:(m+news.length)*by_<=140737488355328) (hb':m+news.length<=9223372036854775807):FOk P H H' ρ o .any:=λB I w r a hw hh ho=>
 (appendRow_runs h hs hg1 hz hg2 hy hne h1 hu hb hb' hw hh ho).mono (λv w' ⟨I',a1,a2,a3⟩=>⟨I',g,a1,a2,a3,.any _⟩) (λ_ _ h=>h)
theorem FOk.bcall{H:List Ent}{ρ:Nat->Option AV}{f:FuncId}{xs:List AV}{Φ:AV->List Ent->Prop}{H':G->Value->List Ent}(hc:CallOk P ρ o f xs)(h:∀B,BCall B P f xs H Φ (λ_ _=>False))(hq:∀y H1,Φ y H1->∃g,y=x/\∀v,H' g v=H1):FOk P H H' ρ o x:=λB I w r a hw hh ho=>
 (bcall_runs (c:=⟨B,I,w,0,[]⟩) hc (h B) hw hh ho).mono (λv w' hR=>by
  obtain⟨I',H1,y,a1,a2,a3,a4,a5⟩:=hR;obtain⟨g,rfl,hv⟩:=hq _ _ a5;exact⟨I',g,a1,a2,by rw[hv];exact a3,a4⟩) (λ_ _ h=>h)
end
theorem Del.perm{H H':List Ent}{e:Ent}(h:Del H e H'):H.Perm (e::H'):=by
 induction h with
 | head=>exact .refl _
 | tail f e H H' _ ih=>exact (ih.cons f).trans (.swap _ _ _)
theorem HeapOk.turn{B:Nat}{I:Imm}{w:World}{H H':List Ent}{e e':Ent}(h:HeapOk B I w H)(hu:Upd H e e' H')(hok:e.ok B I w->e'.ok B I w)(hft:∀b,e'.foot=some b->e.foot=some b):HeapOk B I w H':=
 h.upd hu ⟨λ_ _ x=>x,λ_ _ _=>rfl⟩ (λ_ _ _=>rfl) (λ_ _ x=>.inl x) (hok (h.ok _ hu.mem)) (λb hb=>.inl (hft b hb))
theorem Ent.row_blk{B:Nat}{I:Imm}{w:World}{t k n:Nat}{v:Value}{cs:List AV}(hn:n≠0)(h:Ent.ok B I w (.row t k v n cs)):
  ∃b cap more,v= .slice (some ⟨b,0,none⟩) n cap/\n<=cap/\cap<=maxLen/\(cs++more).length=cap*k/\cs.length=n*k/\Ent.ok B I w (.blk b t (cs++more)):=by
 obtain⟨xs,hrow,hr,hni⟩:=h;rcases hrow.2 with⟨rfl,h0⟩ | ⟨g,cap,cur,rfl,hBg,hg,hnc,hcm,hcs,htk⟩
 ·exact absurd h0 hn
 ·have hlen:=hr.length;have hx:=hrow.1;have hle:n*k<=cur.size:=by rw[hcs];exact Nat.mul_le_mul_right k hnc
  refine⟨g,cap,(cur.toList.drop (n*k)).map .val,rfl,hnc,hcm,?_,Yd,hBg,cur,hg,?_,λo=>hni g rfl o⟩
  ·have hz:cs.length=n*k:=by omega
   have hy:cur.toList.length=cap*k:=hcs;rw[List.length_append,List.length_map,List.length_drop,hz,hy,Nat.add_sub_cancel' (hcs▸hle)]
  ·have h2:=hr.append (relL_val (I:=I) (w:=w) (cur.toList.drop (n*k)));rw[<-htk] at h2;rwa [List.take_append_drop] at h2
section
variable{c:Ctx}{r:Option Nat}{P:Program}{ops:Array Oper}{l rest:List Oper}{o:Oper}{env:List (Nat×AV)}{H:List Ent}{Q:Exit->Act->World->Prop}{d:Nat}
theorem CW.rowBlk{p:Code}{t k n:Nat}{v:Value}{cs:List AV}{H':Nat->Nat->List AV->List Ent}(hn:n≠0)(hu:∀b cap more,Upd H (.row t k v n cs) (.blk b t (cs++more)) (H' b cap more))
  (h:∀b cap more,v= .slice (some ⟨b,0,none⟩) n cap->n<=cap->cap<=maxLen->(cs++more).length=cap*k->cs.length=n*k->CW c r P p ⟨env,H' b cap more⟩ Q):CW c r P p ⟨env,H⟩ Q:=λa w s=>by
 obtain⟨I,hw,he,hh,hv⟩:=s.mem;obtain⟨b,cap,more,e1,e2,e3,e4,e5,e6⟩:=Ent.row_blk hn (hh.ok _ (hu 0 0 []).mem);refine h b cap more e1 e2 e3 e4 e5 a w ⟨s.ds,s.size,I,hw,he,hh.turn (hu b cap more) (λ_=>e6) (λx hx=>?_),hv⟩;subst e1;exact hx
theorem Sat.freezeRow{t k:Nat}{v:Value}{els:List (List AV)}{H':List Ent}{a:Act}{w:World}(s:Sat c ⟨env,H⟩ a w)(hd:envGet env d=some (.val v))(hD:Del H (.row t k v els.length els.flatten) H')(hk:∀e∈els,e.length=k):Sat c ⟨(d,.sl k els)::env,H'⟩ a w:=by
 obtain⟨I,hw,he,hh,hv⟩:=s.mem;obtain⟨J,j1,j2,j3,j4⟩:=HeapOk.freezeRow hw (hh.perm hD.perm) hk;refine⟨s.ds,s.size,J,j1,he.trans j2,j3,λt x hx=>?_⟩;rw[envGet_cons] at hx;split at hx
 ·rename_i e;cases hx;subst e;rw[rel_val (hv _ _ hd)];exact j4
 ·exact (hv t x hx).keep j2.keeps
theorem CW.freezeRow{p:Code}{t k:Nat}{v:Value}{els:List (List AV)}{H':List Ent}(hd:envGet env d=some (.val v))(hD:Del H (.row t k v els.length els.flatten) H')(hk:∀e∈els,e.length=k)
  (h:CW c r P p ⟨(d,.sl k els)::env,H'⟩ Q):CW c r P p ⟨env,H⟩ Q:=λa w s=>h a w (s.freezeRow hd hD hk)
theorem Done.freezeRow{ex:Exit}{t k:Nat}{v:Value}{els:List (List AV)}{H':List Ent}(hd:envGet env d=some (.val v))(hD:Del H (.row t k v els.length els.flatten) H')(hk:∀e∈els,e.length=k)
  (h:Done c ⟨(d,.sl k els)::env,H'⟩ ex Q):Done c ⟨env,H⟩ ex Q:=λa w s=>h a w (s.freezeRow hd hD hk)
end
section
variable{P:Program}{c:Ctx}{r:Option Nat}{ops:Array Oper}{l rest:List Oper}{o:Oper}{st:St}{Q:Exit->Act->World->Prop}{x:AV}
theorem panM{B D:Nat}{I0:Imm}{w0:World}{n:Nat}{fn:Func}{Φ:AV->List Ent->Prop}{E:AV->List Ent->Prop}{env:List (Nat×AV)}{H H' H'':List Ent}{y:AV}{a:Act}{w:World}{v:Value}
  (hD:Del H (.obj D (.deferred (some []))) H'') (hH:H'.Sublist H'') (hE:E y H') (s:Sat ⟨B,I0,w0,n,[mark D]⟩ ⟨env,H⟩ a w) (hy:∀J w,Rel J w y v):bodyPostM (FW none) 0 P fn (RetP B I0 w0 Φ E) (.panic [{v:=v,recovered:=false}]) a w:=by
 obtain⟨I,hw,he,hh,hv⟩:=s.mem;obtain⟨hB,hb,hni⟩:=hh.ok _ hD.mem;show LeavesInM _ _ _ _ _ _ a.defers _ _;rw[show a.defers= [mark D] from s.ds];have hk:Keeps I w I (w.putObj D (.deferred none)):=putObj_keeps (B:=B) hni;have hh':HeapOk B I (w.putObj D (.deferred none)) H'':=by
  refine (hh.sub hD.sub).keep hk (λf hf b hfb=>World.putObj_heap_other (λe=>?_)) (λ_ _ _ _ _ x=>x);subst e;exact hD.apart hh.apart f hf _ rfl hfb
 exact⟨Yx,.inl ⟨D,_,rfl,run_takeDeferred hb,I,H',hw.putObj hni,he.trans (Ext.putObj hB hni),hh'.sub hH,.inr ⟨v,y,rfl,hy _ _,hE⟩⟩⟩
def SeqS{α:Type}(B:Nat)(P:Program)(gv:AV)(enc:α->AV)(L:List α)(Hs:List Ent)(Hn:List Ent->Prop)(own:AV->Prop):Prop:=
 ∀(J Jx:List α->List Ent->Prop) (f:Fn) (fs cs:List AV),CbOk B P (.fn f fs cs) enc L (λ_=>True) J Jx->∀H Hx,J [] H->
  VCall B P gv [.fn f fs cs] (H++(Hs++Hx)) (λ_ H'=>∃H1 Hs',H'=H1++(Hs'++Hx)/\((Hn Hs'/\J L H1)\/∃pre,pre<+:L/\Jx pre H1))
   (λy H'=>∃H1 Hs',H'=H1++(Hs'++Hx)/\own y/\J L H1)
theorem CW.rangeFuncE{α:Type}{t p:Nat}{assign body:Code}{f:FuncId}{caps:List AV}(enc:α->AV)(L:List α)(J:List α->List Ent->Prop)(Jx:Code->List α->List Ent->Prop)(H Hs Hx:List Ent)(Hn:List Ent->Prop)(own:AV->Prop)(env':α->List (Nat×AV))
  (hr:r=none) (hH:st.H=H++(Hs++Hx)) (hg:envGet st.env t=some (.fn (.func f) [] caps)) (hp:Nat.blt p c.n=true) (hseq:SeqS c.B P (.fn (.func f) [] caps) enc L Hs Hn own) (hJ:J [] H)
  (assignOk:∀(l:Nat) (I:Imm) (w:World) (x:α) (Hy:List Ent),CW ⟨c.B,I,w,c.n,[]⟩ (some l) P assign ⟨(p,enc x)::st.env,Hy⟩ (Exit.then (λa w'=>∃st',st'=(⟨env' x,Hy⟩:St)/\Sat ⟨c.B,I,w,c.n,[]⟩ st' a w') (λ_ _ _=>False)))
  (round:∀(l D:Nat) (lp:Loop) (pre:List α) (x:α) (H1 Hy:List Ent) (I:Imm) (w:World),pre++[x]<+:L->J pre H1->
   CW ⟨c.B,I,w,c.n,[]⟩ (some l) P body ⟨env' x,.loop l lp (envGet st.env)::.obj D (.deferred (some []))::(H1++Hy)⟩ (roundEnd c.B I w l D lp (envGet st.env) J Jx (pre++[x]) Hy))
  (done:∀(D:Nat) (H1 Hs':List Ent),Hn Hs'->J L H1->Done ⟨c.B,c.I0,c.w0,c.n,{target:=.collected D,args:=#[]}::c.ds⟩ ⟨st.env,.obj D (.deferred (some []))::(H1++(Hs'++Hx))⟩ .normal Q)
  (jump:∀(D:Nat) (code:Code) (pre:List α) (H1 Hs':List Ent),pre<+:L->Jx code pre H1->CW ⟨c.B,c.I0,c.w0,c.n,{target:=.collected D,args:=#[]}::c.ds⟩ r P code ⟨st.env,.obj D (.deferred (some []))::(H1++(Hs'++Hx))⟩ Q)
  (pan:∀(D:Nat) (y:AV) (H1 Hs':List Ent),own y->J L H1->∀(I:Imm) (v:Value) (a:Act) (w:World),Sat ⟨c.B,c.I0,c.w0,c.n,{target:=.collected D,args:=#[]}::c.ds⟩ ⟨st.env,.obj D (.deferred (some []))::(H1++(Hs'++Hx))⟩ a w->Rel I w y v->Q (.panic [{v:=v,recovered:=false}]) a w):
  CW c r P (.rangeFunc (.tmp t) #[p] assign body) st Q:=by
 intro a w s;subst hr;obtain⟨I,hw,he,hh,hv⟩:=s.mem;rw[hH] at hh;refine wpIn_rangeFunc λfn hfn=>?_;obtain⟨lr,hlr⟩:∃lr:Loop,lr={state:=.ready,pending:=none,fn,tmps:=a.tmps,params:=#[p],assign,body,defers:=w.heap.size}:=⟨_,rfl⟩;have hgv:=hv t _ hg;generalize hu:a.tmps.getD t undef=u at hgv;cases hgv with
 | fn _ _ _ vf vc hf hc=>
 have hvf:vf= #[]:=by cases vf with | mk l=>cases hf;rfl
 subst hvf;have hh1:=hh.newObj hw (.deferred (some []));have hw1:=hw.alloc (.deferred (some []));have hv1:=hv.keep (keeps_alloc hw (.deferred (some [])));have hh2:=hh1.newLoop hw1 lr (envGet st.env) (by rw[hlr];exact hv1);have hw2:=hw1.alloc (.loop lr);rw[World.size_alloc] at hh2;have k2:Ext c.B I w I ((w.alloc (.deferred (some []))).alloc (.loop lr)):=(ext_alloc hw _).trans (ext_alloc hw1 _)
 let J':List α->List Ent->Prop:=λpre Hf=>∃H1,J pre H1/\Hf= .loop (w.heap.size+1) lr (envGet st.env)::.obj w.heap.size (.deferred (some []))::H1
 let Jx':List α->List Ent->Prop:=λpre Hf=>∃code H1,Jx code pre H1/\Hf= .loop (w.heap.size+1) {lr with state:=.done,pending:=some code} (envGet st.env)::.obj w.heap.size (.deferred (some []))::H1
 have hsz:a.tmps.size=c.n:=s.size;have hpn:p<c.n:=Nat.lt_of_succ_le (by simpa [Nat.blt] using hp);have hcb:CbOk c.B P (.fn (.yield (w.heap.size+1)) [] []) enc L (λ_=>True) J' Jx':=by
  rintro pre x Hf Hy hpx _ ⟨H1,hJ1,rfl⟩ I2 W v vs hwW hhW hvW hvs;obtain rfl:v= .func (.yield (w.heap.size+1)) #[] #[]:=by
   cases hvW with
   | fn _ _ _ vf vc hf hc=>
    cases vf with
    | mk lf=>cases vc with
     | mk lc=>cases hf;cases hc;rfl
  cases hvs with
  | cons _ v1 _ vs' hx1 ht=>
  cases ht;obtain⟨hBl,hbl,hρ,hnil⟩:=hhW.ok (.loop (w.heap.size+1) lr (envGet st.env)) Yx;have hy:=run_yield (P:=P) (args:=#[v1]) hbl (by rw[hlr];rfl);refine .inr ⟨_,rfl,fn,a.tmps.setIfInBounds p v1,assign,body,?_,?_⟩
  ·rw[hlr] at hy;simpa using hy
  ·refine roundIn_of_wpIn (F:=FW none) (n:=0) trivial ?_;have hhW':HeapOk c.B I2 W (.loop (w.heap.size+1) lr (envGet st.env)::.obj w.heap.size (.deferred (some []))::(H1++Hy)):=by
    simpa [List.append_assoc] using hhW
   have hst:Sat ⟨c.B,I2,W,c.n,[]⟩ ⟨(p,enc x)::st.env,.loop (w.heap.size+1) lr (envGet st.env)::.obj w.heap.size (.deferred (some []))::(H1++Hy)⟩ {tmps:=a.tmps.setIfInBounds p v1,defers:=[]} W:=by
    refine⟨rfl,by simpa using hsz,I2,hwW,Ext.refl _ _ _,hhW',?_⟩;refine envGet_zip (a:=a) (λt y hty=>?_) (by rw[hsz];exact hpn) hx1 [];have:=hρ t y hty;rw[hlr] at this;exact this
   refine wpIn_mono (assignOk (w.heap.size+1) I2 W x _ _ W hst) λe a3 W3 hp3=>?_;cases e with
   | normal=>
    obtain⟨st',rfl,s3⟩:=hp3;obtain⟨I3,hw3,he3,hh3,hv3⟩:=s3.mem;obtain⟨hBl3,hbl3,_,hni3⟩:=hh3.ok _ (.head _);refine⟨_,run_beginRound hbl3 (by rw[hlr]),?_⟩;have hh4:=hh3.putLoop (lp':={lr with state:=.busy}) (.head _ _ _) rfl;have he4:Ext c.B I3 W3 I3 (W3.putObj (w.heap.size+1) (.loop {lr with state:=.busy})):=Ext.putObj hBl3 hni3;have s4:Sat ⟨c.B,I2,W,c.n,[]⟩ ⟨env' x,.loop (w.heap.size+1) {lr with state:=.busy} (envGet st.env)::.obj w.heap.size (.deferred (some []))::(H1++Hy)⟩ a3 (W3.putObj (w.heap.size+1) (.loop {lr with state:=.busy})):=
     ⟨s3.ds,s3.size,I3,hw3.putObj hni3,he3.trans he4,hh4,hv3.keep he4.keeps⟩
    refine wpIn_mono (round _ _ _ pre x H1 Hy I2 W hpx hJ1 a3 _ s4) λe a5 W5 hp5=>?_;obtain⟨I5,H5,hw5,he5,hh5,hcase⟩:=hp5;obtain⟨hBl5,hbl5,_,hni5⟩:=hh5.ok _ (.head _);have fin:∀jp:Option Code,(Instr.endRound (w.heap.size+1) jp).run P W5= .ok (.bool jp.isNone) (W5.putObj (w.heap.size+1) (.loop {lr with state:=if jp.isNone then .ready else .done,pending:=jp}))/\
      ∀(b:Bool) (Hn:List Ent),b=jp.isNone->Hn= .loop (w.heap.size+1) {lr with state:=if jp.isNone then .ready else .done,pending:=jp} (envGet st.env)::.obj w.heap.size (.deferred (some []))::H5->(b=true->J' (pre++[x]) Hn)->(b=false->Jx' (pre++[x]) Hn)->
       RetP c.B I2 W (λy H'=>∃b H1,y= .b b/\H'=H1++Hy/\(b=true->J' (pre++[x]) H1)/\(b=false->Jx' (pre++[x]) H1)) (λ_ _=>False) (.returned (.bool jp.isNone)) (W5.putObj (w.heap.size+1) (.loop {lr with state:=if jp.isNone then .ready else .done,pending:=jp})):=by
     intro jp;refine⟨by have h9:=run_endRound (P:=P) jp hbl5;exact h9,λb Hn hb hHn h1 h2=>?_⟩;have hh6:=hh5.putLoop (lp':={lr with state:=if jp.isNone then .ready else .done,pending:=jp}) (.head _ _ _) rfl;refine⟨I5,Hn++Hy,hw5.putObj hni5,he5.trans (Ext.putObj hBl5 hni5),?_,.inl ⟨_,.b b,rfl,by rw[hb];exact .val _,b,Hn,rfl,rfl,h1,h2⟩⟩;rw[hHn];simpa [List.append_assoc] using hh6
    cases e with
    | normal=>
     obtain⟨e1,e2⟩:=fin none;exact⟨_,_,e1,e2 true _ rfl rfl (λ_=>⟨H5,hcase,by rw[hlr];rfl⟩) (λh=>by cases h)⟩
    | ret=>
     obtain⟨e1,e2⟩:=fin (some .ret);exact⟨_,_,e1,e2 false _ rfl rfl (λh=>by cases h) (λ_=>⟨.ret,H5,hcase,rfl⟩)⟩
    | exit id=>
     obtain⟨e1,e2⟩:=fin (some (.exit id));exact⟨_,_,e1,e2 false _ rfl rfl (λh=>by cases h) (λ_=>⟨.exit id,H5,hcase,rfl⟩)⟩
    | goto t=>exact hcase.elim
    | panic ch=>exact hcase.elim
    | outgrown=>exact hcase.elim
   | exit id=>exact hp3.elim
   | goto t=>exact hp3.elim
   | ret=>exact hp3.elim
   | panic ch=>exact hp3.elim
   | outgrown=>exact hp3.elim
 have hcall:=hseq J' Jx' _ _ _ hcb _ Hx ⟨H,hJ,rfl⟩ I _ (.func (.func f) #[] vc) [.func (.yield (w.heap.size+1)) #[] #[]] hw2 (by simpa using hh2) (.fn _ _ _ _ _ .nil (hc.keep k2.keeps)) (.cons _ _ _ _ (.fn _ _ _ _ _ .nil .nil) .nil);rcases hcall with⟨f',vf',vc',e1,hok,hcalls⟩ | ⟨l,e1,_⟩
 ·simp only[Value.func.injEq,Fn.func.injEq] at e1;obtain⟨rfl,rfl,rfl⟩:=e1;refine⟨w.heap.size+1,[{target:=.collected w.heap.size,args:=#[]}],(w.alloc (.deferred (some []))).alloc (.loop lr),{target:=.fn (.func f) vc,args:=#[.func (.yield (w.heap.size+1)) #[] #[]]},(w.alloc (.deferred (some []))).alloc (.loop lr),f,
   #[.func (.yield (w.heap.size+1)) #[] #[]]++vc,(w.alloc (.deferred (some []))).alloc (.loop lr),?_,?_,λ_ _=>trivial,?_,by simp[FW],?_⟩
  ·rw[hlr];exact run_enterLoop_outer fn a.tmps #[p] assign body
  ·have hev:a.eval (.tmp t)= .func (.func f) #[] vc:=hu;simp only[resolve,rangeCall,hev];simp[Deferred.ofValue,Act.eval]
  ·simp[invoke,run_callFunc hok]
  ·have e0:(#[]++[Value.func (Fn.yield (w.heap.size+1)) #[] #[]].toArray++vc)= #[Value.func (Fn.yield (w.heap.size+1)) #[] #[]]++vc:=by simp
   rw[e0] at hcalls;refine callsIn_FW (hcalls.mono λe W hR=>?_);obtain⟨I6,H6,hw6,he6,hh6,hor⟩:=hR;rcases hor with hor | hor
   ·obtain⟨v,y,rfl,_,hor⟩:=hor;obtain⟨Hn',Hs',rfl,hJn⟩:=hor;rcases hJn with⟨hns,H1,hJL,rfl⟩ | ⟨pre,hpre,code,H1,hJX,rfl⟩
    ·obtain⟨hB6,hb6,_,hni6⟩:=hh6.ok _ (.head _);have hpn6:lr.pending=none:=by rw[hlr]
     have hrun6:=run_endLoop (P:=P) hb6 (by rw[hlr];simp);rw[hpn6] at hrun6;refine⟨none,_,hrun6,?_⟩;have hh7:=(hh6.putLoop (lp':={lr with state:=.exhausted}) (.head _ _ _) rfl).tail;have he7:Ext c.B I6 W I6 (W.putObj (w.heap.size+1) (.loop {lr with state:=.exhausted})):=Ext.putObj hB6 hni6;rw[hpn6] at he7 hh7;refine done w.heap.size H1 Hs' hns hJL _ _ ⟨?_,s.size,I6,hw6.putObj hni6,(he.trans (k2.trans he6)).trans he7,hh7,(hv.keep (k2.trans he6).keeps).keep he7.keeps⟩;show _::a.defers=_;rw[s.ds]
    ·obtain⟨hB6,hb6,_,hni6⟩:=hh6.ok _ (.head _);refine⟨some code,_,run_endLoop (P:=P) hb6 Yx,?_⟩;have hh7:=(hh6.putLoop (lp':={lr with state:=.exhausted,pending:=some code}) (.head _ _ _) rfl).tail;have he7:Ext c.B I6 W I6 (W.putObj (w.heap.size+1) (.loop {lr with state:=.exhausted,pending:=some code})):=Ext.putObj hB6 hni6;refine jump w.heap.size code pre H1 Hs' hpre hJX _ _ ⟨?_,s.size,I6,hw6.putObj hni6,(he.trans (k2.trans he6)).trans he7,hh7,(hv.keep (k2.trans he6).keeps).keep he7.keeps⟩;show _::a.defers=_;rw[s.ds]
   ·obtain⟨v,y,rfl,hy,Hn',Hs',rfl,hown,H1,hJL,rfl⟩:=hor;refine pan w.heap.size y H1 Hs' hown hJL I6 v _ _ ⟨?_,s.size,I6,hw6,he.trans (k2.trans he6),hh6.tail,hv.keep (k2.trans he6).keeps⟩ hy;show _::a.defers=_;rw[s.ds]
 ·simp at e1
end
section
variable{P:Program}{c:Ctx}{r:Option Nat}{ops:Array Oper}{l rest:List Oper}{o:Oper}{env:List (Nat×AV)}{H:List Ent}{Q:Exit->Act->World->Prop}{d:Nat}
structure AV.Const(y:AV)(v:Value):Prop where
 is:∀(I:Imm) (w:World) (u:Value),Rel I w y u->u=v
 rel:∀(I:Imm) (w:World),Rel I w y v
def RCall(P:Program)(f:FuncId)(xs:List AV)(H:List Ent)(o:Option (AV×List Ent))(Hf:List Ent)(pv:AV):Prop:=
 ACall P f xs H (λy H'=>o=some (y,H')) (λy H'=>o=none/\y=pv/\H'=Hf)
theorem RCall.ok{f:FuncId}{xs:List AV}{H1 Hf:List Ent}{y pv:AV}(h:RCall P f xs H (some (y,H1)) Hf pv):ACall P f xs H (λy' H'=>y'=y/\H'=H1) (λ_ _=>False):=
 ACall.weak h (λ_ _ e=>by cases e;exact⟨rfl,rfl⟩) (λ_ _ ⟨e,_⟩=>by cases e)
theorem RCall.of{f:FuncId}{xs:List AV}{H1 Hf:List Ent}{y pv:AV}(h:ACall P f xs H (λy' H'=>y'=y/\H'=H1) (λ_ _=>False)):RCall P f xs H (some (y,H1)) Hf pv:=
 ACall.weak h (λ_ _ ⟨e,e'⟩=>by rw[e,e']) (λ_ _ e=>e.elim)
theorem OL.rcallS{f:FuncId}{xs:List AV}{H1 Hf:List Ent}{y pv:AV}(hg:o.guard=none)(hd:o.dst=some d)(hn:Nat.blt d c.n=true)(hc:CallOk P (envGet env) o f xs)(h:RCall P f xs H (some (y,H1)) Hf pv)
  (next:OL c r P ops rest ⟨(d,y)::env,H1⟩ Q):OL c r P ops (o::rest) ⟨env,H⟩ Q:=
 OL.bcallC hg hd hn hc h.ok.b (λ_ _ ⟨e,e'⟩=>by subst e;subst e';exact next)
theorem OL.rcallN{f:FuncId}{xs:List AV}{Hf:List Ent}{pv:AV}{v:Value}(hg:o.guard=none)(hd:dstOk c.n o.dst=true)(hc:CallOk P (envGet env) o f xs)(h:RCall P f xs H none Hf pv)(hv:pv.Const v)
  (next:Done c ⟨env,Hf⟩ (.panic [{v:=v,recovered:=false}]) Q):OL c r P ops (o::rest) ⟨env,H⟩ Q:=
 OL.bcall hg hd hc h.b (λ_ _ e=>by cases e) (λy H' ⟨_,e1,e2⟩ a w s I u hu=>by
  subst e1;subst e2;rw[hv.is I w u hu];exact next a w s)
theorem OL.panicC{x:Operand}{y:AV}{g:Bool}{t:TypeId}{v:Value}(hgd:o.guard=none)(h:o.op= .panic x)(hx:aev (envGet env) x=some (g,y))(hg:g=true)(hy:y.Const (.iface t v))
  (next:Done c ⟨env,H⟩ (.panic [{v:=.iface t v,recovered:=false}]) Q):OL c r P ops (o::rest) ⟨env,H⟩ Q:=OL.panicX hgd h hx hg hy.is next
theorem outP{B:Nat}{I0:Imm}{w0:World}{n:Nat}{fn:Func}{Φ:AV->List Ent->Prop}{E:AV->List Ent->Prop}{Hf:List Ent}{y:AV}{v:Value}(hy:y.Const v)(hH:Hf.Sublist H)(hE:E y Hf):
  ∀a w,Sat ⟨B,I0,w0,n,[]⟩ ⟨env,H⟩ a w->bodyPost P fn (RetP B I0 w0 Φ E) (.panic [{v:=v,recovered:=false}]) a w:=
 λa w s=>let ⟨J,hw,he,hh,_⟩:=s.mem;⟨s.ds,J,Hf,hw,he,hh.sub hH,.inr ⟨v,y,rfl,hy.rel _ _,hE⟩⟩
theorem outM{B D:Nat}{I0:Imm}{w0:World}{n:Nat}{fn:Func}{Φ:AV->List Ent->Prop}{E:AV->List Ent->Prop}{Hf H'':List Ent}{y:AV}{v:Value}(hy:y.Const v)(hD:Del H (.obj D (.deferred (some []))) H'')(hH:Hf.Sublist H'')(hE:E y Hf):
  ∀a w,Sat ⟨B,I0,w0,n,[mark D]⟩ ⟨env,H⟩ a w->bodyPostM (FW none) 0 P fn (RetP B I0 w0 Φ E) (.panic [{v:=v,recovered:=false}]) a w:=
 λa w s=>panM hD hH hE s hy.rel
def strOf(ns:List Int):ByteArray:=⟨(ns.map λn=>UInt8.ofNat n.toNat).toArray⟩
theorem fold_strOf:∀(ns:List Int) (b:ByteArray),ns.foldl (λr n=>r.push (UInt8.ofNat n.toNat)) b=⟨b.data++(ns.map λn=>UInt8.ofNat n.toNat).toArray⟩
 | [],b=>by simp
 | n::ns,b=>by
  rw[List.foldl_cons,fold_strOf ns];congr 1;apply Array.ext';simp[ByteArray.push]
def bytesStr(P:Program)(src dst:TypeId):Bool:=match P.underlying src,P.underlying dst with
 | some (.slice e),some .string=>(match P.underlying e with | some (.int .u8)=>true | _=>false)
 | _,_=>false
theorem bytesStr_spec{src dst:TypeId}(h:bytesStr P src dst=true):∃e,P.underlying src=some (.slice e)/\P.underlying dst=some .string/\P.underlying e=some (.int .u8):=by
 unfold bytesStr at h;split at h
 ·rename_i e h1 h2;split at h
  ·rename_i h3;exact⟨e,h1,h2,h3⟩
  ·cases h
 ·cases h
theorem POp.bytesStr{ρ:Nat->Option AV}{src dst:TypeId}{x:Operand}{g:Bool}{ns:List Int}(h:o.op= .convert src dst x)(hx:aev ρ x=some (g,.sl 1 (ns.map λn=>[.val (.int .u8 n)])))(hg:g=true)(hb:bytesStr P src dst=true):
  POp P H ρ o (.val (.string (strOf ns))):=by
 refine .same YC λI w f ho=>?_;obtain⟨e,h1,h2,h3⟩:=bytesStr_spec hb;have hr:=ho.get Ym hx hg;refine⟨.string (strOf ns),?_,.val _⟩;generalize hu:f.eval x=u at hr;have fin:∀b off n c,u= .slice (some ⟨b,off,none⟩) n c->ns.length=n->(∀(j:Nat) (v:Value),(ns.map (Value.int .u8))[j]? =some v->w.cell? ⟨b,off+j,none⟩=some v)->(execOp f.eval o).run P w= .ok (.value (.string (strOf ns))) w:=by
  rintro b off n c rfl hl hc;have hld:=run_loadCells_list (P:=P) w ⟨b,off,none⟩ (ns.map (Value.int .u8)) (λj v hj=>by rw[Addr.add_lit];exact hc j v hj);rw[List.length_map,hl] at hld;have hs:=run_bytesToString (P:=P) w ⟨b,off,none⟩ n c ns hld;rw[fold_strOf] at hs;have e3:(⟨ByteArray.empty.data++(ns.map λn=>UInt8.ofNat n.toNat).toArray⟩:ByteArray)=strOf ns:=by unfold strOf;congr 1;apply Array.ext';rw[Array.toList_append];rfl
  rw[e3] at hs;simp[execOp,h,hu,convert,run_underlying h1,run_underlying h2,run_underlying h3,hs]
 generalize hm:(ns.map λn=>[AV.val (.int .u8 n)])=els at hr;cases hr with
 | sl0 _ a c=>
  have:ns= []:=by simpa using hm
  subst this;have e0:strOf []=ByteArray.empty:=rfl;rw[e0];cases a with
  | none=>simp[execOp,h,hu,convert,run_underlying h1,run_underlying h2,run_underlying h3,Conv.bytesToString]
  | some a=>
   have hld:=run_loadCells_list (P:=P) w a [] (λj v hj=>by simp at hj);have hs:=run_bytesToString (P:=P) w a 0 c [] hld;simp[execOp,h,hu,convert,run_underlying h1,run_underlying h2,run_underlying h3,hs]
 | sl _ _ b off len cap hl hc hmx he=>
  refine fin b off len cap rfl (by rw[<-hl, <-hm];simp) λj v hj=>?_;have hj':∃n,ns[j]? =some n/\v= .int .u8 n:=by
   rw[List.getElem?_map] at hj;cases hn:ns[j]? with
   | none=>rw[hn] at hj;cases hj
   | some n=>rw[hn] at hj;simp at hj;exact⟨n,rfl,hj.symm⟩
  obtain⟨n,hn,rfl⟩:=hj';have hget:els[j]? =some [AV.val (.int .u8 n)]:=by rw[<-hm,List.getElem?_map,hn];rfl
  obtain⟨_,hcell⟩:=he.get hget;obtain⟨v,q1,_,q2⟩:=hcell.get (i:=0) (x:=.val (.int .u8 n)) rfl;rw[rel_val q2] at q1;simpa using q1
theorem POp.eqS{ρ:Nat->Option AV}{t t':TypeId}{x y:Operand}{a b:ByteArray}{gx gy:Bool}(h:o.op= .binOp .eql t x y t')(hx:aev ρ x=some (gx,.val (.string a)))(hy:aev ρ y=some (gy,.val (.string b)))
  (hgx:gx=true) (hgy:gy=true):POp P H ρ o (.b (a.data.toList==b.data.toList)):=by
 refine .same YC λI w f ho=>?_;have h1:=rel_val (ho.get Ym hx hgx);have h2:=rel_val (ho.get Ym hy hgy);exact⟨.bool (a.data.toList==b.data.toList),by simp[execOp,h,h1,h2,eqGuard,binOp,Op.stringOp,ByteArray.toList_eq],.val _⟩
theorem strOf_eq(l m:List (Fin 256)):((strOf (l.map λx=>(x.val:Int))).data.toList==(strOf (m.map λx=>(x.val:Int))).data.toList)=(l==m):=by
 have e:∀l:List (Fin 256),(strOf (l.map λx=>(x.val:Int))).data.toList=l.map λx=>UInt8.ofNat x.val:=λl=>by simp[strOf,Function.comp_def]
 rw[e,e];have inj:∀x y:Fin 256,UInt8.ofNat x.val=UInt8.ofNat y.val->x=y:=λx y h=>by
  have:=congrArg UInt8.toNat h;simp only[UInt8.toNat_ofNat'] at this;ext;omega
 by_cases h:l=m
 ·subst h;simp
 ·rw[beq_eq_false_iff_ne.2 h,beq_eq_false_iff_ne.2 λk=>h ((List.map_inj_right inj).1 k)]
theorem run_slTo3{t:TypeId}{k:Nat}(ht:slSize P t=some k)(a:Option Addr)(len cap n:Nat)(kh km:IntKind)(h1:n<=cap)(w:World):
  (Instr.sliceAt t (.slice a len cap) none (some (.int kh (n:Int))) (some (.int km (n:Int)))).run P w= .ok (.slice a n n) w:=by
 obtain⟨e,inf,hu,hi',hk⟩:=slSize_spec ht;cases n with
 | zero=>simp[Instr.sliceAt,Instr.slice,run_underlying hu,Instr.sliceBounds,Instr.sliceBound,asIntOf,sizeOf,typeInfo,hi',hk]
 | succ n=>
  cases a with
  | none=>
   have h2:(n:Int)+1<=cap:=by omega
   simp[Instr.sliceAt,Instr.slice,run_underlying hu,Instr.sliceBounds,Instr.sliceBound,asIntOf,sizeOf,typeInfo,hi',hk,h1,h2,show (0:Int)<=(n:Int)+1 by omega]
  | some a=>
   have h2:(n:Int)+1<=cap:=by omega
   simp[Instr.sliceAt,Instr.slice,run_underlying hu,Instr.sliceBounds,Instr.sliceBound,asIntOf,sizeOf,typeInfo,hi',hk,h1,h2,show (0:Int)<=(n:Int)+1 by omega,Addr.add]
theorem POp.slTo3{α:Type}{F:List α->List (List AV)}{enc:α->List AV}{xs:List α}{ρ:Nat->Option AV}{t:TypeId}{x y z:Operand}{k:Nat}{n:Nat}{gx gh gm:Bool}{kh km:IntKind}[ht:HasSl P t k][hF:MapLike F enc](h:o.op= .slice t x none (some y) (some z))(hx:aev ρ x=some (gx,.sl k (F xs)))(hgx:gx=true)
  (hhi:aev ρ y=some (gh,.val (.int kh (n:Int)))) (hgh:gh=true) (hmx:aev ρ z=some (gm,.val (.int km (n:Int)))) (hgm:gm=true) (h1:n<=xs.length):POp P H ρ o (.sl k (F (xs.take n))):=by
 rw[hF.h] at hx;rw[hF.h];refine .same YC λI w f ho=>?_;have r1:=ho.get Ym hx hgx;have r2:=rel_val (ho.get Ym hhi hgh);have r3:=rel_val (ho.get Ym hmx hgm);generalize hu:f.eval x=u at r1;rw[List.map_take];have hl':n<=(xs.map enc).length:=by simpa using h1
 revert r1 hl';generalize xs.map enc=els;intro r1 hl';cases r1 with
 | sl0 _ a c=>
  have hn0:n=0:=by simpa using hl'
  have e1:(execOp f.eval o).run P w= .ok (.value (.slice a n n)) w:=by
   have:=run_slTo3 ht.h a 0 c n kh km Yd w;simp[execOp,h,hu,r2,r3,this]
  subst hn0;exact⟨_,e1,.sl0 _ _ _⟩
 | sl _ _ b off len cap hl hc hm he=>
  have hn:n<=cap:=by omega
  have e1:(execOp f.eval o).run P w= .ok (.value (.slice (some ⟨b,off,none⟩) n n)) w:=by
   have:=run_slTo3 ht.h (some ⟨b,off,none⟩) len cap n kh km hn w;simp[execOp,h,hu,r2,r3,this]
  exact⟨_,e1,.sl _ _ b off n n (by rw[List.length_take];omega) (Nat.le_refl _) Yd (he.take n)⟩
end
def PM(H:List Ent)(q:Nat):(Nat->Bool)->Mem:=λS B _ I w=>S q=false/\HeapOk B I w H
def PanX(v:Value)(Hf:List Ent):PX:=λB I w ch w'=>ch= [{v:=v,recovered:=false}]/\∃J,WOk B J w'/\Ext B I w J w'/\HeapOk B J w' Hf
section
variable{c:Ctx}{r:Option Nat}{P:Program}{l:List Oper}{Q:Exit->Act->World->Prop}
theorem DP.anyPan{env:List (Nat×AV)}{H Hf:List Ent}{v:Value}(q k m n:Nat)(hn:c.n=n)(hchk:segChk l k m=true)(hq:(Nat.ble k q && Nat.blt q m)=true)(hml:Nat.ble m l.length=true)(hlk:(l.all λo=>(looks l o).all λt=>Nat.blt t n)=true)
  (pan:∀env,Done c ⟨env,Hf⟩ (.panic [{v:=v,recovered:=false}]) Q)
  (h:UDX (PanX v Hf) P (PM H q) l c.n k ((l.drop k).take (m - k)) env λ_=>True):DP c r P l Q k ⟨env,H⟩:=by
 simp only[Bool.and_eq_true] at hq;have h1:=Nat.le_of_ble_eq_true hq.1;have h2:q<m:=Nat.lt_of_succ_le (by simpa [Nat.blt] using hq.2);refine DP.anyUX (M:=PM H q) hchk Yd (Nat.le_of_ble_eq_true hml) Ybh (λB a I w hh=>⟨by rw[Bool.eq_false_iff];intro hb;have:=Nat.lt_of_succ_le Ya9;omega,hh⟩) ?_ (h.mono λenv _ a w I _ _ _ _ hm _=>?_)
 ·rintro I w a ch w' hd hs hw he ⟨rfl,J,j1,j2,j3⟩;exact pan [] a w' ⟨hd,hs,J,j1,he.trans j2,j3,λt x hx=>by simp[envGet] at hx⟩
 ·have h3:Nat.blt q m=false:=hm.1;rw[hq.2] at h3;cases h3
end
section
variable{P:Program}{L rest:List Oper}{n i d q:Nat}{o:Oper}{env:List (Nat×AV)}{K:List (Nat×AV)->Prop}{x:AV}{H Hf:List Ent}{X:PX}
theorem UD.popP(hi:Nat.beq i q=false)(hg:o.guard=none)(hd:o.dst=some d)(hn:Nat.blt d n=true)(h:POp P H (envGet env) o x)(next:UDX X P (PM H q) L n (i+1) rest ((d,x)::env) K):UDX X P (PM H q) L n i (o::rest) env K:=
 ⟨x,λS hshut hmask hSi=>EOkX.of hg (λB I w r a hw hm ho hz=>by
  have hne:q≠i:=λe=>by subst e;simp at hi
  exact (h B I w r a _ hw hm.2 (λe he=>he) ho).mono (λv w' ⟨I',a1,a2,a3,a4⟩=>⟨I',a1,a2,⟨by rw[addS_other hne];exact hm.1,a3⟩,a4⟩) (λ_ _ h=>h.elim)),dstOk_of hd hn,YU⟩
theorem UD.waitP(hm:((masks L []).getD i 0).testBit q=true)(hg:o.guard=none)(hd:dstOk n o.dst=true)(next:UDX X P (PM H q) L n (i+1) rest (putEnv o.dst .any env) K):UDX X P (PM H q) L n i (o::rest) env K:=
 ⟨.any,λS hshut hmask hSi=>EOkX.of hg (λB I w r a hw hmem ho hz=>by
  have:=hmask q hm;rw[hmem.1] at this;cases this),hd,next⟩
theorem UD.panP{f:FuncId}{xs:List AV}{pv:AV}{v:Value}(hi:Nat.beq i q=true)(hg:o.guard=none)(hd:dstOk n o.dst=true)(hc:CallOk P (envGet env) o f xs)(h:RCall P f xs H none Hf pv)(hv:pv.Const v)
  (next:UDX (PanX v Hf) P (PM H q) L n (i+1) rest (putEnv o.dst .any env) K):UDX (PanX v Hf) P (PM H q) L n i (o::rest) env K:=
 ⟨.any,λS hshut hmask hSi=>EOkX.of hg (λB I w r a hw hm ho hz=>by
  obtain⟨vs,h1,h2⟩:=hc.run I w a ho;obtain⟨hok,hcall⟩:=h;refine Runs.of_enter hc.nodefer (h2 hok) ((hcall B I w vs hw hm.2 h1).mono λe w' hr=>?_);obtain⟨I',H',b1,b2,b3,hr⟩:=hr;rcases hr with⟨v',x',rfl,_,e⟩ | ⟨v',x',rfl,hx,_,rfl,rfl⟩
  ·cases e
  ·rw[hv.is _ _ _ hx];exact⟨rfl,I',b1,b2,b3⟩),hd,next⟩
end
section
variable{P:Program}{H:List Ent}{ρ:Nat->Option AV}{o:Oper}{x:AV}{G:Type}
theorem FOk.rcall{f:FuncId}{xs:List AV}{H1 Hf:List Ent}{pv:AV}{H':G->Value->List Ent}(g:G)(hc:CallOk P ρ o f xs)(h:RCall P f xs H (some (x,H1)) Hf pv)(hH:∀v,H' g v=H1):FOk P H H' ρ o x:=
 FOk.bcall hc (λB=>h.ok.b) λy H2 ⟨e1,e2⟩=>⟨g,e1,λv=>by rw[hH,e2]⟩
end
section
variable{c:Ctx}{r:Option Nat}{P:Program}{st:St}{Q:Exit->Act->World->Prop}
theorem CW.eqH{p:Code}{H':List Ent}(hp:st.H=H')(h:CW c r P p ⟨st.env,H'⟩ Q):CW c r P p st Q:=CW.perm (.of_eq hp) h
theorem Done.eqH{e:Exit}{H':List Ent}(hp:st.H=H')(h:Done c ⟨st.env,H'⟩ e Q):Done c st e Q:=Done.perm (.of_eq hp) h
end
section
variable{P:Program}{f:FuncId}{fs xs cs:List AV}{H H1 Hf:List Ent}{y pv:AV}{B:Nat}
theorem RCall.vS(h:RCall P f (fs++xs++cs) H (some (y,H1)) Hf pv):VCall B P (.fn (.func f) fs cs) xs H (λ_ H'=>H'=H1) (λ_ _=>False):=
 VCall.fn (ACall.weak h.ok (λ_ _ e=>e.2) (λ_ _ e=>e))
theorem RCall.vN(h:RCall P f (fs++xs++cs) H none Hf pv):VCall B P (.fn (.func f) fs cs) xs H (λ_ _=>False) (λy H'=>y=pv/\H'=Hf):=
 VCall.fn (ACall.weak (show ACall P f _ H _ _ from h) (λ_ _ e=>by cases e) (λ_ _ e=>e.2))
end
abbrev Js:=List (Option Value)
def kvals(xs:Nat->Js->AV)(J:Js):Nat->List CE->List Bool->List (Nat×AV)
 | q,e::es,true::p=>(e.d,xs q J)::kvals xs J (q+1) es p
 | q,_::es,false::p=>kvals xs J (q+1) es p
 | _,_,_=>[]
def KM(HS:Js->List Ent)(xs:Nat->Js->AV)(es:List CE)(S:Nat->Bool):Mem:=λB a I w=>
 HeapOk B I w (HS (CE.inst es (CE.pat es S) λd=>a.tmps.getD d undef))/\∀q e,es[q]? =some e->S e.i=true->Rel I w (xs q (CE.inst es (CE.pat es S) λd=>a.tmps.getD d undef)) (a.tmps.getD e.d undef)
theorem kvals_get{xs:Nat->Js->AV}{J:Js}{env:List (Nat×AV)}{t:Nat}{y:AV}{S:Nat->Bool}:∀(es:List CE) (q:Nat),envGet (kvals xs J q es (CE.pat es S)++env) t=some y->(∃j e,es[j]? =some e/\S e.i=true/\e.d=t/\y=xs (q+j) J)\/envGet env t=some y
 | [],q,h=>.inr h
 | e::es,q,h=>by
  simp only[CE.pat,List.map_cons] at h;cases hb:S e.i with
  | true=>
   rw[hb] at h;simp only[kvals,List.cons_append,envGet_cons] at h;split at h
   ·rename_i e1;cases h;exact .inl ⟨0,e,rfl,hb,e1.symm,rfl⟩
   ·rcases kvals_get es (q+1) h with⟨j,e',h1,h2,h3,h4⟩ | h
    ·exact .inl ⟨j+1,e',h1,h2,h3,by rw[h4,show q+1+j=q+(j+1) by omega]⟩
    ·exact .inr h
  | false=>
   rw[hb] at h;rcases kvals_get es (q+1) h with⟨j,e',h1,h2,h3,h4⟩ | h
   ·exact .inl ⟨j+1,e',h1,h2,h3,by rw[h4,show q+1+j=q+(j+1) by omega]⟩
   ·exact .inr h
theorem ops_kvals{I:Imm}{w:World}{a:Act}{o:Oper}{env:List (Nat×AV)}{xs:Nat->Js->AV}{J:Js}{S:Nat->Bool}{es:List CE}(hk:∀q e,es[q]? =some e->S e.i=true->Rel I w (xs q J) (a.tmps.getD e.d undef))(h:OpsOk I w (envGet env) a o):
  OpsOk I w (envGet (kvals xs J 0 es (CE.pat es S)++env)) a o:=λx hx y hy=>by
 cases x with
 | tmp u=>
  simp only[aeval] at hy;rcases kvals_get es 0 hy with⟨j,e,h1,h2,h3,h4⟩ | hy
  ·have:=hk j e h1 h2;rw[Nat.zero_add] at h4;rw[h4, <-h3];exact this
  ·exact h _ hx y hy
 | const v=>exact h _ hx y hy
 | global g=>exact h _ hx y hy
 | func f=>exact h _ hx y hy
def KOk(X:PX)(P:Program)(H:List Ent)(H':Value->List Ent)(x:Value->AV)(ρ:Nat->Option AV)(o:Oper):Prop:=∀(B:Nat) (I:Imm) (w:World) (r:Option Nat) (a:Act),WOk B I w->HeapOk B I w H->OpsOk I w ρ a o->
 Runs P r o a w (λv w'=>∃I',WOk B I' w'/\Ext B I w I' w'/\HeapOk B I' w' (H' v)/\Rel I' w' (x v) v) (X B I w)
section
variable{c:Ctx}{r:Option Nat}{P:Program}{l:List Oper}{Q:Exit->Act->World->Prop}{X:PX}
theorem DP.anyK{env:List (Nat×AV)}{H:List Ent}(es:List CE)(HS:Js->List Ent)(xs:Nat->Js->AV)(k m n:Nat)(hn:c.n=n)(hchk:segChk l k m=true)(hes:(es.all λe=>Nat.ble k e.i && Nat.blt e.i m)=true)(hkm:Nat.ble k m=true)(hml:Nat.ble m l.length=true)(hlk:(l.all λo=>(looks l o).all λt=>Nat.blt t n)=true)
  (h0:HS (es.map λ_=>none)=H)
  (pan:∀(I:Imm) (w:World) (a:Act) ch w',a.defers=c.ds->a.tmps.size=c.n->WOk c.B I w->Ext c.B c.I0 c.w0 I w->X c.B I w ch w'->Q (.panic ch) a w')
  (h:UDX X P (KM HS xs es) l c.n k ((l.drop k).take (m - k)) env λenv=>∀(f:Nat->Value),DP c r P l Q m ⟨kvals xs (es.map λe=>some (f e.d)) 0 es (es.map λ_=>true)++env,HS (es.map λe=>some (f e.d))⟩):DP c r P l Q k ⟨env,H⟩:=by
 simp only[List.all_eq_true,Bool.and_eq_true] at hes;have blk:∀i,Nat.ble k i=true->Nat.blt i k=false:=λi hi=>by
  have h1:=Nat.le_of_ble_eq_true hi;rw[Bool.eq_false_iff];intro hb;have:=Nat.lt_of_succ_le Ya9;omega
 refine DP.anyUX (M:=KM HS xs es) hchk (Nat.le_of_ble_eq_true hkm) (Nat.le_of_ble_eq_true hml) Ybh (λB a I w hh=>⟨?_,λq e he hs=>?_⟩) pan (h.mono λenv hd a w I q1 q2 q3 q4 q5 q6=>?_)
 ·have e:CE.inst es (CE.pat es λi=>Nat.blt i k) (λd=>a.tmps.getD d undef)=es.map λ_=>none:=by
   rw[inst_pat];exact List.map_congr_left λe he=>by rw[blk _ (hes e he).1];rfl
  rw[e,h0];exact hh
 ·have h3:Nat.blt e.i k=true:=hs;rw[blk _ (hes e (List.mem_of_getElem? he)).1] at h3;cases h3
 ·obtain⟨hh,hr⟩:=q5;have e:CE.inst es (CE.pat es λi=>Nat.blt i m) (λd=>a.tmps.getD d undef)=es.map λe=>some (a.tmps.getD e.d undef):=by
   rw[inst_pat];exact List.map_congr_left λe he=>by rw[(hes e he).2];rfl
  have e2:CE.pat es (λi=>Nat.blt i m)=es.map λ_=>true:=List.map_congr_left λe he=>(hes e he).2;rw[e] at hh hr;refine hd (λd=>a.tmps.getD d undef) a w ⟨q1,q2,I,q3,q4,hh,λt y hy=>?_⟩;rw[<-e2] at hy;rcases kvals_get es 0 hy with⟨j,e',h1,h2,h3,h4⟩ | hy
  ·have:=hr j e' h1 h2;rw[Nat.zero_add] at h4;rw[h4, <-h3];exact this
  ·exact q6 t y hy
end
section
variable{P:Program}{L rest:List Oper}{es:List CE}{n i d:Nat}{o:Oper}{env:List (Nat×AV)}{K:List (Nat×AV)->Prop}{x:AV}{HS:Js->List Ent}{xs:Nat->Js->AV}{X:PX}
theorem UD.popK(pats:List (List Bool))(hi:(es.all λe=>!Nat.beq e.i i && !Nat.beq e.d d)=true)(hf:CE.fits L es i pats=true)(hg:o.guard=none)(hd:o.dst=some d)(hn:Nat.blt d n=true)
  (h:AllP pats λp=>∀f,POp P (HS (CE.inst es p f)) (envGet (kvals xs (CE.inst es p f) 0 es p++env)) o x) (next:UDX X P (KM HS xs es) L n (i+1) rest ((d,x)::env) K):UDX X P (KM HS xs es) L n i (o::rest) env K:=
 ⟨x,λS hshut hmask hSi=>EOkX.of hg (λB I w r a hw hm ho hz=>by
  obtain⟨hm,hr⟩:=hm;simp only[List.all_eq_true,Bool.and_eq_true,Bool.not_eq_true'] at hi;have ne:∀{a b:Nat},Nat.beq a b=false->a≠b:=λh e=>by subst e;simp at h
  refine (h.at _ (CE.fits_of hf hshut hmask hSi) (λd=>a.tmps.getD d undef) B I w r a _ hw hm (λe he=>he) (ops_kvals hr ho)).mono (λv w' ⟨I',a1,a2,a3,a4⟩=>⟨I',a1,a2,?_,a4⟩) (λ_ _ h=>h.elim);have e:CE.inst es (CE.pat es (addS S i)) (λd=>(a.put o.dst v).tmps.getD d undef)=CE.inst es (CE.pat es S) (λd=>a.tmps.getD d undef):=by
   rw[inst_pat,inst_pat];exact List.map_congr_left λe he=>by rw[addS_other (ne (hi e he).1),hd,tmps_put_other (ne (hi e he).2)]
  refine⟨by rw[e];exact a3,λq e' he' hs=>?_⟩;have hme:=List.mem_of_getElem? he';rw[e,show (a.put o.dst v).tmps.getD e'.d undef=a.tmps.getD e'.d undef by rw[hd,tmps_put_other (ne (hi e' hme).2)]];rw[addS_other (ne (hi e' hme).1)] at hs;exact (hr q e' he' hs).keep a2.keeps),dstOk_of hd hn,YU⟩
theorem UD.effK(q:Nat)(pats:List (List Bool)){e:CE}(he:es[q]? =some e)(hi:e.i=i)(ho:((es.take q++es.drop (q+1)).all λe'=>!Nat.beq e'.i i && !Nat.beq e'.d e.d)=true)(hf:CE.fits L es i pats=true)(hg:o.guard=none)(hd:o.dst=some e.d)(hn:Nat.blt e.d n=true)
  (h:AllP pats λp=>∀f,KOk X P (HS (CE.inst es p f)) (λv=>HS ((CE.inst es p f).set q (some v))) (λv=>xs q ((CE.inst es p f).set q (some v))) (envGet (kvals xs (CE.inst es p f) 0 es p++env)) o/\∀v q',p[q']? =some true->xs q' ((CE.inst es p f).set q (some v))=xs q' (CE.inst es p f))
  (next:UDX X P (KM HS xs es) L n (i+1) rest ((e.d,.any)::env) K):UDX X P (KM HS xs es) L n i (o::rest) env K:=
 ⟨.any,λS hshut hmask hSi=>EOkX.of hg (λB I w r a hw hm hops hz=>by
  obtain⟨hm,hr⟩:=hm;simp only[List.all_eq_true,Bool.and_eq_true,Bool.not_eq_true'] at ho;have ne:∀{a b:Nat},Nat.beq a b=false->a≠b:=λh e=>by subst e;simp at h
  obtain⟨hk,hst⟩:=h.at _ (CE.fits_of hf hshut hmask hSi) (λd=>a.tmps.getD d undef);refine (hk B I w r a hw hm (ops_kvals hr hops)).mono (λv w' ⟨I',a1,a2,a3,a4⟩=>⟨I',a1,a2,?_,.any _⟩) (λ_ _ h=>h);have hoth:∀q' e',q'≠q->es[q']? =some e'->e'.i≠e.i/\(a.put o.dst v).tmps.getD e'.d undef=a.tmps.getD e'.d undef:=λq' e' hq he'=>by
   have hm':e'∈es.take q++es.drop (q+1):=by
    rw[List.mem_append];rcases Nat.lt_or_gt_of_ne hq with h1 | h1
    ·exact .inl (List.mem_of_getElem? (i:=q') (by rw[List.getElem?_take,if_pos h1];exact he'))
    ·exact .inr (List.mem_of_getElem? (i:=q' - (q+1)) (by rw[List.getElem?_drop,show q+1+(q' - (q+1))=q' by omega];exact he'))
   refine⟨by rw[hi];exact ne (ho _ hm').1,?_⟩;rw[hd];exact tmps_put_other (ne (ho _ hm').2)
  have hval:(a.put o.dst v).tmps.getD e.d undef=v:=by rw[hd];exact tmps_put_same (hz _ hd)
  have hset:=inst_set (es:=es) (S:=S) (f:=λd=>a.tmps.getD d undef) (f':=λd=>(a.put o.dst v).tmps.getD d undef) (u:=v) he hval hoth;rw[<-hi];refine⟨by rw[hset];exact a3,λq' e' he' hs=>?_⟩;rw[hset];by_cases hq:q'=q
  ·subst hq;rw[he] at he';cases he';rw[hval];exact a4
  ·obtain⟨o1,o2⟩:=hoth q' e' hq he';rw[addS_other o1] at hs;rw[o2,hst v q' (by rw[CE.pat,List.getElem?_map,he'];exact congrArg some hs)];exact (hr q' e' he' hs).keep a2.keeps),dstOk_of hd hn,YU⟩
end
section
variable{P:Program}{H:List Ent}{ρ:Nat->Option AV}{o:Oper}{X:PX}
theorem KOk.rcall{f:FuncId}{ys:List AV}{H1 Hf:List Ent}{y pv:AV}{H':Value->List Ent}{x:Value->AV}(hc:CallOk P ρ o f ys)(h:RCall P f ys H (some (y,H1)) Hf pv)(hH:∀v,H' v=H1)(hx:∀v,x v=y):KOk X P H H' x ρ o:=λB I w r a hw hh ho=>
 (bcall_runs (c:=⟨B,I,w,0,[]⟩) hc (h.ok.b) hw hh ho).mono (λv w' hR=>by
  obtain⟨I',H2,z,a1,a2,a3,a4,a5,a6⟩:=hR;subst a5;subst a6;exact⟨I',a1,a2,by rw[hH];exact a3,by rw[hx];exact a4⟩) (λ_ _ h=>h.elim)
theorem KOk.bcall{f:FuncId}{ys:List AV}{Φ:AV->List Ent->Prop}{H':Value->List Ent}{x:Value->AV}(hc:CallOk P ρ o f ys)(h:∀B,BCall B P f ys H Φ (λ_ _=>False))(hq:∀v y H1,Φ y H1->H' v=H1/\x v=y):KOk X P H H' x ρ o:=λB I w r a hw hh ho=>
 (bcall_runs (c:=⟨B,I,w,0,[]⟩) hc (h B) hw hh ho).mono (λv w' hR=>by
  obtain⟨I',H2,z,a1,a2,a3,a4,a5⟩:=hR;obtain⟨e1,e2⟩:=hq v _ _ a5;exact⟨I',a1,a2,by rw[e1];exact a3,by rw[e2];exact a4⟩) (λ_ _ h=>h.elim)
theorem KOk.pan{f:FuncId}{ys:List AV}{Hf:List Ent}{pv:AV}{v0:Value}{H':Value->List Ent}{x:Value->AV}(hc:CallOk P ρ o f ys)(h:RCall P f ys H none Hf pv)(hv:pv.Const v0):KOk (PanX v0 Hf) P H H' x ρ o:=λB I w r a hw hh ho=>by
 obtain⟨vs,h1,h2⟩:=hc.run I w a ho;obtain⟨hok,hcall⟩:=h;refine Runs.of_enter hc.nodefer (h2 hok) ((hcall B I w vs hw hh h1).mono λe w' hr=>?_);obtain⟨I',H1,b1,b2,b3,hr⟩:=hr;rcases hr with⟨v',x',rfl,_,e⟩ | ⟨v',x',rfl,hx,_,rfl,rfl⟩
 ·cases e
 ·rw[hv.is _ _ _ hx];exact⟨rfl,I',b1,b2,b3⟩
theorem KOk.pop{y:AV}{H':Value->List Ent}{x:Value->AV}(h:POp P H ρ o y)(hH:∀v,H' v=H)(hx:∀v,x v=y):KOk X P H H' x ρ o:=λB I w r a hw hh ho=>
 (h B I w r a _ hw hh (λe he=>he) ho).mono (λv w' ⟨I',a1,a2,a3,a4⟩=>⟨I',a1,a2,by rw[hH];exact a3,by rw[hx];exact a4⟩) (λ_ _ h=>h.elim)
theorem KOk.sto{H1:List Ent}{H':Value->List Ent}{x:Value->AV}(h:SOk P H H1 ρ o)(hH:∀v,H' v=H1)(hx:∀v,x v= .any):KOk X P H H' x ρ o:=λB I w r a hw hh ho=>
 (h B I w r a hw hh ho).mono (λv w' ⟨I',a1,a2,a3⟩=>⟨I',a1,a2,by rw[hH];exact a3,by rw[hx];exact .any _⟩) (λ_ _ h=>h.elim)
abbrev noMem:List Ent:=[.obj 0 (.deferred none),.obj 0 (.deferred (some []))]
theorem noMem_no{B:Nat}{I:Imm}{w:World}{Hc:List Ent}(h:HeapOk B I w Hc)(hm:∀e∈noMem,e∈Hc):False:=by
 have h1:=(h.ok _ (hm _ (.head _))).2.1;have h2:=(h.ok _ (hm _ (.tail _ (.head _)))).2.1;rw[h1] at h2;cases h2
theorem Sat.no{c:Ctx}{env:List (Nat×AV)}{a:Act}{w:World}(s:Sat c ⟨env,noMem⟩ a w):False:=let ⟨_,_,_,hh,_⟩:=s.mem;noMem_no hh λ_ h=>h
theorem KOk.no{H':Value->List Ent}{x:Value->AV}:KOk X P noMem H' x ρ o:=λB I w r a hw hh ho=>(noMem_no hh λ_ h=>h).elim
theorem POp.no{x:AV}:POp P noMem ρ o x:=λB I w r a Hc hw hh hs ho=>(noMem_no hh hs).elim
theorem KOk.box{t:TypeId}{z:Operand}{y:AV}{g:Bool}{H':Value->List Ent}{x:Value->AV}(h:o.op= .box t z)(hz:aev ρ z=some (g,y))(hg:g=true)(hb:bOk y=true)(hH:∀v,H' v= .blk (blkOf v) t (bcells y)::H)(hx:∀v,x v= .p (blkOf v) 0):KOk X P H H' x ρ o:=λB I w r a hw hh ho=>by
 have h1:=bcells_rel (ho.get Ym hz hg) hb;refine Runs.of_value YC (v:=.pointer (some ⟨w.heap.size,0,none⟩)) (w':=w.alloc (.cells (a.eval z).cells t)) Ybk ⟨I,hw.alloc _,ext_alloc hw _,?_,?_⟩
 ·rw[hH];exact hh.new hw t _ _ h1
 ·rw[hx];exact .val _
theorem KOk.al{t:TypeId}{zs:List Value}{H':Value->List Ent}{x:Value->AV}[hz:HasZero P t zs](h:o.op= .alloc t)(hH:∀v,H' v= .blk (blkOf v) t (zs.map .val)::H)(hx:∀v,x v= .p (blkOf v) 0):KOk X P H H' x ρ o:=λB I w r a hw hh ho=>by
 have hz':=hz.h;unfold zeroCells at hz';cases hin:P.info? t with
 | none=>simp[hin] at hz'
 | some inf=>
  cases hz2:inf.zero with
  | none=>simp[hin,hz2] at hz'
  | some z=>
   simp[hin,hz2] at hz';have h1:RelL I w (zs.map .val) z.cells.toList:=by rw[hz'];exact relL_val zs
   refine Runs.of_value YC (v:=.pointer (some ⟨w.heap.size,0,none⟩)) (w':=w.alloc (.cells z.cells t)) Yba ⟨I,hw.alloc _,ext_alloc hw _,?_,?_⟩
   ·rw[hH];exact hh.new hw t _ _ h1
   ·rw[hx];exact .val _
end
end Go.Eng

namespace Go
def Exit.inBlockS(id:Nat)(Q:Exit->Act->List Frame->World->Prop):Exit->Act->List Frame->World->Prop
 | .exit id',a,cs,w=>if id'=id then Q .normal a cs w else Q (.exit id') a cs w
 | e,a,cs,w=>Q e a cs w
theorem wpSIn_block{F:Fence}{n:Nat}{P:Program}{Q:Exit->Act->List Frame->World->Prop}{a:Act}{cs:List Frame}{w:World}{id:Nat}{c:Code}(h:c.wpSIn F n P (Exit.inBlockS id Q) a cs w):(Code.block id c).wpSIn F n P Q a cs w:=by
 intro b k hb hro hF hroom;have h0:(lone (b.atR a (.code (.block id c)::k)) cs w).fenced P F:=fenced_calm hF hroom rfl;obtain⟨e,a₁,cs₁,w₁,hl,hq,harr⟩:=h b (.inBlock id::k) hb hro hF hroom;cases e with
 | normal=>exact⟨.normal,a₁,cs₁,w₁,hl,hq,.head h0 stepR_block (StepsIn.trans harr (.one (fenced_calm hF (hl▸hroom) rfl) stepR_inBlock))⟩
 | exit id'=>
  by_cases hid:id'=id
  ·simp only[Exit.inBlockS,hid,if_true] at hq;exact⟨.normal,a₁,cs₁,w₁,hl,hq,.head h0 stepR_block (harr.1 k (by simp[exitTo,hid]))⟩
  ·simp only[Exit.inBlockS,hid,if_false] at hq;have this:(id==id')=false:=by simp;exact λh=>hid h.symm
   have hx:exitTo id' (.inBlock id::k)=exitTo id' k:=by simp[exitTo,this]
   exact⟨.exit id',a₁,cs₁,w₁,hl,hq,λk' hk=>.head h0 stepR_block (harr.1 k' Ybc),
    λhr' hk=>let ⟨k₁,h1,h2⟩:=harr.2 hr' Ybc;⟨k₁,h1,.head h0 stepR_block h2⟩⟩
 | goto l=>
  have hx:gotoIn l (.inBlock id::k)=gotoIn l k:=by simp[gotoIn]
  exact⟨_,a₁,cs₁,w₁,hl,hq,λk' hk=>.head h0 stepR_block (harr.1 k' Ybc),
   λhr' hk=>let ⟨k₁,h1,h2⟩:=harr.2 hr' Ybc;⟨k₁,h1,.head h0 stepR_block h2⟩⟩
 | ret=>exact⟨_,a₁,cs₁,w₁,hl,hq,.of_steps (.one h0 stepR_block) harr⟩
 | panic ch=>exact⟨_,a₁,cs₁,w₁,hl,hq,.of_steps (.one h0 stepR_block) harr⟩
 | outgrown=>exact⟨_,a₁,cs₁,w₁,hl,hq,.of_steps (.one h0 stepR_block) harr⟩
def wpF(f:FuncId)(F:Fence)(n:Nat)(P:Program)(c:Code)(Q:Exit->Act->World->Prop)(a:Act)(w:World):Prop:=
 ∀(b:Frame) (k:List Item) (cs:List Frame),b.roundOf=F.round->b.fn=f->F.fn b.fn->F.room (cs.length+1+n)->∃e a' w',Q e a' w'/\ArrivesIn (Machine.fenced P F) P (lone (b.atR a (.code c::k)) cs w) b k cs e a' w'
section
variable{f:FuncId}{F:Fence}{n:Nat}{P:Program}{Q:Exit->Act->World->Prop}{a:Act}{w:World}
theorem wpF.of{c:Code}(h:c.wpIn F n P Q a w):wpF f F n P c Q a w:=λb k cs hro _ hb hr=>h b k cs hro hb hr
theorem wpF.mono{c:Code}{Q':Exit->Act->World->Prop}(h:wpF f F n P c Q a w)(hq:∀e a w,Q e a w->Q' e a w):wpF f F n P c Q' a w:=λb k cs hro he hb hr=>
 let ⟨e,a',w',h1,h2⟩:=h b k cs hro he hb hr;⟨e,a',w',hq _ _ _ h1,h2⟩
theorem wpF.seq{x y:Code}(h:wpF f F n P x (Exit.then (wpF f F n P y Q) Q) a w):wpF f F n P (.seq x y) Q a w:=by
 intro b k cs hro he hb hr;have h0:(lone (b.atR a (.code (.seq x y)::k)) cs w).fenced P F:=fenced_calm hb hr rfl;obtain⟨e,a₁,w₁,hq,harr⟩:=h b (.code y::k) cs hro he hb hr;cases e with
 | normal=>
  obtain⟨e₂,a₂,w₂,hq₂,harr₂⟩:=hq b k cs hro he hb hr;exact⟨e₂,a₂,w₂,hq₂,.of_steps (.head h0 stepR_seq harr) harr₂⟩
 | exit id=>exact⟨_,a₁,w₁,hq,.of_steps (.one h0 stepR_seq) (.pass (x:=.code y) rfl (λ_ _=>.inl Yx) harr)⟩
 | goto l=>exact⟨_,a₁,w₁,hq,.of_steps (.one h0 stepR_seq) (.pass (x:=.code y) rfl (λ_ _=>.inl Yx) harr)⟩
 | ret=>exact⟨_,a₁,w₁,hq,.of_steps (.one h0 stepR_seq) (.pass (x:=.code y) rfl (λ_ _=>.inl Yx) harr)⟩
 | panic ch=>exact⟨_,a₁,w₁,hq,.of_steps (.one h0 stepR_seq) (.pass (x:=.code y) rfl (λ_ _=>.inl Yx) harr)⟩
 | outgrown=>exact⟨_,a₁,w₁,hq,.of_steps (.one h0 stepR_seq) (.pass (x:=.code y) rfl (λ_ _=>.inl Yx) harr)⟩
theorem wpF.block{id:Nat}{c:Code}(h:wpF f F n P c (Exit.inBlock id Q) a w):wpF f F n P (.block id c) Q a w:=by
 intro b k cs hro he hb hr;have h0:(lone (b.atR a (.code (.block id c)::k)) cs w).fenced P F:=fenced_calm hb hr rfl;obtain⟨e,a₁,w₁,hq,harr⟩:=h b (.inBlock id::k) cs hro he hb hr;cases e with
 | normal=>exact⟨.normal,a₁,w₁,hq,.head h0 stepR_block (StepsIn.trans harr (.one (fenced_calm hb hr rfl) stepR_inBlock))⟩
 | exit id'=>
  by_cases hid:id'=id
  ·simp only[Exit.inBlock,hid,if_true] at hq;exact⟨.normal,a₁,w₁,hq,.head h0 stepR_block (harr.1 k (by simp[exitTo,hid]))⟩
  ·simp only[Exit.inBlock,hid,if_false] at hq;have this:(id==id')=false:=by simp;exact λh=>hid h.symm
   have hx:exitTo id' (.inBlock id::k)=exitTo id' k:=by simp[exitTo,this]
   exact⟨.exit id',a₁,w₁,hq,λk' hk=>.head h0 stepR_block (harr.1 k' Ybc),
    λhr' hk=>let ⟨k₁,h1,h2⟩:=harr.2 hr' Ybc;⟨k₁,h1,.head h0 stepR_block h2⟩⟩
 | goto l=>
  have hx:gotoIn l (.inBlock id::k)=gotoIn l k:=by simp[gotoIn]
  exact⟨_,a₁,w₁,hq,λk' hk=>.head h0 stepR_block (harr.1 k' Ybc),
   λhr' hk=>let ⟨k₁,h1,h2⟩:=harr.2 hr' Ybc;⟨k₁,h1,.head h0 stepR_block h2⟩⟩
 | ret=>exact⟨_,a₁,w₁,hq,.of_steps (.one h0 stepR_block) harr⟩
 | panic ch=>exact⟨_,a₁,w₁,hq,.of_steps (.one h0 stepR_block) harr⟩
 | outgrown=>exact⟨_,a₁,w₁,hq,.of_steps (.one h0 stepR_block) harr⟩
theorem callsIn_of_wpF{fn:Func}{c:Code}{args:Array Value}{R:Ending->World->Prop}(hf:P.funcs[f]? =some fn)(hb:fn.body=some c)(hF:F.fn f)
  (h:wpF f F n P c (bodyPostM F n P fn R) {tmps:=args++Array.replicate (fn.ntmps - args.size) undef,defers:=[]} w) (hro:F.round=none:=by rfl):CallsIn F n P f args w R:=by
 refine⟨hF,λcs hr=>?_⟩
 let b:Frame:={(default:Frame) with fn:=f,kind:=.normal,roundOf:=none}
 have henter:Frame.enter P f args .normal=b.atR {tmps:=args++Array.replicate (fn.ntmps - args.size) undef,defers:=[]} [.code c]:=by
  simp[Frame.enter,Frame.atR,hf,hb,b]
 obtain⟨e,a',w',hq,harr⟩:=h b [] cs hro.symm rfl hF hr;rw[<-henter] at harr;cases e with
 | normal=>
  obtain⟨e',w'',fr',hR,hs,hfn,hl⟩:=leaves_stepsInM a'.defers .returning w' {b.atR a' [] with mode:=.returning} cs rfl rfl rfl hf rfl hF hr hq;exact⟨e',w'',fr',hR,ComesIn.of_steps (StepsIn.trans harr (.one (fenced_calm (fr:=b.atR a' []) hF hr rfl) (stepR_end rfl))) hs,hfn,hl⟩
 | ret=>
  obtain⟨todo,hs₀⟩:=harr.1 rfl;obtain⟨e',w'',fr',hR,hs,hfn,hl⟩:=leaves_stepsInM a'.defers .returning w' {b.atR a' todo with mode:=.returning} cs rfl rfl rfl hf rfl hF hr hq;exact⟨e',w'',fr',hR,ComesIn.of_steps hs₀ hs,hfn,hl⟩
 | panic chain=>
  obtain⟨todo,hs₀⟩:=harr;obtain⟨e',w'',fr',hR,hs,hfn,hl⟩:=leaves_stepsInM a'.defers (.panicking chain) w' {b.atR a' todo with mode:=.panicking chain} cs rfl rfl rfl hf rfl hF hr hq;exact⟨e',w'',fr',hR,ComesIn.of_steps hs₀ hs,hfn,hl⟩
 | exit id=>exact hq.elim
 | goto l=>exact hq.elim
 | outgrown=>exact⟨.outgrown,w',b,hq,harr.resolve_left (by simp[b]),rfl,trivial⟩
def roundPostP(P:Program)(l:Nat)(R:Ending->World->Prop):Exit->Act->World->Prop
 | .panic chain,a,w=>a.defers= []/\R (.panicked chain) w
 | e,a,w=>roundPost P l R e a w
theorem roundIn_of_wpInP{l:Nat}{fn:Func}{tmps:Array Value}{assign body:Code}{R:Ending->World->Prop}(hF:F.fn f)(hfn:P.funcs[f]? =some fn)
  (h:assign.wpIn (F.inRound l) n P (Exit.then (λa₁ w₁=>∃w₂,(Instr.beginRound l).run P w₁= .ok () w₂/\body.wpIn (F.inRound l) n P (roundPostP P l R) a₁ w₂) (λ_ _ _=>False)) {tmps:=tmps,defers:=[]} w):
  RoundIn F n P l f tmps assign body w R:=by
 refine⟨hF,λc cs hr=>?_⟩
 let b:Frame:={(default:Frame) with fn:=f,kind:=.normal,roundOf:=some l}
 have hb0:Frame.round l f tmps assign body .normal=b.atR {tmps:=tmps,defers:=[]} [.code assign,.beginRound,.code body]:=by
  simp[Frame.round,Frame.atR,b]
 have hr':(F.inRound l).room ((c::cs).length+1+n):=hr;have hF':(F.inRound l).fn b.fn:=hF;obtain⟨e,a₁,w₁,hq,harr⟩:=h b [.beginRound,.code body] (c::cs) rfl hF' hr';rw[<-hb0] at harr;cases e with
 | normal=>
  obtain⟨w₂,hbr,hbody⟩:=hq;have s1:StepsIn (Machine.fenced P (F.inRound l)) P (lone (b.atR a₁ [.beginRound,.code body]) (c::cs) w₁) (lone (b.atR a₁ [.code body]) (c::cs) w₂):=
   .one (fenced_calm (fr:=b.atR a₁ [.beginRound,.code body]) hF' hr' rfl) (stepR_beginRound rfl hbr)
  obtain⟨e₂,a₂,w₃,hq₂,harr₂⟩:=hbody b [] (c::cs) rfl hF' hr';cases e₂ with
  | normal=>
   obtain⟨v,w₄,hend,hR⟩:=hq₂;exact⟨.returned v,w₄,hR,(StepsIn.trans harr s1).trans (StepsIn.trans harr₂ (.one (fenced_calm (fr:=b.atR a₂ []) hF' hr' rfl) (stepR_round_end rfl rfl hend)))⟩
  | ret=>
   obtain⟨v,w₄,hend,hR⟩:=hq₂;obtain⟨k₁,hs⟩:=harr₂.2 rfl;exact⟨.returned v,w₄,hR,(StepsIn.trans harr s1).trans (StepsIn.trans hs (.one (fenced_calm (fr:=b.atR a₂ (.code .ret::k₁)) hF' hr' rfl) (stepR_round_ret rfl rfl hend)))⟩
  | exit id=>
   obtain⟨v,w₄,hend,hR⟩:=hq₂;obtain⟨k₁,hk,hs⟩:=harr₂.2 rfl rfl;exact⟨.returned v,w₄,hR,(StepsIn.trans harr s1).trans (StepsIn.trans hs (.one (fenced_calm (fr:=b.atR a₂ (.code (.exit id)::k₁)) hF' hr' rfl) (stepR_round_exit rfl rfl hk hend)))⟩
  | goto t=>
   obtain⟨v,w₄,hend,hR⟩:=hq₂;obtain⟨k₁,hk,hs⟩:=harr₂.2 rfl rfl;exact⟨.returned v,w₄,hR,(StepsIn.trans harr s1).trans (StepsIn.trans hs (.one (fenced_calm (fr:=b.atR a₂ (.code (.goto t)::k₁)) hF' hr' rfl) (stepR_round_goto rfl rfl hk hend)))⟩
  | panic chain=>
   obtain⟨hd,hR⟩:=hq₂;obtain⟨todo,hs⟩:=harr₂;have hl:({b.atR a₂ todo with mode:=.panicking chain}:Frame).leaving P w₃ (.panicked chain):=⟨rfl,hd,fn,hfn⟩;exact⟨.panicked chain,w₃,hR,(StepsIn.trans harr s1).trans (StepsIn.trans hs (.one (fenced_leaving (n:=n) hF' hr' hl) (step_leave_panicked hl)))⟩
  | outgrown=>exact hq₂.elim
 | exit id=>exact hq.elim
 | goto t=>exact hq.elim
 | ret=>exact hq.elim
 | panic chain=>exact hq.elim
 | outgrown=>exact hq.elim
theorem wpF.rangeFunc{g:Operand}{ps:Array Tmp}{assign body:Code}
  (h:∃(l:Nat) (mark:List Deferred) (w₁:World) (d:Deferred) (w₁':World) (f':FuncId) (args:Array Value) (w₂:World),
   (Instr.enterLoop f a.tmps ps assign body F.round).run P w= .ok (l,mark) w₁/\
   (resolve a.eval (rangeCall g l) 0).run P w₁= .ok d w₁'/\
   (∀f',Target.leads P w₁' d.target d.args=some f'->F.fn f')/\
   (invoke d.target d.args).run P w₁'= .ok (.enter f' args) w₂/\
   (F.depth.isSome=true->1<=n)/\
   CallsIn F (n - 1) P f' args w₂ (rangePost F n P l Q {a with defers:=mark++a.defers})):
  wpF f F n P (Code.rangeFunc g ps assign body) Q a w:=by
 intro b k cs hro he' hb hr;obtain⟨l,mark,w₁,d,w₁',f',args,w₂,he,hres,hlead,hinv,hn,hF,hcall⟩:=h;rw[<-hro, <-he'] at he;have h0:(lone (b.atR a (.code (.rangeFunc g ps assign body)::k)) cs w).fenced P F:=by
  refine fenced_lone (.inl hb) (λf' hf'=>hlead f' ?_) (Fence.room_le hr Yd);have hev:=Frame.eval_atR b a (.code (.rangeFunc g ps assign body)::k);simp only[Frame.atR] at hev;simp only[Frame.about,Frame.atR,he,hev,hres] at hf';exact hf'
 have henter:=stepR_rangeFunc (P:=P) (b:=b) (a:=a) (k:=k) (cs:=cs) (w:=w) he hres hinv;have hroom:F.room ((b.atR {a with defers:=mark++a.defers} (.inRangeFunc l::k)::cs).length+1+(n - 1)):=Fence.room_enter hr hn;obtain⟨e,w₃,fr,hR,hsteps,hfn,hleave⟩:=hcall (b.atR {a with defers:=mark++a.defers} (.inRangeFunc l::k)::cs) hroom;cases e with
 | outgrown=>
  obtain⟨a₀,w₀,hq⟩:=hR;exact⟨.outgrown,a₀,w₀,hq,.inr (Outgrown.of_steps (.one henter) hsteps)⟩
 | returned v=>
  have hl:(lone fr (b.atR {a with defers:=mark++a.defers} (.inRangeFunc l::k)::cs) w₃).fenced P F:=fenced_leaving (hfn▸hF) hroom hleave;obtain⟨jump,w₄,hend,hj⟩:=hR;have sback:StepsIn (Machine.fenced P F) P (lone (b.atR a (.code (.rangeFunc g ps assign body)::k)) cs w) (lone (b.atR {a with defers:=mark++a.defers} ((jump.map Item.code).toList++k)) cs w₄):=by
   refine .head h0 henter (StepsIn.trans hsteps (.head hl ?_ (.one (fenced_calm (fr:=b.atR {a with defers:=mark++a.defers} (.endRangeFunc l::k)) hb hr rfl) (stepR_endRangeFunc hend))));rw[<-finish_atR_inRangeFunc l v];exact step_leave_returned hleave
  cases jump with
  | none=>exact⟨.normal,_,w₄,hj,sback⟩
  | some c=>
   obtain⟨e',a'',w₅,hq,harr⟩:=hj b k cs hro hb hr;exact⟨e',a'',w₅,hq,.of_steps sback harr⟩
 | panicked chain=>
  have hl:(lone fr (b.atR {a with defers:=mark++a.defers} (.inRangeFunc l::k)::cs) w₃).fenced P F:=fenced_leaving (hfn▸hF) hroom hleave;refine⟨.panic chain,_,w₃,hR,.inRangeFunc l::k,.head h0 henter (StepsIn.trans hsteps (.one hl ?_))⟩;rw[<-Frame.raise_atR];exact step_leave_panicked hleave
end
end Go
