/- Part 4 of the proof: contracts of functions of the program and what they need. No condition beyond those that each theorem names. -/
import Derived.Test.YtogjaoodkaahoaaGreatVowJudgesP3
import Derived.RecoverIn
import Derived.Deep.AppendSrc
import Derived.Laws.CopyRow
set_option maxHeartbeats 1000000
set_option linter.unusedVariables false
set_option linter.unusedSimpArgs false
namespace Go.Eng
open Go.RowKit (Below)
structure CE where
 i:Nat
 d:Nat
 u:Bool
def CE.inst(es:List CE)(p:List Bool)(f:Nat->Value):List (Option Value):=List.zipWith (λe b=>if b then some (f e.d) else none) es p
def CE.vals:List CE->List Bool->(Nat->Value)->List (Nat×AV)
 | e::es,b::p,f=>match b,e.u with
  | true,true=>(e.d,.val (f e.d))::CE.vals es p f
  | _,_=>CE.vals es p f
 | _,_,_=>[]
def CE.pat(es:List CE)(S:Nat->Bool):List Bool:=es.map λe=>S e.i
def XM{G:Type}(HS:G->List (Option Value)->List Ent)(es:List CE)(S:Nat->Bool):Mem:=λB a I w=>∃g,HeapOk B I w (HS g (CE.inst es (CE.pat es S) λd=>a.tmps.getD d undef))
def CE.okPat(L:List Oper)(es:List CE)(i:Nat)(p:List Bool):Bool:=(es.zip p).all λx=>(!((masks L []).getD i 0).testBit x.1.i || x.2) && (!x.2 || (!((masks L []).getD x.1.i 0).testBit i && !Nat.beq x.1.i i && (es.zip p).all λy=>!((masks L []).getD x.1.i 0).testBit y.1.i || y.2))
def bools:Nat->List (List Bool)
 | 0=>[[]]
 | n+1=>(bools n).flatMap λp=>[false::p,true::p]
def CE.fits(L:List Oper)(es:List CE)(i:Nat)(pats:List (List Bool)):Bool:=(es.all λe=>Nat.blt e.i L.length) && (bools es.length).all λp=>!CE.okPat L es i p || pats.contains p
def AllP{α:Type}:List α->(α->Prop)->Prop
 | [],_=>True
 | a::r,Q=>Q a/\AllP r Q
theorem AllP.at{α:Type}{Q:α->Prop}:∀{l:List α},AllP l Q->∀a∈l,Q a
 | _::_,⟨h,_⟩,_,.head _=>h
 | _::_,⟨_,h⟩,_,.tail _ ha=>AllP.at h _ ha
theorem bools_all:∀(p:List Bool),p∈bools p.length
 | []=>.head _
 | b::p=>List.mem_flatMap.2 ⟨p,bools_all p,by cases b <;> simp⟩
theorem inst_pat(es:List CE)(S:Nat->Bool)(f:Nat->Value):CE.inst es (CE.pat es S) f=es.map λe=>if S e.i then some (f e.d) else none:=by
 induction es with
 | nil=>rfl
 | cons e r ih=>simp only[CE.inst,CE.pat,List.map_cons,List.zipWith_cons_cons] at ih ⊢;rw[ih]
theorem zip_pat{es:List CE}{S:Nat->Bool}:∀x∈es.zip (CE.pat es S),x.1∈es/\x.2=S x.1.i:=by
 induction es with
 | nil=>intro x hx;cases hx
 | cons e r ih=>
  intro x hx;simp only[CE.pat,List.map_cons,List.zip_cons_cons,List.mem_cons] at hx;rcases hx with rfl | hx
  ·exact⟨.head _,rfl⟩
  ·exact⟨.tail _ (ih x hx).1,(ih x hx).2⟩
theorem CE.fits_of{L:List Oper}{es:List CE}{i:Nat}{pats:List (List Bool)}{S:Nat->Bool}(h:CE.fits L es i pats=true)(hs:ShutS L S)(hm:∀j,((masks L []).getD i 0).testBit j=true->S j=true)(hi:S i=false):CE.pat es S∈pats:=by
 simp only[CE.fits,Bool.and_eq_true,List.all_eq_true] at h;obtain⟨hb,h⟩:=h;have hlt:∀e∈es,e.i<L.length:=λe he=>Nat.lt_of_succ_le (by simpa [Nat.blt] using hb e he);have h1:=h (CE.pat es S) (by have:=bools_all (CE.pat es S);rwa [CE.pat,List.length_map] at this);have key:CE.okPat L es i (CE.pat es S)=true:=by
  rw[CE.okPat,List.all_eq_true];intro x hx;obtain⟨x1,x2⟩:=zip_pat x hx;rw[Bool.and_eq_true];refine⟨?_,?_⟩
  ·cases hb:((masks L []).getD i 0).testBit x.1.i with
   | false=>rfl
   | true=>rw[x2,hm _ hb];rfl
  ·cases hx2:x.2 with
   | false=>rfl
   | true=>
    rw[hx2] at x2;have hsh:=hs x.1.i _ (List.getElem?_eq_getElem (hlt _ x1)) x2.symm;simp only[Bool.not_true,Bool.false_or,Bool.and_eq_true,Bool.not_eq_true',List.all_eq_true];refine⟨⟨?_,?_⟩,λy hy=>?_⟩
    ·cases hb:((masks L []).getD x.1.i 0).testBit i with
     | false=>rfl
     | true=>rw[hsh i hb] at hi;cases hi
    ·cases hb:Nat.beq x.1.i i with
     | false=>rfl
     | true=>rw[Nat.eq_of_beq_eq_true hb,hi] at x2;cases x2
    ·obtain⟨y1,y2⟩:=zip_pat y hy;cases hb:((masks L []).getD x.1.i 0).testBit y.1.i with
     | false=>rfl
     | true=>rw[y2,hsh _ hb];rfl
 rw[key] at h1;simpa using h1
theorem env_vals{f:Nat->Value}{env:List (Nat×AV)}{t:Nat}{y:AV}:∀(es:List CE) (p:List Bool),envGet (CE.vals es p f++env) t=some y->y= .val (f t)\/envGet env t=some y
 | [],p,h=>.inr h
 | _::_,[],h=>.inr h
 | e::es,b::p,h=>by
  unfold CE.vals at h;split at h
  ·rw[List.cons_append,envGet_cons] at h;split at h
   ·rename_i e1;cases h;rw[e1];exact .inl rfl
   ·exact env_vals es p h
  ·exact env_vals es p h
theorem ops_vals{I:Imm}{w:World}{a:Act}{o:Oper}{env:List (Nat×AV)}(es:List CE)(p:List Bool)(h:OpsOk I w (envGet env) a o):OpsOk I w (envGet (CE.vals es p (λd=>a.tmps.getD d undef)++env)) a o:=λx hx y hy=>by
 cases x with
 | tmp u=>
  simp only[aeval] at hy;rcases env_vals es p hy with rfl | hy
  ·exact .val _
  ·exact h _ hx y hy
 | const v=>exact h _ hx y hy
 | global g=>exact h _ hx y hy
 | func f=>exact h _ hx y hy
theorem EnvOk.vals{I:Imm}{w:World}{a:Act}{env:List (Nat×AV)}(es:List CE)(p:List Bool)(h:EnvOk I w (envGet env) a):EnvOk I w (envGet (CE.vals es p (λd=>a.tmps.getD d undef)++env)) a:=λt x hx=>by
 rcases env_vals es p hx with rfl | hx
 ·exact .val _
 ·exact h t x hx
def FOk{G:Type}(P:Program)(H:List Ent)(H':G->Value->List Ent)(ρ:Nat->Option AV)(o:Oper)(x:AV):Prop:=∀(B:Nat) (I:Imm) (w:World) (r:Option Nat) (a:Act),WOk B I w->HeapOk B I w H->OpsOk I w ρ a o->
 Runs P r o a w (λv w'=>∃I' g,WOk B I' w'/\Ext B I w I' w'/\HeapOk B I' w' (H' g v)/\Rel I' w' x v) (λ_ _=>False)
section
variable{c:Ctx}{r:Option Nat}{P:Program}{l:List Oper}{Q:Exit->Act->World->Prop}{G:Type}
theorem DP.anyH{env:List (Nat×AV)}{H:List Ent}(es:List CE)(g0:G)(HS:G->List (Option Value)->List Ent)(k m n:Nat)(hn:c.n=n)(hchk:segChk l k m=true)(hes:(es.all λe=>Nat.ble k e.i && Nat.blt e.i m)=true)(hkm:Nat.ble k m=true)(hml:Nat.ble m l.length=true)(hlk:(l.all λo=>(looks l o).all λt=>Nat.blt t n)=true)
  (h0:HS g0 (es.map λ_=>none)=H)
  (h:UD P (XM HS es) l c.n k ((l.drop k).take (m - k)) env λenv=>∀(g:G) (f:Nat->Value),DP c r P l Q m ⟨CE.vals es (es.map λ_=>true) f++env,HS g (es.map λe=>some (f e.d))⟩):DP c r P l Q k ⟨env,H⟩:=by
 simp only[List.all_eq_true,Bool.and_eq_true] at hes;have blk:∀i,Nat.ble k i=true->Nat.blt i k=false:=λi hi=>by
  have h1:=Nat.le_of_ble_eq_true hi;rw[Bool.eq_false_iff];intro hb;have:=Nat.lt_of_succ_le (by simpa [Nat.blt] using hb);omega
 refine DP.anyU (M:=XM HS es) hchk (Nat.le_of_ble_eq_true hkm) (Nat.le_of_ble_eq_true hml) (by rw[hn];exact hlk) (λB a I w hh=>⟨g0,?_⟩) (h.mono λenv hd a w I q1 q2 q3 q4 q5 q6=>?_)
 ·have e:CE.inst es (CE.pat es λi=>Nat.blt i k) (λd=>a.tmps.getD d undef)=es.map λ_=>none:=by
   rw[inst_pat];exact List.map_congr_left λe he=>by rw[blk _ (hes e he).1];rfl
  rw[e,h0];exact hh
 ·obtain⟨g,hh⟩:=q5;have e:CE.inst es (CE.pat es λi=>Nat.blt i m) (λd=>a.tmps.getD d undef)=es.map λe=>some (a.tmps.getD e.d undef):=by
   rw[inst_pat];exact List.map_congr_left λe he=>by rw[(hes e he).2];rfl
  rw[e] at hh;exact hd g (λd=>a.tmps.getD d undef) a w ⟨q1,q2,I,q3,q4,hh,q6.vals es _⟩
end
section
variable{P:Program}{L rest:List Oper}{es:List CE}{n i d:Nat}{o:Oper}{env:List (Nat×AV)}{K:List (Nat×AV)->Prop}{x:AV}{G:Type}{HS:G->List (Option Value)->List Ent}
theorem UD.popG(pats:List (List Bool))(hi:(es.all λe=>!Nat.beq e.i i && !Nat.beq e.d d)=true)(hf:CE.fits L es i pats=true)(hg:o.guard=none)(hd:o.dst=some d)(hn:Nat.blt d n=true)
  (h:AllP pats λp=>∀g f,POp P (HS g (CE.inst es p f)) (envGet (CE.vals es p f++env)) o x) (next:UD P (XM HS es) L n (i+1) rest ((d,x)::env) K):UD P (XM HS es) L n i (o::rest) env K:=
 ⟨x,λS hshut hmask hSi=>EOkX.of hg (λB I w r a hw hm ho hz=>by
  obtain⟨g,hm⟩:=hm;simp only[List.all_eq_true,Bool.and_eq_true,Bool.not_eq_true'] at hi;have ne:∀{a b:Nat},Nat.beq a b=false->a≠b:=λh e=>by subst e;simp at h
  refine (h.at _ (CE.fits_of hf hshut hmask hSi) g (λd=>a.tmps.getD d undef) B I w r a _ hw hm (λe he=>he) (ops_vals es _ ho)).mono (λv w' ⟨I',a1,a2,a3,a4⟩=>⟨I',a1,a2,⟨g,?_⟩,a4⟩) (λ_ _ h=>h);have e:CE.inst es (CE.pat es (addS S i)) (λd=>(a.put o.dst v).tmps.getD d undef)=CE.inst es (CE.pat es S) (λd=>a.tmps.getD d undef):=by
   rw[inst_pat,inst_pat];exact List.map_congr_left λe he=>by rw[addS_other (ne (hi e he).1),hd,tmps_put_other (ne (hi e he).2)]
  rw[e];exact a3),dstOk_of hd hn,Yz⟩
theorem inst_set{S:Nat->Bool}{f f':Nat->Value}{q:Nat}{e:CE}{u:Value}(he:es[q]? =some e)(hu:f' e.d=u)(ho:∀q' e',q'≠q->es[q']? =some e'->e'.i≠e.i/\f' e'.d=f e'.d):CE.inst es (CE.pat es (addS S e.i)) f'=(CE.inst es (CE.pat es S) f).set q (some u):=by
 rw[inst_pat,inst_pat];refine List.ext_getElem? λj=>?_;rw[List.getElem?_set,List.length_map,List.getElem?_map,List.getElem?_map];have hq:=(List.getElem?_eq_some_iff.1 he).1;by_cases hj:q=j
 ·subst hj;rw[if_pos rfl,if_pos hq,he];show some (if addS S e.i e.i=true then some (f' e.d) else none)=_;rw[addS_same,hu];rfl
 ·rw[if_neg hj];cases hje:es[j]? with
  | none=>rfl
  | some e'=>
   have:=ho j e' (λh=>hj h.symm) hje;show some (if addS S e.i e'.i=true then some (f' e'.d) else none)=some (if S e'.i=true then some (f e'.d) else none);rw[addS_other this.1,this.2]
theorem UD.effG(q:Nat)(pats:List (List Bool)){e:CE}(he:es[q]? =some e)(hi:e.i=i)(ho:((es.take q++es.drop (q+1)).all λe'=>!Nat.beq e'.i i && !Nat.beq e'.d e.d)=true)(hf:CE.fits L es i pats=true)(hg:o.guard=none)(hd:o.dst=some e.d)(hn:Nat.blt e.d n=true)
  (h:AllP pats λp=>∀g f,FOk P (HS g (CE.inst es p f)) (λg' v=>HS g' ((CE.inst es p f).set q (some v))) (envGet (CE.vals es p f++env)) o x) (next:UD P (XM HS es) L n (i+1) rest ((e.d,x)::env) K):UD P (XM HS es) L n i (o::rest) env K:=
 ⟨x,λS hshut hmask hSi=>EOkX.of hg (λB I w r a hw hm hops hz=>by
  obtain⟨g,hm⟩:=hm;simp only[List.all_eq_true,Bool.and_eq_true,Bool.not_eq_true'] at ho;have ne:∀{a b:Nat},Nat.beq a b=false->a≠b:=λh e=>by subst e;simp at h
  refine (h.at _ (CE.fits_of hf hshut hmask hSi) g (λd=>a.tmps.getD d undef) B I w r a hw hm (ops_vals es _ hops)).mono (λv w' ⟨I',g',a1,a2,a3,a4⟩=>⟨I',a1,a2,⟨g',?_⟩,a4⟩) (λ_ _ h=>h);rw[<-hi,inst_set (S:=S) (f:=λd=>a.tmps.getD d undef) (f':=λd=>(a.put o.dst v).tmps.getD d undef) (u:=v) he (by rw[hd];exact tmps_put_same (hz _ hd)) (λq' e' hq he'=>?_)]
  ·exact a3
  ·have hm':e'∈es.take q++es.drop (q+1):=by
    rw[List.mem_append];rcases Nat.lt_or_gt_of_ne hq with h1 | h1
    ·exact .inl (List.mem_of_getElem? (i:=q') (by rw[List.getElem?_take,if_pos h1];exact he'))
    ·exact .inr (List.mem_of_getElem? (i:=q' - (q+1)) (by rw[List.getElem?_drop,show q+1+(q' - (q+1))=q' by omega];exact he'))
   refine⟨by rw[hi];exact ne (ho _ hm').1,?_⟩;show (a.put o.dst v).tmps.getD e'.d undef=_;rw[hd];exact tmps_put_other (ne (ho _ hm').2)),dstOk_of hd hn,Yz⟩
theorem FOk.sto{H:List Ent}{H':List Ent}{ρ:Nat->Option AV}(g:G)(h:SOk P H H' ρ o):FOk P H (λ(_:G) _=>H') ρ o .any:=λB I w r a hw hh ho=>(h B I w r a hw hh ho).mono (λv w' ⟨I',a1,a2,a3⟩=>⟨I',g,a1,a2,a3,.any _⟩) (λ_ _ h=>h)
theorem FOk.app{H:List Ent}{ρ:Nat->Option AV}{s z:Operand}{t e k by_ m:Nat}{cs:List AV}{news:List (List AV)}{v:Value}{y:AV}{g1 g2:Bool}{H':G->Value->List Ent}(g:G)[hA:HasApp P t (e,k,by_)]
  (h:o.op= .call {callee:=.builtin .append,args:=#[s,z],argTypes:=#[t,t]}) (hs:aev ρ s=some (g1,.val v)) (hg1:g1=true) (hz:aev ρ z=some (g2,y)) (hg2:g2=true) (hy:AVle y (.sl k news)) (hne:news≠ [])
  (h1:news.all allOne=true) (hu:∀v',Upd H (.row e k v m cs) (.row e k v' (m+news.length) (cs++news.flatten)) (H' g v')) (hb:(m+news.length)*by_<=140737488355328) (hb':m+news.length<=9223372036854775807):FOk P H H' ρ o .any:=λB I w r a hw hh ho=>
 (appendRow_runs h hs hg1 hz hg2 hy hne h1 hu hb hb' hw hh ho).mono (λv w' ⟨I',a1,a2,a3⟩=>⟨I',g,a1,a2,a3,.any _⟩) (λ_ _ h=>h)
theorem FOk.bcall{H:List Ent}{ρ:Nat->Option AV}{f:FuncId}{xs:List AV}{Φ:AV->List Ent->Prop}{H':G->Value->List Ent}(hc:CallOk P ρ o f xs)(h:∀B,BCall B P f xs H Φ (λ_ _=>False))(hq:∀y H1,Φ y H1->∃g,y=x/\∀v,H' g v=H1):FOk P H H' ρ o x:=λB I w r a hw hh ho=>
 (bcall_runs (c:=⟨B,I,w,0,[]⟩) hc (h B) hw hh ho).mono (λv w' hR=>by
  obtain⟨I',H1,y,a1,a2,a3,a4,a5⟩:=hR;obtain⟨g,rfl,hv⟩:=hq _ _ a5;exact⟨I',g,a1,a2,by rw[hv];exact a3,a4⟩) (λ_ _ h=>h)
end
def PanX(v:Value)(Hf:List Ent):PX:=λB I w ch w'=>ch= [{v:=v,recovered:=false}]/\∃J,WOk B J w'/\Ext B I w J w'/\HeapOk B J w' Hf
section
variable{c:Ctx}{r:Option Nat}{P:Program}{l:List Oper}{Q:Exit->Act->World->Prop}
end
section
variable{P:Program}{L rest:List Oper}{n i d q:Nat}{o:Oper}{env:List (Nat×AV)}{K:List (Nat×AV)->Prop}{x:AV}{H Hf:List Ent}{X:PX}
end
section
variable{P:Program}{H:List Ent}{ρ:Nat->Option AV}{o:Oper}{x:AV}{G:Type}
end
section
variable{c:Ctx}{r:Option Nat}{P:Program}{st:St}{Q:Exit->Act->World->Prop}
theorem CW.eqH{p:Code}{H':List Ent}(hp:st.H=H')(h:CW c r P p ⟨st.env,H'⟩ Q):CW c r P p st Q:=CW.perm (.of_eq hp) h
theorem Done.eqH{e:Exit}{H':List Ent}(hp:st.H=H')(h:Done c ⟨st.env,H'⟩ e Q):Done c st e Q:=Done.perm (.of_eq hp) h
end
section
variable{P:Program}{f:FuncId}{fs xs cs:List AV}{H H1 Hf:List Ent}{y pv:AV}{B:Nat}
end
section
variable{P:Program}{r:Option Nat}{o:Oper}{H:List Ent}
theorem appendRow_runs0{B:Nat}{I:Imm}{w:World}{a:Act}{ρ:Nat->Option AV}{s z:Operand}{t e k by_ n:Nat}{cs:List AV}{news:List (List AV)}{v:Value}{y:AV}{g1 g2:Bool}{H':Value->List Ent}[hA:HasApp P t (e,k,by_)]
  (h:o.op= .call {callee:=.builtin .append,args:=#[s,z],argTypes:=#[t,t]}) (hs:aev ρ s=some (g1,.val v)) (hg1:g1=true) (hz:aev ρ z=some (g2,y)) (hg2:g2=true) (hy:AVle y (.sl k news))
  (h1:news.all allOne=true) (hu:∀v',Upd H (.row e k v n cs) (.row e k v' (n+news.length) (cs++news.flatten)) (H' v')) (hb:(n+news.length)*by_<=140737488355328) (hb':n+news.length<=9223372036854775807)
  (hw:WOk B I w) (hh:HeapOk B I w H) (ho:OpsOk I w ρ a o):Runs P r o a w (λx w'=>∃I',WOk B I' w'/\Ext B I w I' w'/\HeapOk B I' w' (H' x)) (λ_ _=>False):=by
 by_cases hne:news= []
 ·subst hne;obtain⟨i,zv,hut,hi,hzz,hsz,hby,hzs,hk0⟩:=appInfo_spec hA.h;have hsv:=rel_val (ho.get Yl hs hg1);have hzr:=hy _ _ _ (ho.get Yl hz hg2);obtain⟨xs,hrow,hrx,hni⟩:=hh.ok _ (hu v).mem;obtain⟨us,r1,r2⟩:=src_of (P:=P) (tx:=t) hut hzr Yn;have hus:us= []:=by cases r1;rfl
  subst hus;rw[<-hsz] at r2;have hv:∃ad m cp,v= .slice ad m cp/\m<=cp:=by
   rcases hrow.2 with⟨rfl,_⟩ | ⟨g,cap,cur,rfl,_,_,hc,_⟩
   ·exact⟨none,0,0,rfl,Nat.le_refl _⟩
   ·exact⟨_,_,_,rfl,hc⟩
  obtain⟨ad,m,cp,rfl,hle⟩:=hv;have hr:=run_append_nothing (P:=P) w t t o.type e i hut hi ad m cp hle (a.eval z) r2;refine Runs.of_value Yk (run_appendOp h a w (by rw[hsv];exact hr)) ⟨I,hw,Ext.refl _ _ _,?_⟩;refine hh.upd (hu _) ⟨λ_ _ x=>x,λ_ _ _=>rfl⟩ (λb _ _=>rfl) (λb o hx=>.inl hx) ⟨xs,by simpa using hrow,by simpa using hrx,hni⟩ (λb hb=>.inl hb)
 ·exact appendRow_runs h hs hg1 hz hg2 hy hne h1 hu hb hb' hw hh ho
end
abbrev CM(e k:Nat)(H:List Ent)(E1 E2:List (List AV))(d1 d2:Nat):Nat->Mem:=λj B a I w=>match j with
 | 0=>HeapOk B I w (.row e k (.slice none 0 0) 0 []::H)
 | 1=>HeapOk B I w (.row e k (a.tmps.getD d1 undef) E1.length E1.flatten::H)
 | _=>HeapOk B I w (.row e k (a.tmps.getD d2 undef) (E1++E2).length (E1++E2).flatten::H)
section
variable{c:Ctx}{r:Option Nat}{P:Program}{l:List Oper}{Q:Exit->Act->World->Prop}
end
section
variable{P:Program}{L rest:List Oper}{ss:List Nat}{n i d:Nat}{o:Oper}{env:List (Nat×AV)}{K:List (Nat×AV)->Prop}{x:AV}{H:List Ent}{e k:Nat}{E1 E2:List (List AV)}{d1 d2:Nat}
theorem TD.app2{s z:Operand}{t by_:Nat}{y:AV}{g2:Bool}[hA:HasApp P t (e,k,by_)](hl:loOf L ss i=1)(hh:hiOf L ss i=1)(hs:stp ss i=1)(hg:o.guard=none)(hd:o.dst=some d2)(hn:Nat.blt d2 n=true)
  (h:o.op= .call {callee:=.builtin .append,args:=#[s,z],argTypes:=#[t,t]}) (hsv:s= .tmp d1) (hz:∀γ,aev (envGet ((d1,.val γ)::env)) z=some (g2,y)) (hg2:g2=true) (hy:AVle y (.sl k E2))
  (h1:E2.all allOne=true) (hb:(E1.length+E2.length)*by_<=140737488355328) (hb':E1.length+E2.length<=9223372036854775807)
  (next:TD P (CM e k H E1 E2 d1 d2) L ss n (i+1) rest ((d2,.any)::env) K):TD P (CM e k H E1 E2 d1 d2) L ss n i (o::rest) env K:=
 ⟨.any,λj q1 q2=>by
  obtain rfl:j=1:=by omega
  rw[hs];refine EOkX.of hg (λB I w r a hw hm ho hzz=>?_);have ho':OpsOk I w (envGet ((d1,.val (a.tmps.getD d1 undef))::env)) a o:=λx hx y hy=>by
   cases x with
   | tmp t=>
    simp only[aeval] at hy;rw[envGet_cons] at hy;split at hy
    ·rename_i e;subst e;cases hy;exact .val _
    ·exact ho _ hx y hy
   | const v=>exact ho _ hx y hy
   | global g=>exact ho _ hx y hy
   | func f=>exact ho _ hx y hy
  refine (appendRow_runs0 (news:=E2) (v:=a.tmps.getD d1 undef) (g1:=true) (H':=λv=>.row e k v (E1++E2).length (E1++E2).flatten::H) h (by subst hsv;simp[aev,aeval,envGet_cons,strip]) rfl (hz _) hg2 hy h1 (λv'=>by rw[List.length_append,List.flatten_append];exact .head _ _ _) hb hb' hw hm ho').mono (λv w' ⟨I',a1,a2,a3⟩=>⟨I',a1,a2,?_,.any _⟩) (λ_ _ h=>h);show HeapOk B I' w' (.row e k ((a.put o.dst v).tmps.getD d2 undef) (E1++E2).length (E1++E2).flatten::H);rw[hd,tmps_put_same (hzz d2 hd)];exact a3,dstOk_of hd hn,Yz⟩
end
def fldV(P:Program)(t:TypeId)(f:Nat):Option Nat:=
 match P.underlying t with
 | some (.struct fs)=>match fs[f]? with
  | some fd=>match tyInfo P fd.type with
   | some (false,_)=>some fd.offset
   | _=>none
  | none=>none
 | _=>none
class HasFldV (P:Program) (t f:Nat) (x:outParam Nat):Prop where h:fldV P t f=some x
section
variable{P:Program}{H:List Ent}{ρ:Nat->Option AV}{o:Oper}
end
section
variable{c:Ctx}{r:Option Nat}{P:Program}{l:List Oper}{st:St}{Q:Exit->Act->World->Prop}
end
section
variable{c:Ctx}{r:Option Nat}{P:Program}{l:List Oper}{Q:Exit->Act->World->Prop}
end
section
variable{P:Program}{L rest:List Oper}{n i d e:Nat}{o:Oper}{env:List (Nat×AV)}{K:List (Nat×AV)->Prop}{x:AV}{H:List Ent}{x0 x1:AV}{dW:Nat}
end
theorem buildSlice_run'{P:Program}{t e:TypeId}{n k:Nat}{zs:List Value}(hue:P.underlying t=some (.slice e))(hr:rowInfo P t=some (k,zs))(parts:Array (Nat×Value))(us:Array Value)(hsm:n*k<=16777216)(hpos:0<n*k)
  (h:Instr.fill (λi=>some (i*k,k)) (rowZero n k zs).toArray parts.toList=some us) (w:World):
  (Instr.buildSlice t n parts).run P w= .ok (.slice (some ⟨w.heap.size,0,none⟩) n n) (w.alloc (.cells us e)):=by
 obtain⟨e',i,z,hu,hi,hz,hk,hzs⟩:=rowInfo_spec hr;obtain rfl:e'=e:=by rw[hu] at hue;cases hue;rfl
 have hsm': ¬n*i.size>2^24:=by rw[hk];omega
 have hpos': ¬n*i.size=0:=by rw[hk];omega
 have hf:Instr.fill (λj=>some (j*i.size,i.size)) ((Array.range (n*i.size)).map (z.cells[· %z.cells.size]!)) parts.toList=some us:=?_
 ·simp[Instr.buildSlice,run_underlying hu,sizeOf,typeInfo,zeroValue,hi,hz,hsm',hpos',hf,newRow]
 rw[hk, <-h];congr 1;apply Array.ext';simp only[rowZero,Array.toList_map,Array.toList_range, <-hzs];refine List.map_congr_left λj _=>?_;simp[Array.getElem!_eq_getD,Array.getD_eq_getD_getElem?,List.getD_eq_getElem?_getD]
section
variable{c:Ctx}{r:Option Nat}{P:Program}{ops:Array Oper}{l rest:List Oper}{o:Oper}{env:List (Nat×AV)}{H:List Ent}{Q:Exit->Act->World->Prop}{d:Nat}
theorem OL.rowOwn{t e by_:Nat}{n k:Nat}{ps:Array (Nat×Operand)}{zs:List Value}{ys:List (Bool×AV)}{els:List (List AV)}[hA:HasApp P t (e,k,by_)][hR:HasRow P t (k,zs)](hgd:o.guard=none)(hd:o.dst=some d)(hn:Nat.blt d c.n=true)(h:o.op= .buildSlice t n ps)
  (hy:aevs (envGet env) (ps.toList.map (·.2))=some ys) (hg:ys.all (·.1)=true) (hels:(partsOf ps.toList ys).map (λx=>bcells x.2)=els) (hlen:Nat.beq els.length n=true) (hk:els.all (λe=>Nat.beq e.length k)=true)
  (hsm:Nat.ble (n*k) 16777216=true) (hpos:Nat.blt 0 (n*k)=true)
  (hf:bfill (λi=>some (i*k,k)) ((rowZero n k zs).map .val) (partsOf ps.toList ys)=some els.flatten)
  (next:∀v,OL c r P ops rest ⟨(d,.as (.sl k els) v)::env,.own e k v::H⟩ Q):OL c r P ops (o::rest) ⟨env,H⟩ Q:=by
 intro a w s;refine wpListIn_plain hgd λK hK=>?_;obtain⟨I,hw,he,hh,hv⟩:=s.mem;have ho:=hv.ops o;obtain⟨e1,e2⟩:=parts_rel ho ps Yh hy hg;obtain⟨us,h1,h2⟩:=bfill_rel _ _ ((rowZero n k zs).map .val) (rowZero n k zs).toArray els.flatten (by simpa using relL_val _) e1 e2 hf;have hsm:=Nat.le_of_ble_eq_true hsm;have hpos:0<n*k:=Nat.le_of_ble_eq_true hpos;obtain⟨i,z,hu,hi,hz,hki,hby,hzs,hk0⟩:=appInfo_spec hA.h;have hrun:=buildSlice_run' hu hR.h (ps.map λ(i,x)=>(i,a.eval x)) us hsm hpos h1 w;obtain⟨a1,a2,a3,a4⟩:=Imm.add_new hw e us;have hn':=Nat.eq_of_beq_eq_true hlen;have hnk:n<=n*k:=by
  rcases Nat.eq_zero_or_pos k with rfl | hk'
  ·simp at hpos
  ·exact Nat.le_mul_of_pos_right n hk'
 have hkl:∀x∈els,x.length=k:=λx hx=>Nat.eq_of_beq_eq_true (List.all_eq_true.1 hk x hx);have hus:us.size=n*k:=by
  have:=h2.length;rw[flatten_len hkl,hn'] at this;simpa using this
 refine Runs.of_value (R:=λv w'=>v= .slice (some ⟨w.heap.size,0,none⟩) n n/\w'=w.alloc (.cells us e)) (E:=λ_ _=>False) (v:=.slice (some ⟨w.heap.size,0,none⟩) n n) (w':=w.alloc (.cells us e)) Yk (by simp[execOp,h,hrun]) ⟨rfl,rfl⟩ K Q ?_ (λ_ _ h=>h.elim);rintro v w' ⟨rfl,rfl⟩;have hrow:(w.alloc (.cells us e)).ownsRow c.B e k (.slice (some ⟨w.heap.size,0,none⟩) n n) n us.toList:=⟨by simpa using hus,.inr ⟨w.heap.size,n,us,rfl,hw.base,heap_alloc_new w _,Nat.le_refl _,Yy,hus,by rw[<-hus, <-Array.length_toList];exact List.take_length⟩⟩;have h3:=a3 _ hh;refine hK _ _ (next (.slice (some ⟨w.heap.size,0,none⟩) n n) _ _ ⟨YE,YA,_,a1,he.trans a2,⟨λf hf=>?_,List.pairwise_cons.2 ⟨λf hf b hb e=>?_,h3.apart⟩⟩,?_⟩)
 ·rcases List.mem_cons.1 hf with rfl | hf
  ·refine⟨n,us.toList,hrow,λg hg o hgo ho=>?_⟩;simp[Value.ownBlock] at hg;subst hg;rcases ho with ho | ⟨_,ho⟩
   ·exact absurd (hw.lt ho) (Nat.lt_irrefl _)
   ·omega
  ·exact h3.ok f hf
 ·simp[Ent.foot,Value.ownBlock] at hb;subst hb;exact absurd (Ent.foot_lt (hh.ok f hf) e).2 (Nat.lt_irrefl _)
 ·rw[hd];refine (hv.keep a2.keeps).put (dst:=some d) (by rw[s.size];exact hn) (.as _ _ (.sl _ _ _ _ _ _ hn' (Nat.le_refl _) Yy ?_));exact els_of_cells els 0 hkl (a4 _ h2)
end
def OCall(P:Program)(f:FuncId)(xs:List AV)(e k:Nat)(y:AV):Prop:=∀H,ACall P f xs H (λx H'=>∃v,x= .as y v/\H'= .own e k v::H) (λ_ _=>False)
section
variable{c:Ctx}{r:Option Nat}{P:Program}{l:List Oper}{Q:Exit->Act->World->Prop}
end
section
variable{P:Program}{L rest:List Oper}{ss:List Nat}{n i d:Nat}{o:Oper}{env:List (Nat×AV)}{K:List (Nat×AV)->Prop}{x:AV}{H:List Ent}{e1 k1 e2 k2 d1 d2:Nat}
theorem OCall.runs{f:FuncId}{xs:List AV}{e k:Nat}{y:AV}{ρ:Nat->Option AV}(hc:CallOk P ρ o f xs)(h:OCall P f xs e k y)(H:List Ent){B:Nat}{I:Imm}{w:World}{r:Option Nat}{a:Act}(hw:WOk B I w)(hh:HeapOk B I w H)(ho:OpsOk I w ρ a o):
  Runs P r o a w (λv w'=>∃I',WOk B I' w'/\Ext B I w I' w'/\HeapOk B I' w' (.own e k v::H)/\Rel I' w' y v) (λ_ _=>False):=by
 obtain⟨vs,h1,h2⟩:=hc.run I w a ho;obtain⟨hok,hcall⟩:=h H;refine Runs.of_enter hc.nodefer (h2 hok) ((hcall B I w vs hw hh h1).mono λe w' hr=>?_);obtain⟨I',H',hw',he',hh',hr⟩:=hr;rcases hr with⟨v,x,rfl,hx,u,rfl,rfl⟩ | ⟨v,x,rfl,_,hE⟩
 ·cases hx with
  | as _ _ hx=>exact⟨I',hw',he',hh',hx⟩
 ·exact hE.elim
end
def blkOf:Value->Nat
 | .pointer (some a)=>a.block
 | _=>0
inductive ES where
 | own (i d e k:Nat) (y:AV)
 | al (i d:Nat) (t:TypeId) (zs:List Value)
def ES.i:ES->Nat
 | .own i _ _ _ _=>i
 | .al i _ _ _=>i
def ES.d:ES->Nat
 | .own _ d _ _ _=>d
 | .al _ d _ _=>d
def ES.en:ES->Value->Ent
 | .own _ _ e k _,v=>.own e k v
 | .al _ _ t zs,v=>.blk (blkOf v) t (zs.map .val)
def ES.okE:ES->Value->Prop
 | .own _ _ _ _ _,_=>True
 | .al _ _ _ _,v=>v= .pointer (some ⟨blkOf v,0,none⟩)
def ES.av:ES->Value->AV
 | .own _ _ _ _ y,v=>.as y v
 | .al _ _ _ _,v=>.p (blkOf v) 0
def ES.y:ES->AV
 | .own _ _ _ _ y=>y
 | .al _ _ _ _=>.any
def ES.mem(S:Nat->Bool)(f:Nat->Value)(es:List ES):List Ent:=es.filterMap λs=>if S s.i then some (s.en (f s.d)) else none
structure LS where
 i:Nat
 d:Nat
 ds:List Nat
 x:List Value->AV
def EM(H:List Ent)(es:List ES)(ls:List LS)(S:Nat->Bool):Mem:=λB a I w=>
 (∀s∈es,S s.i=true->s.okE (a.tmps.getD s.d undef))/\HeapOk B I w (ES.mem S (λd=>a.tmps.getD d undef) es++H)/\∀t∈ls,S t.i=true->Rel I w (t.x (t.ds.map λd=>a.tmps.getD d undef)) (a.tmps.getD t.d undef)
def esChk(l:List Oper)(es:List ES)(ls:List LS)(k m:Nat):Bool:=(es.all λs=>Nat.ble k s.i && Nat.blt s.i m) && (ls.all λt=>Nat.ble k t.i && Nat.blt t.i m && (es.all λs=>!Nat.beq s.i t.i && !Nat.beq s.d t.d) && t.ds.all λd=>es.any λs=>Nat.beq s.d d && ((masks l []).getD t.i 0).testBit s.i) && decide (es.map ES.i).Nodup && decide (es.map ES.d).Nodup && decide (ls.map LS.i).Nodup && decide (ls.map LS.d).Nodup
theorem esChk_of{l:List Oper}{es:List ES}{ls:List LS}{k m:Nat}(h:esChk l es ls k m=true):(∀s∈es,Nat.ble k s.i=true/\Nat.blt s.i m=true)/\(∀t∈ls,Nat.ble k t.i=true/\Nat.blt t.i m=true/\(∀s∈es,s.i≠t.i/\s.d≠t.d)/\∀d∈t.ds,∃s∈es,s.d=d/\((masks l []).getD t.i 0).testBit s.i=true)/\(es.map ES.i).Nodup/\(es.map ES.d).Nodup/\(ls.map LS.i).Nodup/\(ls.map LS.d).Nodup:=by
 have ne:∀{a b:Nat},Nat.beq a b=false->a≠b:=λh e=>by subst e;simp at h
 simp only[esChk,Bool.and_eq_true,List.all_eq_true,decide_eq_true_eq,List.any_eq_true,Bool.not_eq_true'] at h;obtain⟨⟨⟨⟨⟨h1,h2⟩,h3⟩,h4⟩,h5⟩,h6⟩:=h;refine⟨h1,λt ht=>?_,h3,h4,h5,h6⟩;obtain⟨⟨⟨a1,a2⟩,a3⟩,a4⟩:=h2 t ht;refine⟨a1,a2,λs hs=>⟨ne (a3 s hs).1,ne (a3 s hs).2⟩,λd hd=>?_⟩;obtain⟨s,hs,b1,b2⟩:=a4 d hd;exact⟨s,hs,Nat.eq_of_beq_eq_true b1,b2⟩
theorem mem_some{S:Nat->Bool}{f:Nat->Value}{s:ES}{r:List ES}(h:S s.i=true):ES.mem S f (s::r)=s.en (f s.d)::ES.mem S f r:=List.filterMap_cons_some (by rw[if_pos h])
theorem mem_none{S:Nat->Bool}{f:Nat->Value}{s:ES}{r:List ES}(h:S s.i=false):ES.mem S f (s::r)=ES.mem S f r:=List.filterMap_cons_none (by rw[if_neg (by rw[h];simp)])
theorem mem_zero{f:Nat->Value}{k:Nat}:∀{es:List ES},(∀s∈es,Nat.blt s.i k=false)->ES.mem (λi=>Nat.blt i k) f es= []
 | [],_=>rfl
 | s::r,h=>by rw[mem_none (h s (.head _)),mem_zero λu hu=>h u (.tail _ hu)]
theorem mem_all{f:Nat->Value}{m:Nat}:∀{es:List ES},(∀s∈es,Nat.blt s.i m=true)->ES.mem (λi=>Nat.blt i m) f es=es.map λs=>s.en (f s.d)
 | [],_=>rfl
 | s::r,h=>by rw[mem_some (h s (.head _)),mem_all λu hu=>h u (.tail _ hu)];rfl
theorem EnvOk.made{I:Imm}{w:World}{a:Act}{env:List (Nat×AV)}(h:EnvOk I w (envGet env) a):∀(es:List ES),(∀s∈es,s.okE (a.tmps.getD s.d undef)/\envGet env s.d=some s.y)->EnvOk I w (envGet (es.map (λs=>(s.d,s.av (a.tmps.getD s.d undef)))++env)) a
 | [],_=>h
 | s::r,hv=>λt x hx=>by
  rw[List.map_cons,List.cons_append,envGet_cons] at hx;split at hx
  ·rename_i e;cases hx;subst e;have h1:=hv s (.head _);cases s with
   | own i d e k y=>exact .as _ _ (h d y h1.2)
   | al i d t zs=>
    have h2:a.tmps.getD d undef= .pointer (some ⟨blkOf (a.tmps.getD d undef),0,none⟩):=h1.1;show Rel I w (.p (blkOf (a.tmps.getD d undef)) 0) (a.tmps.getD d undef);generalize a.tmps.getD d undef=v at h2;rw[h2];exact .val _
  ·exact EnvOk.made h r (λu hu=>hv u (.tail _ hu)) t x hx
section
variable{c:Ctx}{r:Option Nat}{P:Program}{l:List Oper}{Q:Exit->Act->World->Prop}
theorem EnvOk.late{I:Imm}{w:World}{a:Act}{env:List (Nat×AV)}(h:EnvOk I w (envGet env) a):∀(ls:List LS),(∀t∈ls,Rel I w (t.x (t.ds.map λd=>a.tmps.getD d undef)) (a.tmps.getD t.d undef))->EnvOk I w (envGet (ls.map (λt=>(t.d,t.x (t.ds.map λd=>a.tmps.getD d undef)))++env)) a
 | [],_=>h
 | t::r,hv=>λu x hx=>by
  rw[List.map_cons,List.cons_append,envGet_cons] at hx;split at hx
  ·rename_i e;cases hx;subst e;exact hv t (.head _)
  ·exact EnvOk.late h r (λs hs=>hv s (.tail _ hs)) u x hx
theorem DP.anyE{env:List (Nat×AV)}{H:List Ent}(es:List ES)(ls:List LS)(k m n:Nat)(hn:c.n=n)(hchk:segChk l k m=true)(hes:esChk l es ls k m=true)(hkm:Nat.ble k m=true)(hml:Nat.ble m l.length=true)(hlk:(l.all λo=>(looks l o).all λt=>Nat.blt t n)=true)
  (h:UD P (EM H es ls) l c.n k ((l.drop k).take (m - k)) env λenv=>(∀s∈es,envGet env s.d=some s.y)/\∀f:Nat->Value,DP c r P l Q m ⟨ls.map (λt=>(t.d,t.x (t.ds.map f)))++(es.map (λs=>(s.d,s.av (f s.d)))++env),es.map (λs=>s.en (f s.d))++H⟩):DP c r P l Q k ⟨env,H⟩:=by
 obtain⟨hv1,hv0,hv2,hv3,_⟩:=esChk_of hes;have blk:∀i,Nat.ble k i=true->Nat.blt i k=false:=λi hi=>by
  have h1:=Nat.le_of_ble_eq_true hi;rw[Bool.eq_false_iff];intro hb;have:=Nat.lt_of_succ_le (by simpa [Nat.blt] using hb);omega
 have hz:∀s∈es,Nat.blt s.i k=false:=λs hs=>blk _ (hv1 s hs).1;refine DP.anyU (M:=EM H es ls) hchk (Nat.le_of_ble_eq_true hkm) (Nat.le_of_ble_eq_true hml) (by rw[hn];exact hlk) (λB a I w hh=>⟨λs hs h1=>?_,?_,λt ht h1=>?_⟩) (h.mono λenv ⟨he,hd⟩ a w I q1 q2 q3 q4 q5 q6=>?_)
 ·have h1:Nat.blt s.i k=true:=h1;rw[hz s hs] at h1;cases h1
 ·rw[mem_zero hz];exact hh
 ·have h1:Nat.blt t.i k=true:=h1;rw[blk _ (hv0 t ht).1] at h1;cases h1
 ·obtain⟨hb,hh,hl⟩:=q5;have hh':HeapOk c.B I w (es.map (λs=>s.en (a.tmps.getD s.d undef))++H):=by rwa [mem_all λs hs=>(hv1 s hs).2] at hh
  exact hd (λd=>a.tmps.getD d undef) a w ⟨q1,q2,I,q3,q4,hh',(q6.made es λs hs=>⟨hb s hs (hv1 s hs).2,he s hs⟩).late ls λt ht=>hl t ht (hv0 t ht).2.1⟩
end
section
variable{P:Program}{L rest:List Oper}{es:List ES}{ls:List LS}{n i d:Nat}{o:Oper}{env:List (Nat×AV)}{K:List (Nat×AV)->Prop}{x:AV}{H:List Ent}
end
abbrev Js:=List (Option Value)
def kvals(xs:Nat->Js->AV)(J:Js):Nat->List CE->List Bool->List (Nat×AV)
 | q,e::es,true::p=>(e.d,xs q J)::kvals xs J (q+1) es p
 | q,_::es,false::p=>kvals xs J (q+1) es p
 | _,_,_=>[]
def KM(HS:Js->List Ent)(xs:Nat->Js->AV)(es:List CE)(S:Nat->Bool):Mem:=λB a I w=>
 HeapOk B I w (HS (CE.inst es (CE.pat es S) λd=>a.tmps.getD d undef))/\∀q e,es[q]? =some e->S e.i=true->Rel I w (xs q (CE.inst es (CE.pat es S) λd=>a.tmps.getD d undef)) (a.tmps.getD e.d undef)
theorem kvals_get{xs:Nat->Js->AV}{J:Js}{env:List (Nat×AV)}{t:Nat}{y:AV}{S:Nat->Bool}:∀(es:List CE) (q:Nat),envGet (kvals xs J q es (CE.pat es S)++env) t=some y->(∃j e,es[j]? =some e/\S e.i=true/\e.d=t/\y=xs (q+j) J)\/envGet env t=some y
 | [],q,h=>.inr h
 | e::es,q,h=>by
  simp only[CE.pat,List.map_cons] at h;cases hb:S e.i with
  | true=>
   rw[hb] at h;simp only[kvals,List.cons_append,envGet_cons] at h;split at h
   ·rename_i e1;cases h;exact .inl ⟨0,e,rfl,hb,e1.symm,rfl⟩
   ·rcases kvals_get es (q+1) h with⟨j,e',h1,h2,h3,h4⟩ | h
    ·exact .inl ⟨j+1,e',h1,h2,h3,by rw[h4,show q+1+j=q+(j+1) by omega]⟩
    ·exact .inr h
  | false=>
   rw[hb] at h;rcases kvals_get es (q+1) h with⟨j,e',h1,h2,h3,h4⟩ | h
   ·exact .inl ⟨j+1,e',h1,h2,h3,by rw[h4,show q+1+j=q+(j+1) by omega]⟩
   ·exact .inr h
theorem ops_kvals{I:Imm}{w:World}{a:Act}{o:Oper}{env:List (Nat×AV)}{xs:Nat->Js->AV}{J:Js}{S:Nat->Bool}{es:List CE}(hk:∀q e,es[q]? =some e->S e.i=true->Rel I w (xs q J) (a.tmps.getD e.d undef))(h:OpsOk I w (envGet env) a o):
  OpsOk I w (envGet (kvals xs J 0 es (CE.pat es S)++env)) a o:=λx hx y hy=>by
 cases x with
 | tmp u=>
  simp only[aeval] at hy;rcases kvals_get es 0 hy with⟨j,e,h1,h2,h3,h4⟩ | hy
  ·have:=hk j e h1 h2;rw[Nat.zero_add] at h4;rw[h4, <-h3];exact this
  ·exact h _ hx y hy
 | const v=>exact h _ hx y hy
 | global g=>exact h _ hx y hy
 | func f=>exact h _ hx y hy
def KOk(X:PX)(P:Program)(H:List Ent)(H':Value->List Ent)(x:Value->AV)(ρ:Nat->Option AV)(o:Oper):Prop:=∀(B:Nat) (I:Imm) (w:World) (r:Option Nat) (a:Act),WOk B I w->HeapOk B I w H->OpsOk I w ρ a o->
 Runs P r o a w (λv w'=>∃I',WOk B I' w'/\Ext B I w I' w'/\HeapOk B I' w' (H' v)/\Rel I' w' (x v) v) (X B I w)
section
variable{c:Ctx}{r:Option Nat}{P:Program}{l:List Oper}{Q:Exit->Act->World->Prop}{X:PX}
theorem DP.anyK{env:List (Nat×AV)}{H:List Ent}(es:List CE)(HS:Js->List Ent)(xs:Nat->Js->AV)(k m n:Nat)(hn:c.n=n)(hchk:segChk l k m=true)(hes:(es.all λe=>Nat.ble k e.i && Nat.blt e.i m)=true)(hkm:Nat.ble k m=true)(hml:Nat.ble m l.length=true)(hlk:(l.all λo=>(looks l o).all λt=>Nat.blt t n)=true)
  (h0:HS (es.map λ_=>none)=H)
  (pan:∀(I:Imm) (w:World) (a:Act) ch w',a.defers=c.ds->a.tmps.size=c.n->WOk c.B I w->Ext c.B c.I0 c.w0 I w->X c.B I w ch w'->Q (.panic ch) a w')
  (h:UDX X P (KM HS xs es) l c.n k ((l.drop k).take (m - k)) env λenv=>∀(f:Nat->Value),DP c r P l Q m ⟨kvals xs (es.map λe=>some (f e.d)) 0 es (es.map λ_=>true)++env,HS (es.map λe=>some (f e.d))⟩):DP c r P l Q k ⟨env,H⟩:=by
 simp only[List.all_eq_true,Bool.and_eq_true] at hes;have blk:∀i,Nat.ble k i=true->Nat.blt i k=false:=λi hi=>by
  have h1:=Nat.le_of_ble_eq_true hi;rw[Bool.eq_false_iff];intro hb;have:=Nat.lt_of_succ_le (by simpa [Nat.blt] using hb);omega
 refine DP.anyUX (M:=KM HS xs es) hchk (Nat.le_of_ble_eq_true hkm) (Nat.le_of_ble_eq_true hml) (by rw[hn];exact hlk) (λB a I w hh=>⟨?_,λq e he hs=>?_⟩) pan (h.mono λenv hd a w I q1 q2 q3 q4 q5 q6=>?_)
 ·have e:CE.inst es (CE.pat es λi=>Nat.blt i k) (λd=>a.tmps.getD d undef)=es.map λ_=>none:=by
   rw[inst_pat];exact List.map_congr_left λe he=>by rw[blk _ (hes e he).1];rfl
  rw[e,h0];exact hh
 ·have h3:Nat.blt e.i k=true:=hs;rw[blk _ (hes e (List.mem_of_getElem? he)).1] at h3;cases h3
 ·obtain⟨hh,hr⟩:=q5;have e:CE.inst es (CE.pat es λi=>Nat.blt i m) (λd=>a.tmps.getD d undef)=es.map λe=>some (a.tmps.getD e.d undef):=by
   rw[inst_pat];exact List.map_congr_left λe he=>by rw[(hes e he).2];rfl
  have e2:CE.pat es (λi=>Nat.blt i m)=es.map λ_=>true:=List.map_congr_left λe he=>(hes e he).2;rw[e] at hh hr;refine hd (λd=>a.tmps.getD d undef) a w ⟨q1,q2,I,q3,q4,hh,λt y hy=>?_⟩;rw[<-e2] at hy;rcases kvals_get es 0 hy with⟨j,e',h1,h2,h3,h4⟩ | hy
  ·have:=hr j e' h1 h2;rw[Nat.zero_add] at h4;rw[h4, <-h3];exact this
  ·exact q6 t y hy
end
section
variable{P:Program}{L rest:List Oper}{es:List CE}{n i d:Nat}{o:Oper}{env:List (Nat×AV)}{K:List (Nat×AV)->Prop}{x:AV}{HS:Js->List Ent}{xs:Nat->Js->AV}{X:PX}
theorem UD.popK(pats:List (List Bool))(hi:(es.all λe=>!Nat.beq e.i i && !Nat.beq e.d d)=true)(hf:CE.fits L es i pats=true)(hg:o.guard=none)(hd:o.dst=some d)(hn:Nat.blt d n=true)
  (h:AllP pats λp=>∀f,POp P (HS (CE.inst es p f)) (envGet (kvals xs (CE.inst es p f) 0 es p++env)) o x) (next:UDX X P (KM HS xs es) L n (i+1) rest ((d,x)::env) K):UDX X P (KM HS xs es) L n i (o::rest) env K:=
 ⟨x,λS hshut hmask hSi=>EOkX.of hg (λB I w r a hw hm ho hz=>by
  obtain⟨hm,hr⟩:=hm;simp only[List.all_eq_true,Bool.and_eq_true,Bool.not_eq_true'] at hi;have ne:∀{a b:Nat},Nat.beq a b=false->a≠b:=λh e=>by subst e;simp at h
  refine (h.at _ (CE.fits_of hf hshut hmask hSi) (λd=>a.tmps.getD d undef) B I w r a _ hw hm (λe he=>he) (ops_kvals hr ho)).mono (λv w' ⟨I',a1,a2,a3,a4⟩=>⟨I',a1,a2,?_,a4⟩) (λ_ _ h=>h.elim);have e:CE.inst es (CE.pat es (addS S i)) (λd=>(a.put o.dst v).tmps.getD d undef)=CE.inst es (CE.pat es S) (λd=>a.tmps.getD d undef):=by
   rw[inst_pat,inst_pat];exact List.map_congr_left λe he=>by rw[addS_other (ne (hi e he).1),hd,tmps_put_other (ne (hi e he).2)]
  refine⟨by rw[e];exact a3,λq e' he' hs=>?_⟩;have hme:=List.mem_of_getElem? he';rw[e,show (a.put o.dst v).tmps.getD e'.d undef=a.tmps.getD e'.d undef by rw[hd,tmps_put_other (ne (hi e' hme).2)]];rw[addS_other (ne (hi e' hme).1)] at hs;exact (hr q e' he' hs).keep a2.keeps),dstOk_of hd hn,Yz⟩
theorem UD.effK(q:Nat)(pats:List (List Bool)){e:CE}(he:es[q]? =some e)(hi:e.i=i)(ho:((es.take q++es.drop (q+1)).all λe'=>!Nat.beq e'.i i && !Nat.beq e'.d e.d)=true)(hf:CE.fits L es i pats=true)(hg:o.guard=none)(hd:o.dst=some e.d)(hn:Nat.blt e.d n=true)
  (h:AllP pats λp=>∀f,KOk X P (HS (CE.inst es p f)) (λv=>HS ((CE.inst es p f).set q (some v))) (λv=>xs q ((CE.inst es p f).set q (some v))) (envGet (kvals xs (CE.inst es p f) 0 es p++env)) o/\∀v q',p[q']? =some true->xs q' ((CE.inst es p f).set q (some v))=xs q' (CE.inst es p f))
  (next:UDX X P (KM HS xs es) L n (i+1) rest ((e.d,.any)::env) K):UDX X P (KM HS xs es) L n i (o::rest) env K:=
 ⟨.any,λS hshut hmask hSi=>EOkX.of hg (λB I w r a hw hm hops hz=>by
  obtain⟨hm,hr⟩:=hm;simp only[List.all_eq_true,Bool.and_eq_true,Bool.not_eq_true'] at ho;have ne:∀{a b:Nat},Nat.beq a b=false->a≠b:=λh e=>by subst e;simp at h
  obtain⟨hk,hst⟩:=h.at _ (CE.fits_of hf hshut hmask hSi) (λd=>a.tmps.getD d undef);refine (hk B I w r a hw hm (ops_kvals hr hops)).mono (λv w' ⟨I',a1,a2,a3,a4⟩=>⟨I',a1,a2,?_,.any _⟩) (λ_ _ h=>h);have hoth:∀q' e',q'≠q->es[q']? =some e'->e'.i≠e.i/\(a.put o.dst v).tmps.getD e'.d undef=a.tmps.getD e'.d undef:=λq' e' hq he'=>by
   have hm':e'∈es.take q++es.drop (q+1):=by
    rw[List.mem_append];rcases Nat.lt_or_gt_of_ne hq with h1 | h1
    ·exact .inl (List.mem_of_getElem? (i:=q') (by rw[List.getElem?_take,if_pos h1];exact he'))
    ·exact .inr (List.mem_of_getElem? (i:=q' - (q+1)) (by rw[List.getElem?_drop,show q+1+(q' - (q+1))=q' by omega];exact he'))
   refine⟨by rw[hi];exact ne (ho _ hm').1,?_⟩;rw[hd];exact tmps_put_other (ne (ho _ hm').2)
  have hval:(a.put o.dst v).tmps.getD e.d undef=v:=by rw[hd];exact tmps_put_same (hz _ hd)
  have hset:=inst_set (es:=es) (S:=S) (f:=λd=>a.tmps.getD d undef) (f':=λd=>(a.put o.dst v).tmps.getD d undef) (u:=v) he hval hoth;rw[<-hi];refine⟨by rw[hset];exact a3,λq' e' he' hs=>?_⟩;rw[hset];by_cases hq:q'=q
  ·subst hq;rw[he] at he';cases he';rw[hval];exact a4
  ·obtain⟨o1,o2⟩:=hoth q' e' hq he';rw[addS_other o1] at hs;rw[o2,hst v q' (by rw[CE.pat,List.getElem?_map,he'];exact congrArg some hs)];exact (hr q' e' he' hs).keep a2.keeps),dstOk_of hd hn,Yz⟩
end
section
variable{P:Program}{H:List Ent}{ρ:Nat->Option AV}{o:Oper}{X:PX}
theorem KOk.bcall{f:FuncId}{ys:List AV}{Φ:AV->List Ent->Prop}{H':Value->List Ent}{x:Value->AV}(hc:CallOk P ρ o f ys)(h:∀B,BCall B P f ys H Φ (λ_ _=>False))(hq:∀v y H1,Φ y H1->H' v=H1/\x v=y):KOk X P H H' x ρ o:=λB I w r a hw hh ho=>
 (bcall_runs (c:=⟨B,I,w,0,[]⟩) hc (h B) hw hh ho).mono (λv w' hR=>by
  obtain⟨I',H2,z,a1,a2,a3,a4,a5⟩:=hR;obtain⟨e1,e2⟩:=hq v _ _ a5;exact⟨I',a1,a2,by rw[e1];exact a3,by rw[e2];exact a4⟩) (λ_ _ h=>h.elim)
theorem KOk.pan{f:FuncId}{ys:List AV}{Hf:List Ent}{pv:AV}{v0:Value}{H':Value->List Ent}{x:Value->AV}(hc:CallOk P ρ o f ys)(h:RCall P f ys H none Hf pv)(hv:pv.Const v0):KOk (PanX v0 Hf) P H H' x ρ o:=λB I w r a hw hh ho=>by
 obtain⟨vs,h1,h2⟩:=hc.run I w a ho;obtain⟨hok,hcall⟩:=h;refine Runs.of_enter hc.nodefer (h2 hok) ((hcall B I w vs hw hh h1).mono λe w' hr=>?_);obtain⟨I',H1,b1,b2,b3,hr⟩:=hr;rcases hr with⟨v',x',rfl,_,e⟩ | ⟨v',x',rfl,hx,_,rfl,rfl⟩
 ·cases e
 ·rw[hv.is _ _ _ hx];exact⟨rfl,I',b1,b2,b3⟩
theorem KOk.pop{y:AV}{H':Value->List Ent}{x:Value->AV}(h:POp P H ρ o y)(hH:∀v,H' v=H)(hx:∀v,x v=y):KOk X P H H' x ρ o:=λB I w r a hw hh ho=>
 (h B I w r a _ hw hh (λe he=>he) ho).mono (λv w' ⟨I',a1,a2,a3,a4⟩=>⟨I',a1,a2,by rw[hH];exact a3,by rw[hx];exact a4⟩) (λ_ _ h=>h.elim)
theorem KOk.sto{H1:List Ent}{H':Value->List Ent}{x:Value->AV}(h:SOk P H H1 ρ o)(hH:∀v,H' v=H1)(hx:∀v,x v= .any):KOk X P H H' x ρ o:=λB I w r a hw hh ho=>
 (h B I w r a hw hh ho).mono (λv w' ⟨I',a1,a2,a3⟩=>⟨I',a1,a2,by rw[hH];exact a3,by rw[hx];exact .any _⟩) (λ_ _ h=>h.elim)
abbrev noMem:List Ent:=[.obj 0 (.deferred none),.obj 0 (.deferred (some []))]
theorem noMem_no{B:Nat}{I:Imm}{w:World}{Hc:List Ent}(h:HeapOk B I w Hc)(hm:∀e∈noMem,e∈Hc):False:=by
 have h1:=(h.ok _ (hm _ (.head _))).2.1;have h2:=(h.ok _ (hm _ (.tail _ (.head _)))).2.1;rw[h1] at h2;cases h2
theorem Sat.no{c:Ctx}{env:List (Nat×AV)}{a:Act}{w:World}(s:Sat c ⟨env,noMem⟩ a w):False:=let ⟨_,_,_,hh,_⟩:=s.mem;noMem_no hh λ_ h=>h
theorem KOk.no{H':Value->List Ent}{x:Value->AV}:KOk X P noMem H' x ρ o:=λB I w r a hw hh ho=>(noMem_no hh λ_ h=>h).elim
theorem POp.no{x:AV}:POp P noMem ρ o x:=λB I w r a Hc hw hh hs ho=>(noMem_no hh hs).elim
theorem KOk.box{t:TypeId}{z:Operand}{y:AV}{g:Bool}{H':Value->List Ent}{x:Value->AV}(h:o.op= .box t z)(hz:aev ρ z=some (g,y))(hg:g=true)(hb:bOk y=true)(hH:∀v,H' v= .blk (blkOf v) t (bcells y)::H)(hx:∀v,x v= .p (blkOf v) 0):KOk X P H H' x ρ o:=λB I w r a hw hh ho=>by
 have h1:=bcells_rel (ho.get Yh hz hg) hb;refine Runs.of_value Yk (v:=.pointer (some ⟨w.heap.size,0,none⟩)) (w':=w.alloc (.cells (a.eval z).cells t)) Yau ⟨I,hw.alloc _,ext_alloc hw _,?_,?_⟩
 ·rw[hH];exact hh.new hw t _ _ h1
 ·rw[hx];exact .val _
theorem KOk.al{t:TypeId}{zs:List Value}{H':Value->List Ent}{x:Value->AV}[hz:HasZero P t zs](h:o.op= .alloc t)(hH:∀v,H' v= .blk (blkOf v) t (zs.map .val)::H)(hx:∀v,x v= .p (blkOf v) 0):KOk X P H H' x ρ o:=λB I w r a hw hh ho=>by
 have hz':=hz.h;unfold zeroCells at hz';cases hin:P.info? t with
 | none=>simp[hin] at hz'
 | some inf=>
  cases hz2:inf.zero with
  | none=>simp[hin,hz2] at hz'
  | some z=>
   simp[hin,hz2] at hz';have h1:RelL I w (zs.map .val) z.cells.toList:=by rw[hz'];exact relL_val zs
   refine Runs.of_value Yk (v:=.pointer (some ⟨w.heap.size,0,none⟩)) (w':=w.alloc (.cells z.cells t)) (by simp[execOp,h,Instr.alloc,newVar,newRow,zeroValue,typeInfo,hin,hz2]) ⟨I,hw.alloc _,ext_alloc hw _,?_,?_⟩
   ·rw[hH];exact hh.new hw t _ _ h1
   ·rw[hx];exact .val _
end
end Go.Eng

namespace Go
def wpF(f:FuncId)(F:Fence)(n:Nat)(P:Program)(c:Code)(Q:Exit->Act->World->Prop)(a:Act)(w:World):Prop:=
 ∀(b:Frame) (k:List Item) (cs:List Frame),b.roundOf=F.round->b.fn=f->F.fn b.fn->F.room (cs.length+1+n)->∃e a' w',Q e a' w'/\ArrivesIn (Machine.fenced P F) P (lone (b.atR a (.code c::k)) cs w) b k cs e a' w'
section
variable{f:FuncId}{F:Fence}{n:Nat}{P:Program}{Q:Exit->Act->World->Prop}{a:Act}{w:World}
theorem wpF.of{c:Code}(h:c.wpIn F n P Q a w):wpF f F n P c Q a w:=λb k cs hro _ hb hr=>h b k cs hro hb hr
theorem wpF.mono{c:Code}{Q':Exit->Act->World->Prop}(h:wpF f F n P c Q a w)(hq:∀e a w,Q e a w->Q' e a w):wpF f F n P c Q' a w:=λb k cs hro he hb hr=>
 let ⟨e,a',w',h1,h2⟩:=h b k cs hro he hb hr;⟨e,a',w',hq _ _ _ h1,h2⟩
theorem wpF.seq{x y:Code}(h:wpF f F n P x (Exit.then (wpF f F n P y Q) Q) a w):wpF f F n P (.seq x y) Q a w:=by
 intro b k cs hro he hb hr;have h0:(lone (b.atR a (.code (.seq x y)::k)) cs w).fenced P F:=fenced_calm hb hr rfl;obtain⟨e,a₁,w₁,hq,harr⟩:=h b (.code y::k) cs hro he hb hr;cases e with
 | normal=>
  obtain⟨e₂,a₂,w₂,hq₂,harr₂⟩:=hq b k cs hro he hb hr;exact⟨e₂,a₂,w₂,hq₂,.of_steps (.head h0 stepR_seq harr) harr₂⟩
 | exit id=>exact⟨_,a₁,w₁,hq,.of_steps (.one h0 stepR_seq) (.pass (x:=.code y) rfl (λ_ _=>.inl Yn) harr)⟩
 | goto l=>exact⟨_,a₁,w₁,hq,.of_steps (.one h0 stepR_seq) (.pass (x:=.code y) rfl (λ_ _=>.inl Yn) harr)⟩
 | ret=>exact⟨_,a₁,w₁,hq,.of_steps (.one h0 stepR_seq) (.pass (x:=.code y) rfl (λ_ _=>.inl Yn) harr)⟩
 | panic ch=>exact⟨_,a₁,w₁,hq,.of_steps (.one h0 stepR_seq) (.pass (x:=.code y) rfl (λ_ _=>.inl Yn) harr)⟩
 | outgrown=>exact⟨_,a₁,w₁,hq,.of_steps (.one h0 stepR_seq) (.pass (x:=.code y) rfl (λ_ _=>.inl Yn) harr)⟩
theorem wpF.block{id:Nat}{c:Code}(h:wpF f F n P c (Exit.inBlock id Q) a w):wpF f F n P (.block id c) Q a w:=by
 intro b k cs hro he hb hr;have h0:(lone (b.atR a (.code (.block id c)::k)) cs w).fenced P F:=fenced_calm hb hr rfl;obtain⟨e,a₁,w₁,hq,harr⟩:=h b (.inBlock id::k) cs hro he hb hr;cases e with
 | normal=>exact⟨.normal,a₁,w₁,hq,.head h0 stepR_block (StepsIn.trans harr (.one (fenced_calm hb hr rfl) stepR_inBlock))⟩
 | exit id'=>
  by_cases hid:id'=id
  ·simp only[Exit.inBlock,hid,if_true] at hq;exact⟨.normal,a₁,w₁,hq,.head h0 stepR_block (harr.1 k (by simp[exitTo,hid]))⟩
  ·simp only[Exit.inBlock,hid,if_false] at hq;have this:(id==id')=false:=by simp;exact λh=>hid h.symm
   have hx:exitTo id' (.inBlock id::k)=exitTo id' k:=by simp[exitTo,this]
   exact⟨.exit id',a₁,w₁,hq,λk' hk=>.head h0 stepR_block (harr.1 k' (by rw[hx];exact hk)),
    λhr' hk=>let ⟨k₁,h1,h2⟩:=harr.2 hr' (by rw[hx];exact hk);⟨k₁,h1,.head h0 stepR_block h2⟩⟩
 | goto l=>
  have hx:gotoIn l (.inBlock id::k)=gotoIn l k:=by simp[gotoIn]
  exact⟨_,a₁,w₁,hq,λk' hk=>.head h0 stepR_block (harr.1 k' (by rw[hx];exact hk)),
   λhr' hk=>let ⟨k₁,h1,h2⟩:=harr.2 hr' (by rw[hx];exact hk);⟨k₁,h1,.head h0 stepR_block h2⟩⟩
 | ret=>exact⟨_,a₁,w₁,hq,.of_steps (.one h0 stepR_block) harr⟩
 | panic ch=>exact⟨_,a₁,w₁,hq,.of_steps (.one h0 stepR_block) harr⟩
 | outgrown=>exact⟨_,a₁,w₁,hq,.of_steps (.one h0 stepR_block) harr⟩
theorem callsIn_of_wpF{fn:Func}{c:Code}{args:Array Value}{R:Ending->World->Prop}(hf:P.funcs[f]? =some fn)(hb:fn.body=some c)(hF:F.fn f)
  (h:wpF f F n P c (bodyPostM F n P fn R) {tmps:=args++Array.replicate (fn.ntmps - args.size) undef,defers:=[]} w) (hro:F.round=none:=by rfl):CallsIn F n P f args w R:=by
 refine⟨hF,λcs hr=>?_⟩
 let b:Frame:={(default:Frame) with fn:=f,kind:=.normal,roundOf:=none}
 have henter:Frame.enter P f args .normal=b.atR {tmps:=args++Array.replicate (fn.ntmps - args.size) undef,defers:=[]} [.code c]:=by
  simp[Frame.enter,Frame.atR,hf,hb,b]
 obtain⟨e,a',w',hq,harr⟩:=h b [] cs hro.symm rfl hF hr;rw[<-henter] at harr;cases e with
 | normal=>
  obtain⟨e',w'',fr',hR,hs,hfn,hl⟩:=leaves_stepsInM a'.defers .returning w' {b.atR a' [] with mode:=.returning} cs rfl rfl rfl hf rfl hF hr hq;exact⟨e',w'',fr',hR,ComesIn.of_steps (StepsIn.trans harr (.one (fenced_calm (fr:=b.atR a' []) hF hr rfl) (stepR_end rfl))) hs,hfn,hl⟩
 | ret=>
  obtain⟨todo,hs₀⟩:=harr.1 rfl;obtain⟨e',w'',fr',hR,hs,hfn,hl⟩:=leaves_stepsInM a'.defers .returning w' {b.atR a' todo with mode:=.returning} cs rfl rfl rfl hf rfl hF hr hq;exact⟨e',w'',fr',hR,ComesIn.of_steps hs₀ hs,hfn,hl⟩
 | panic chain=>
  obtain⟨todo,hs₀⟩:=harr;obtain⟨e',w'',fr',hR,hs,hfn,hl⟩:=leaves_stepsInM a'.defers (.panicking chain) w' {b.atR a' todo with mode:=.panicking chain} cs rfl rfl rfl hf rfl hF hr hq;exact⟨e',w'',fr',hR,ComesIn.of_steps hs₀ hs,hfn,hl⟩
 | exit id=>exact hq.elim
 | goto l=>exact hq.elim
 | outgrown=>exact⟨.outgrown,w',b,hq,harr.resolve_left (by simp[b]),rfl,trivial⟩
def roundPostP(P:Program)(l:Nat)(R:Ending->World->Prop):Exit->Act->World->Prop
 | .panic chain,a,w=>a.defers= []/\R (.panicked chain) w
 | e,a,w=>roundPost P l R e a w
theorem roundIn_of_wpInP{l:Nat}{fn:Func}{tmps:Array Value}{assign body:Code}{R:Ending->World->Prop}(hF:F.fn f)(hfn:P.funcs[f]? =some fn)
  (h:assign.wpIn (F.inRound l) n P (Exit.then (λa₁ w₁=>∃w₂,(Instr.beginRound l).run P w₁= .ok () w₂/\body.wpIn (F.inRound l) n P (roundPostP P l R) a₁ w₂) (λ_ _ _=>False)) {tmps:=tmps,defers:=[]} w):
  RoundIn F n P l f tmps assign body w R:=by
 refine⟨hF,λc cs hr=>?_⟩
 let b:Frame:={(default:Frame) with fn:=f,kind:=.normal,roundOf:=some l}
 have hb0:Frame.round l f tmps assign body .normal=b.atR {tmps:=tmps,defers:=[]} [.code assign,.beginRound,.code body]:=by
  simp[Frame.round,Frame.atR,b]
 have hr':(F.inRound l).room ((c::cs).length+1+n):=hr;have hF':(F.inRound l).fn b.fn:=hF;obtain⟨e,a₁,w₁,hq,harr⟩:=h b [.beginRound,.code body] (c::cs) rfl hF' hr';rw[<-hb0] at harr;cases e with
 | normal=>
  obtain⟨w₂,hbr,hbody⟩:=hq;have s1:StepsIn (Machine.fenced P (F.inRound l)) P (lone (b.atR a₁ [.beginRound,.code body]) (c::cs) w₁) (lone (b.atR a₁ [.code body]) (c::cs) w₂):=
   .one (fenced_calm (fr:=b.atR a₁ [.beginRound,.code body]) hF' hr' rfl) (stepR_beginRound rfl hbr)
  obtain⟨e₂,a₂,w₃,hq₂,harr₂⟩:=hbody b [] (c::cs) rfl hF' hr';cases e₂ with
  | normal=>
   obtain⟨v,w₄,hend,hR⟩:=hq₂;exact⟨.returned v,w₄,hR,(StepsIn.trans harr s1).trans (StepsIn.trans harr₂ (.one (fenced_calm (fr:=b.atR a₂ []) hF' hr' rfl) (stepR_round_end rfl rfl hend)))⟩
  | ret=>
   obtain⟨v,w₄,hend,hR⟩:=hq₂;obtain⟨k₁,hs⟩:=harr₂.2 rfl;exact⟨.returned v,w₄,hR,(StepsIn.trans harr s1).trans (StepsIn.trans hs (.one (fenced_calm (fr:=b.atR a₂ (.code .ret::k₁)) hF' hr' rfl) (stepR_round_ret rfl rfl hend)))⟩
  | exit id=>
   obtain⟨v,w₄,hend,hR⟩:=hq₂;obtain⟨k₁,hk,hs⟩:=harr₂.2 rfl rfl;exact⟨.returned v,w₄,hR,(StepsIn.trans harr s1).trans (StepsIn.trans hs (.one (fenced_calm (fr:=b.atR a₂ (.code (.exit id)::k₁)) hF' hr' rfl) (stepR_round_exit rfl rfl hk hend)))⟩
  | goto t=>
   obtain⟨v,w₄,hend,hR⟩:=hq₂;obtain⟨k₁,hk,hs⟩:=harr₂.2 rfl rfl;exact⟨.returned v,w₄,hR,(StepsIn.trans harr s1).trans (StepsIn.trans hs (.one (fenced_calm (fr:=b.atR a₂ (.code (.goto t)::k₁)) hF' hr' rfl) (stepR_round_goto rfl rfl hk hend)))⟩
  | panic chain=>
   obtain⟨hd,hR⟩:=hq₂;obtain⟨todo,hs⟩:=harr₂;have hl:({b.atR a₂ todo with mode:=.panicking chain}:Frame).leaving P w₃ (.panicked chain):=⟨rfl,hd,fn,hfn⟩;exact⟨.panicked chain,w₃,hR,(StepsIn.trans harr s1).trans (StepsIn.trans hs (.one (fenced_leaving (n:=n) hF' hr' hl) (step_leave_panicked hl)))⟩
  | outgrown=>exact hq₂.elim
 | exit id=>exact hq.elim
 | goto t=>exact hq.elim
 | ret=>exact hq.elim
 | panic chain=>exact hq.elim
 | outgrown=>exact hq.elim
theorem wpF.rangeFunc{g:Operand}{ps:Array Tmp}{assign body:Code}
  (h:∃(l:Nat) (mark:List Deferred) (w₁:World) (d:Deferred) (w₁':World) (f':FuncId) (args:Array Value) (w₂:World),
   (Instr.enterLoop f a.tmps ps assign body F.round).run P w= .ok (l,mark) w₁/\
   (resolve a.eval (rangeCall g l) 0).run P w₁= .ok d w₁'/\
   (∀f',Target.leads P w₁' d.target d.args=some f'->F.fn f')/\
   (invoke d.target d.args).run P w₁'= .ok (.enter f' args) w₂/\
   (F.depth.isSome=true->1<=n)/\
   CallsIn F (n - 1) P f' args w₂ (rangePost F n P l Q {a with defers:=mark++a.defers})):
  wpF f F n P (Code.rangeFunc g ps assign body) Q a w:=by
 intro b k cs hro he' hb hr;obtain⟨l,mark,w₁,d,w₁',f',args,w₂,he,hres,hlead,hinv,hn,hF,hcall⟩:=h;rw[<-hro, <-he'] at he;have h0:(lone (b.atR a (.code (.rangeFunc g ps assign body)::k)) cs w).fenced P F:=by
  refine fenced_lone (.inl hb) (λf' hf'=>hlead f' ?_) (Fence.room_le hr Yb);have hev:=Frame.eval_atR b a (.code (.rangeFunc g ps assign body)::k);simp only[Frame.atR] at hev;simp only[Frame.about,Frame.atR,he,hev,hres] at hf';exact hf'
 have henter:=stepR_rangeFunc (P:=P) (b:=b) (a:=a) (k:=k) (cs:=cs) (w:=w) he hres hinv;have hroom:F.room ((b.atR {a with defers:=mark++a.defers} (.inRangeFunc l::k)::cs).length+1+(n - 1)):=Fence.room_enter hr hn;obtain⟨e,w₃,fr,hR,hsteps,hfn,hleave⟩:=hcall (b.atR {a with defers:=mark++a.defers} (.inRangeFunc l::k)::cs) hroom;cases e with
 | outgrown=>
  obtain⟨a₀,w₀,hq⟩:=hR;exact⟨.outgrown,a₀,w₀,hq,.inr (Outgrown.of_steps (.one henter) hsteps)⟩
 | returned v=>
  have hl:(lone fr (b.atR {a with defers:=mark++a.defers} (.inRangeFunc l::k)::cs) w₃).fenced P F:=fenced_leaving (hfn▸hF) hroom hleave;obtain⟨jump,w₄,hend,hj⟩:=hR;have sback:StepsIn (Machine.fenced P F) P (lone (b.atR a (.code (.rangeFunc g ps assign body)::k)) cs w) (lone (b.atR {a with defers:=mark++a.defers} ((jump.map Item.code).toList++k)) cs w₄):=by
   refine .head h0 henter (StepsIn.trans hsteps (.head hl ?_ (.one (fenced_calm (fr:=b.atR {a with defers:=mark++a.defers} (.endRangeFunc l::k)) hb hr rfl) (stepR_endRangeFunc hend))));rw[<-finish_atR_inRangeFunc l v];exact step_leave_returned hleave
  cases jump with
  | none=>exact⟨.normal,_,w₄,hj,sback⟩
  | some c=>
   obtain⟨e',a'',w₅,hq,harr⟩:=hj b k cs hro hb hr;exact⟨e',a'',w₅,hq,.of_steps sback harr⟩
 | panicked chain=>
  have hl:(lone fr (b.atR {a with defers:=mark++a.defers} (.inRangeFunc l::k)::cs) w₃).fenced P F:=fenced_leaving (hfn▸hF) hroom hleave;refine⟨.panic chain,_,w₃,hR,.inRangeFunc l::k,.head h0 henter (StepsIn.trans hsteps (.one hl ?_))⟩;rw[<-Frame.raise_atR];exact step_leave_panicked hleave
end
end Go

namespace Go.Eng
open Go.RowKit (Below)
def CWF(f:FuncId)(c:Ctx)(r:Option Nat)(P:Program)(code:Code)(st:St)(Q:Exit->Act->World->Prop):Prop:=∀a w,Sat c st a w->wpF f (FW r) 0 P code Q a w
section
variable{f:FuncId}{c:Ctx}{r:Option Nat}{P:Program}{st:St}{Q:Exit->Act->World->Prop}
theorem CW.atF{code:Code}(h:CW c r P code st Q):CWF f c r P code st Q:=λa w s=>.of (h a w s)
theorem CWF.seq{p q:Code}(h:CWF f c r P p st (Exit.then (wpF f (FW r) 0 P q Q) Q)):CWF f c r P (.seq p q) st Q:=λa w s=>.seq (h a w s)
theorem CWF.block{id:Nat}{p:Code}(h:CWF f c r P p st (Exit.inBlock id Q)):CWF f c r P (.block id p) st Q:=λa w s=>.block (h a w s)
theorem CWF.done{q:Code}(h:CWF f c r P q st Q):Done c st .normal (Exit.then (wpF f (FW r) 0 P q Q) Q):=λa w s=>h a w s
theorem ACall.mkF{fn:Func}{code:Code}{xs:List AV}{H:List Ent}{Φ:AV->List Ent->Prop}{E:AV->List Ent->Prop}{n:Nat}(hf:P.funcs[f]? =some fn)(hb:fn.body=some code)(hnm:(fn.name== "runtime.NumGoroutine")=false)
  (hn:fn.ntmps=n) (hl:Nat.ble xs.length n=true) (h:∀B I w,CWF f ⟨B,I,w,n,[]⟩ none P code ⟨envOf 0 xs,H⟩ (bodyPostM (FW none) 0 P fn (RetP B I w Φ E))):ACall P f xs H Φ E:=by
 refine⟨by simp[fnOk,hf,hb,hnm],λB I w vs hw hh hv=>calls_of_FW (n:=0) (callsIn_of_wpF hf hb trivial ?_ rfl)⟩;refine h B I w _ w ⟨rfl,?_,I,hw,Ext.refl _ _ _,hh,λt y hy=>?_⟩
 ·have:=hv.length;have:=Nat.le_of_ble_eq_true hl;simp;omega
 ·obtain⟨v,h1,h2⟩:=hv.get Yaq;have:(vs.toArray++Array.replicate (fn.ntmps - vs.toArray.size) undef).getD t undef=v:=by
   have hlt:=(List.getElem?_eq_some_iff.1 h1).1;simp only[Array.getD_eq_getD_getElem?];rw[Array.getElem?_append_left (by simpa using hlt)];simp[h1]
  rw[this];exact h2
def CbP{α:Type}(B:Nat)(P:Program)(g:AV)(e1 e2:α->AV)(L:List α)(fails:Bool)(J:List α->List Ent->Prop)(Jp:AV->List Ent->Prop):Prop:=
 ∀pre x H Hx,pre++[x]<+:L->J pre H->VCall B P g [e1 x,e2 x] (H++Hx) (λy H'=>∃H1,y= .b true/\H'=H1++Hx/\(pre++[x]=L->fails=false)/\J (pre++[x]) H1) (λy H'=>∃H1,H'=H1++Hx/\pre++[x]=L/\fails=true/\Jp y H1)
def SeqP{α:Type}(B:Nat)(P:Program)(gv:AV)(e1 e2:α->AV)(L:List α)(fails:Bool)(Hs:List Ent)(Hn:List Ent->Prop):Prop:=
 ∀(J:List α->List Ent->Prop) (Jp:AV->List Ent->Prop) (g:Fn) (fs cs:List AV),(∀y H,Jp y H->∃v,y.Const v)->CbP B P (.fn g fs cs) e1 e2 L fails J Jp->∀H Hx,J [] H->
  VCall B P gv [.fn g fs cs] (H++(Hs++Hx)) (λ_ H'=>fails=false/\∃H1 Hs',H'=H1++(Hs'++Hx)/\Hn Hs'/\J L H1)
   (λy H'=>fails=true/\∃H1 Hs',H'=H1++(Hs'++Hx)/\Jp y H1)
def roundEndP{α:Type}(B:Nat)(I0:Imm)(w0:World)(l D:Nat)(lp:Loop)(ρ:Nat->Option AV)(L:List α)(fails:Bool)(J:List α->List Ent->Prop)(Jp:AV->List Ent->Prop)(pre:List α)(Hx:List Ent):Exit->Act->World->Prop:=λe a w=>
 ∃I H,WOk B I w/\Ext B I0 w0 I w/\HeapOk B I w (.loop l lp ρ::.obj D (.deferred (some []))::(H++Hx))/\
  match e with
  | .normal=>(pre=L->fails=false)/\J pre H
  | .panic ch=>a.defers= []/\pre=L/\fails=true/\∃v y,ch= [{v:=v,recovered:=false}]/\Rel I w y v/\Jp y H
  | _=>False
end
section
variable{f0:FuncId}{fn0:Func}{P:Program}{c:Ctx}{r:Option Nat}{st:St}{Q:Exit->Act->World->Prop}
theorem CWF.rangeFuncP{α:Type}{t p q:Nat}{assign body:Code}{f:FuncId}{caps:List AV}(hf0:P.funcs[f0]? =some fn0)(e1 e2:α->AV)(L:List α)(fails:Bool)(J:List α->List Ent->Prop)(Jp:AV->List Ent->Prop)(H Hs Hx:List Ent)(Hn:List Ent->Prop)(env':α->List (Nat×AV))
  (hr:r=none) (hH:st.H=H++(Hs++Hx)) (hg:envGet st.env t=some (.fn (.func f) [] caps)) (hp:Nat.blt p c.n=true) (hq:Nat.blt q c.n=true) (hseq:SeqP c.B P (.fn (.func f) [] caps) e1 e2 L fails Hs Hn) (hJ:J [] H) (hcon:∀y H,Jp y H->∃v,y.Const v)
  (assignOk:∀(l:Nat) (I:Imm) (w:World) (x:α) (Hy:List Ent),CW ⟨c.B,I,w,c.n,[]⟩ (some l) P assign ⟨(q,e2 x)::(p,e1 x)::st.env,Hy⟩ (Exit.then (λa w'=>∃st',st'=(⟨env' x,Hy⟩:St)/\Sat ⟨c.B,I,w,c.n,[]⟩ st' a w') (λ_ _ _=>False)))
  (round:∀(l D:Nat) (lp:Loop) (pre:List α) (x:α) (H1 Hy:List Ent) (I:Imm) (w:World),pre++[x]<+:L->J pre H1->
   CW ⟨c.B,I,w,c.n,[]⟩ (some l) P body ⟨env' x,.loop l lp (envGet st.env)::.obj D (.deferred (some []))::(H1++Hy)⟩ (roundEndP c.B I w l D lp (envGet st.env) L fails J Jp (pre++[x]) Hy))
  (done:∀(D:Nat) (H1 Hs':List Ent),fails=false->Hn Hs'->J L H1->Done ⟨c.B,c.I0,c.w0,c.n,{target:=.collected D,args:=#[]}::c.ds⟩ ⟨st.env,.obj D (.deferred (some []))::(H1++(Hs'++Hx))⟩ .normal Q)
  (pan:∀(D:Nat) (y:AV) (H1 Hs':List Ent),fails=true->Jp y H1->∀(I:Imm) (v:Value) (a:Act) (w:World),Sat ⟨c.B,c.I0,c.w0,c.n,{target:=.collected D,args:=#[]}::c.ds⟩ ⟨st.env,.obj D (.deferred (some []))::(H1++(Hs'++Hx))⟩ a w->Rel I w y v->Q (.panic [{v:=v,recovered:=false}]) a w):
  CWF f0 c r P (.rangeFunc (.tmp t) #[p,q] assign body) st Q:=by
 intro a w s;subst hr;obtain⟨I,hw,he,hh,hv⟩:=s.mem;rw[hH] at hh;refine wpF.rangeFunc ?_;obtain⟨lr,hlr⟩:∃lr:Loop,lr={state:=.ready,pending:=none,fn:=f0,tmps:=a.tmps,params:=#[p,q],assign,body,defers:=w.heap.size}:=⟨_,rfl⟩;have hgv:=hv t _ hg;generalize hu:a.tmps.getD t undef=u at hgv;cases hgv with
 | fn _ _ _ vf vc hf hc=>
 have hvf:vf= #[]:=by cases vf with | mk l=>cases hf;rfl
 subst hvf;have hh1:=hh.newObj hw (.deferred (some []));have hw1:=hw.alloc (.deferred (some []));have hv1:=hv.keep (keeps_alloc hw (.deferred (some [])));have hh2:=hh1.newLoop hw1 lr (envGet st.env) (by rw[hlr];exact hv1);have hw2:=hw1.alloc (.loop lr);rw[World.size_alloc] at hh2;have k2:Ext c.B I w I ((w.alloc (.deferred (some []))).alloc (.loop lr)):=(ext_alloc hw _).trans (ext_alloc hw1 _)
 let J':List α->List Ent->Prop:=λpre Hf=>∃H1,J pre H1/\Hf= .loop (w.heap.size+1) lr (envGet st.env)::.obj w.heap.size (.deferred (some []))::H1
 let Jp':AV->List Ent->Prop:=λy Hf=>∃H1,Jp y H1/\Hf= .loop (w.heap.size+1) {lr with state:=.busy} (envGet st.env)::.obj w.heap.size (.deferred (some []))::H1
 have hsz:a.tmps.size=c.n:=s.size;have hpn:p<c.n:=Nat.lt_of_succ_le (by simpa [Nat.blt] using hp);have hqn:q<c.n:=Nat.lt_of_succ_le (by simpa [Nat.blt] using hq);have hcb:CbP c.B P (.fn (.yield (w.heap.size+1)) [] []) e1 e2 L fails J' Jp':=by
  rintro pre x Hf Hy hpx ⟨H1,hJ1,rfl⟩ I2 W v vs hwW hhW hvW hvs;obtain rfl:v= .func (.yield (w.heap.size+1)) #[] #[]:=by
   cases hvW with
   | fn _ _ _ vf vc hf hc=>
    cases vf with
    | mk lf=>cases vc with
     | mk lc=>cases hf;cases hc;rfl
  cases hvs with
  | cons _ v1 _ vs' hx1 ht=>
  cases ht with
  | cons _ v2 _ vs'' hx2 ht=>
  cases ht;obtain⟨hBl,hbl,hρ,hnil⟩:=hhW.ok (.loop (w.heap.size+1) lr (envGet st.env)) Yn;have hy:=run_yield (P:=P) (args:=#[v1,v2]) hbl (by rw[hlr];rfl);refine .inr ⟨_,rfl,f0,(a.tmps.setIfInBounds p v1).setIfInBounds q v2,assign,body,?_,?_⟩
  ·rw[hlr] at hy;simpa using hy
  ·refine roundIn_of_wpInP (F:=FW none) (n:=0) trivial hf0 ?_;have hhW':HeapOk c.B I2 W (.loop (w.heap.size+1) lr (envGet st.env)::.obj w.heap.size (.deferred (some []))::(H1++Hy)):=by
    simpa [List.append_assoc] using hhW
   have hst:Sat ⟨c.B,I2,W,c.n,[]⟩ ⟨(q,e2 x)::(p,e1 x)::st.env,.loop (w.heap.size+1) lr (envGet st.env)::.obj w.heap.size (.deferred (some []))::(H1++Hy)⟩ {tmps:=(a.tmps.setIfInBounds p v1).setIfInBounds q v2,defers:=[]} W:=by
    refine⟨rfl,by simpa using hsz,I2,hwW,Ext.refl _ _ _,hhW',?_⟩;refine envGet_zip (a:={tmps:=a.tmps.setIfInBounds p v1,defers:=[]}) ?_ (by simp only[Array.size_setIfInBounds];rw[hsz];exact hqn) hx2 [];refine envGet_zip (a:=a) (λt y hty=>?_) (by rw[hsz];exact hpn) hx1 [];have:=hρ t y hty;rw[hlr] at this;exact this
   refine wpIn_mono (assignOk (w.heap.size+1) I2 W x _ _ W hst) λe a3 W3 hp3=>?_;cases e with
   | normal=>
    obtain⟨st',rfl,s3⟩:=hp3;obtain⟨I3,hw3,he3,hh3,hv3⟩:=s3.mem;obtain⟨hBl3,hbl3,_,hni3⟩:=hh3.ok _ (.head _);refine⟨_,run_beginRound hbl3 (by rw[hlr]),?_⟩;have hh4:=hh3.putLoop (lp':={lr with state:=.busy}) (.head _ _ _) rfl;have he4:Ext c.B I3 W3 I3 (W3.putObj (w.heap.size+1) (.loop {lr with state:=.busy})):=Ext.putObj hBl3 hni3;have s4:Sat ⟨c.B,I2,W,c.n,[]⟩ ⟨env' x,.loop (w.heap.size+1) {lr with state:=.busy} (envGet st.env)::.obj w.heap.size (.deferred (some []))::(H1++Hy)⟩ a3 (W3.putObj (w.heap.size+1) (.loop {lr with state:=.busy})):=
     ⟨s3.ds,s3.size,I3,hw3.putObj hni3,he3.trans he4,hh4,hv3.keep he4.keeps⟩
    refine wpIn_mono (round _ _ _ pre x H1 Hy I2 W hpx hJ1 a3 _ s4) λe a5 W5 hp5=>?_;obtain⟨I5,H5,hw5,he5,hh5,hcase⟩:=hp5;obtain⟨hBl5,hbl5,_,hni5⟩:=hh5.ok _ (.head _);cases e with
    | normal=>
     have h9:=run_endRound (P:=P) none hbl5;refine⟨_,_,h9,?_⟩;have hh6:=hh5.putLoop (lp':={lr with state:=.ready,pending:=none}) (.head _ _ _) rfl;refine⟨I5,(.loop (w.heap.size+1) lr (envGet st.env)::.obj w.heap.size (.deferred (some []))::H5)++Hy,hw5.putObj hni5,he5.trans (Ext.putObj hBl5 hni5),?_,.inl ⟨_,.b true,rfl,.val _,_,rfl,rfl,hcase.1,H5,hcase.2,rfl⟩⟩;have e9:lr={lr with state:=.ready,pending:=none}:=by rw[hlr]
     rw[e9];simpa [List.append_assoc] using hh6
    | panic ch=>
     obtain⟨hd,hpre,hfl,v,y,rfl,hrel,hjp⟩:=hcase;refine⟨hd,I5,(.loop (w.heap.size+1) {lr with state:=.busy} (envGet st.env)::.obj w.heap.size (.deferred (some []))::H5)++Hy,hw5,he5,?_,.inr ⟨v,y,rfl,hrel,_,rfl,hpre,hfl,H5,hjp,rfl⟩⟩;simpa [List.append_assoc] using hh5
    | ret=>exact hcase.elim
    | exit id=>exact hcase.elim
    | goto t=>exact hcase.elim
    | outgrown=>exact hcase.elim
   | exit id=>exact hp3.elim
   | goto t=>exact hp3.elim
   | ret=>exact hp3.elim
   | panic ch=>exact hp3.elim
   | outgrown=>exact hp3.elim
 have hcall:=hseq J' Jp' _ _ _ (λy Hf ⟨H1,h,_⟩=>hcon y H1 h) hcb _ Hx ⟨H,hJ,rfl⟩ I _ (.func (.func f) #[] vc) [.func (.yield (w.heap.size+1)) #[] #[]] hw2 (by simpa using hh2) (.fn _ _ _ _ _ .nil (hc.keep k2.keeps)) (.cons _ _ _ _ (.fn _ _ _ _ _ .nil .nil) .nil);rcases hcall with⟨f',vf',vc',e1,hok,hcalls⟩ | ⟨l,e1,_⟩
 ·simp only[Value.func.injEq,Fn.func.injEq] at e1;obtain⟨rfl,rfl,rfl⟩:=e1;refine⟨w.heap.size+1,[{target:=.collected w.heap.size,args:=#[]}],(w.alloc (.deferred (some []))).alloc (.loop lr),{target:=.fn (.func f) vc,args:=#[.func (.yield (w.heap.size+1)) #[] #[]]},(w.alloc (.deferred (some []))).alloc (.loop lr),f,
   #[.func (.yield (w.heap.size+1)) #[] #[]]++vc,(w.alloc (.deferred (some []))).alloc (.loop lr),?_,?_,λ_ _=>trivial,?_,by simp[FW],?_⟩
  ·rw[hlr];exact run_enterLoop_outer f0 a.tmps #[p,q] assign body
  ·have hev:a.eval (.tmp t)= .func (.func f) #[] vc:=hu;simp only[resolve,rangeCall,hev];simp[Deferred.ofValue,Act.eval]
  ·simp[invoke,run_callFunc hok]
  ·have e0:(#[]++[Value.func (Fn.yield (w.heap.size+1)) #[] #[]].toArray++vc)= #[Value.func (Fn.yield (w.heap.size+1)) #[] #[]]++vc:=by simp
   rw[e0] at hcalls;refine callsIn_FW (hcalls.mono λe W hR=>?_);obtain⟨I6,H6,hw6,he6,hh6,hor⟩:=hR;rcases hor with hor | hor
   ·obtain⟨v,y,rfl,_,hor⟩:=hor;obtain⟨hfl,Hn',Hs',rfl,hns,H1,hJL,rfl⟩:=hor;obtain⟨hB6,hb6,_,hni6⟩:=hh6.ok _ (.head _);have hpn6:lr.pending=none:=by rw[hlr]
    have hrun6:=run_endLoop (P:=P) hb6 (by rw[hlr];simp);rw[hpn6] at hrun6;refine⟨none,_,hrun6,?_⟩;have hh7:=(hh6.putLoop (lp':={lr with state:=.exhausted}) (.head _ _ _) rfl).tail;have he7:Ext c.B I6 W I6 (W.putObj (w.heap.size+1) (.loop {lr with state:=.exhausted})):=Ext.putObj hB6 hni6;rw[hpn6] at he7 hh7;refine done w.heap.size H1 Hs' hfl hns hJL _ _ ⟨?_,s.size,I6,hw6.putObj hni6,(he.trans (k2.trans he6)).trans he7,hh7,(hv.keep (k2.trans he6).keeps).keep he7.keeps⟩;show _::a.defers=_;rw[s.ds]
   ·obtain⟨v,y,rfl,hy,hfl,Hn',Hs',rfl,H1,hjp,rfl⟩:=hor;refine pan w.heap.size y H1 Hs' hfl hjp I6 v _ _ ⟨?_,s.size,I6,hw6,he.trans (k2.trans he6),hh6.tail,hv.keep (k2.trans he6).keeps⟩ hy;show _::a.defers=_;rw[s.ds]
 ·simp at e1
end
def methE(P:Program)(t:TypeId)(name:String):Option FuncId:=
 match P.info? t with
 | some i=>match i.methods.find? (·.name==name) with
  | some m=>match m.path.toList,m.func,P.underlying t with
   | [],some (f,true),some (.pointer _)=>some f
   | [],some (f,false),some (.pointer _)=>none
   | [],some (f,false),some _=>some f
   | _,_,_=>none
  | none=>none
 | none=>none
section
variable{P:Program}{o:Oper}{ρ:Nat->Option AV}
theorem methE_spec{t:TypeId}{name:String}{f:FuncId}(h:methE P t name=some f)(v:Value)(w:World)(fuel:Nat):(method (fuel+1) t v name).run P w= .ok (f,v) w:=by
 unfold methE at h;split at h
 ·rename_i i hi;split at h
  ·rename_i m hm;split at h
   ·rename_i f' e hpath hfunc hu;cases h;simp[method,typeInfo,hi,hm,hpath,follow,hfunc,receiverAt,run_underlying hu,Place.get]
   ·cases h
   ·rename_i f' d hnp hpath hfunc hu;cases h;cases d <;> first | (exact absurd rfl (hnp _)) | simp[method,typeInfo,hi,hm,hpath,follow,hfunc,receiverAt,run_underlying hu,Place.get]
   ·cases h
  ·cases h
 ·cases h
theorem CallOk.inv{x:Operand}{name:String}{args:Array Operand}{ts:Array TypeId}{t:TypeId}{y:AV}{f:FuncId}{ys:List (Bool×AV)}{g:Bool}(h:o.op= .call {callee:=.invoke x name,args:=args,argTypes:=ts})
  (hx:aev ρ x=some (g,.iface t y)) (hg:g=true) (hm:methE P t name=some f) (ha:aevs ρ args.toList=some ys) (hys:ys.all (·.1)=true):CallOk P ρ o f (y::ys.map (·.2)):=by
 refine⟨λI w a ho=>?_,Yk⟩;have h1:=ho.get Yl hx hg;have h2:=aevs_rel ho args.toList ys (λz hz=>by simp[h,Op.operands,Call.operands];right;simpa using hz) ha (by simpa using hys);generalize hv:a.eval x=u at h1;cases h1 with
 | iface _ _ v hr=>
  refine⟨v::args.toList.map a.eval,.cons _ _ _ _ hr h2,λhok=>?_⟩;have hm2:=methE_spec (P:=P) hm v w (P.types.size+Made.depth - 1);have hd:P.types.size+Made.depth - 1+1=P.types.size+Made.depth:=by simp[Made.depth]
  rw[hd] at hm2;have e3:(v::args.toList.map a.eval).toArray= #[v]++args.map a.eval:=by apply Array.ext';simp
  simp only[e3];have e4:(#[Value.iface t v]++args.map a.eval).extract 1 (#[Value.iface t v]++args.map a.eval).size=args.map a.eval:=by apply Array.ext';simp;rw[List.take_of_length_le];simp
  have e5:(#[Value.iface t v]++args.map a.eval)[0]? =some (Value.iface t v):=by rw[Array.getElem?_append_left (Nat.zero_lt_one)];rfl
  simp only[execOp,h,resolve,hv,Sem.run_bind,Sem.run_pure,Result.andThen_ok,invoke,e5,e4,callMethod,run_program,hm2,run_callFunc hok]
end
section
variable{P:Program}{H:List Ent}{ρ:Nat->Option AV}{o:Oper}
theorem POp.slClip{t:TypeId}{x y z:Operand}{k:Nat}{els:List (List AV)}{gx gy gz:Bool}{ky kz:IntKind}[ht:HasSl P t k](h:o.op= .slice t x none (some y) (some z))(hx:aev ρ x=some (gx,.sl k els))(hgx:gx=true)
  (hy:aev ρ y=some (gy,.val (.int ky (els.length:Int)))) (hgy:gy=true) (hz:aev ρ z=some (gz,.val (.int kz (els.length:Int)))) (hgz:gz=true):POp P H ρ o (.sl k els):=by
 refine .same Yk λI w a ho=>?_;have h1:=ho.get Yh hx hgx;have q2:=rel_val (ho.get Yh hy hgy);have q3:=rel_val (ho.get Yh hz hgz);obtain⟨e,inf,hut,hi',hk⟩:=slSize_spec ht.h;generalize hu:a.eval x=u at h1;have run:∀(ad:Option Addr) (n cap:Nat),n=els.length->n<=cap->(Instr.sliceAt t (.slice ad n cap) none (some (.int ky (els.length:Int))) (some (.int kz (els.length:Int)))).run P w= .ok (.slice (if n=0 then ad else ad.map (·.add (0*k))) n n) w:=by
  intro ad n cap hn hc;subst hn;have h0:(0:Int)<=(els.length:Int):=Int.natCast_nonneg _;simp[Instr.sliceAt,Instr.slice,run_underlying hut,Instr.sliceBounds,Instr.sliceBound,asIntOf,sizeOf,typeInfo,hi',hk,hc]
 cases h1 with
 | sl _ _ b off len cap hl hc hm hE=>
  refine⟨.slice (some ⟨b,off,none⟩) len len,?_,.sl _ _ _ _ _ _ hl (Nat.le_refl _) (Nat.le_trans hc hm) hE⟩;have:=run (some ⟨b,off,none⟩) len cap hl.symm hc;have e0:(if len=0 then some (⟨b,off,none⟩:Addr) else (some (⟨b,off,none⟩:Addr)).map (·.add (0*k)))=some ⟨b,off,none⟩:=by split <;> simp[Addr.add]
  rw[e0] at this;simp[execOp,h,hu,q2,q3,this]
 | sl0 _ ad cap=>
  have:=run ad 0 cap rfl (Nat.zero_le _);refine⟨.slice ad 0 0,?_,.sl0 _ _ _⟩;rw[if_pos rfl] at this;simp only[execOp,h,hu,q2,q3,Option.map_none,Option.map_some,Sem.run_bind,this,Result.andThen_ok,Sem.run_pure]
end
section
variable{P:Program}{H:List Ent}{ρ:Nat->Option AV}{o:Oper}
end
section
variable{c:Ctx}{r:Option Nat}{P:Program}{ops:Array Oper}{l rest:List Oper}{o:Oper}{env:List (Nat×AV)}{H:List Ent}{Q:Exit->Act->World->Prop}{d:Nat}
end
section
variable{P:Program}{c:Ctx}{r:Option Nat}{ops:Array Oper}{l rest:List Oper}{env:List (Nat×AV)}{H:List Ent}{Q:Exit->Act->World->Prop}{o:Oper}{d:Nat}
theorem OL.mkSlL{x y:Operand}{t e by_:Nat}(m n:Nat){v:Value}{kx ky:IntKind}{mi ni:Int}{g1 g2:Bool}[hM:HasMk P t (e,by_,v)](hgd:o.guard=none)(hd:o.dst=some d)(hn:Nat.blt d c.n=true)(h:o.op= .makeSlice t x y)
  (hx:aev (envGet env) x=some (g1,.val (.int kx mi))) (hg1:g1=true) (hy:aev (envGet env) y=some (g2,.val (.int ky ni))) (hg2:g2=true) (hmi:mi=(m:Int)) (hni:ni=(n:Int)) (hmn:m<=n) (hb:by_*n<=281474976710656) (hm:n<=maxLen)
  (next:∀b,OL c r P ops rest ⟨(d,.val (.slice (some ⟨b,0,none⟩) m n))::env,.blk b e (List.replicate n (.val v))::H⟩ Q):OL c r P ops (o::rest) ⟨env,H⟩ Q:=by
 subst hmi;subst hni;intro a w s;refine wpListIn_plain hgd λK hK=>?_;obtain⟨I,hw,he,hh,hv⟩:=s.mem;obtain⟨i,z,hu,hi,hz,hk,hby,hzs⟩:=mkInfo_spec hM.h;have e1:a.eval x= .int kx (m:Int):=rel_val ((hv.ops o).get Yh hx hg1);have e2:a.eval y= .int ky (n:Int):=rel_val ((hv.ops o).get Yh hy hg2);have hrun:=run_make (P:=P) w t e i z hu hi hz kx ky (m:Int) (n:Int) Yb Yb Y2 (by simp[maxLen] at hm;omega);rw[hzs,hk,Nat.mul_one,Int.toNat_natCast,Int.toNat_natCast,madeCells_one] at hrun;refine Runs.of_value (R:=λu w'=>u= .slice (some ⟨w.heap.size,0,none⟩) m n/\w'=w.alloc (.cells (List.replicate n v).toArray e)) (E:=λ_ _=>False) Yk (v:=.slice (some ⟨w.heap.size,0,none⟩) m n) (w':=w.alloc (.cells (List.replicate n v).toArray e)) (by simp[execOp,h,e1,e2,hrun]) ⟨rfl,rfl⟩ K Q ?_ (λ_ _ h=>h.elim);rintro u w' ⟨rfl,rfl⟩;have h1:RelL I w (List.replicate n (.val v)) (List.replicate n v):=by have:=relL_val (I:=I) (w:=w) (List.replicate n v);rwa [List.map_replicate] at this
 refine hK _ _ (next w.heap.size _ _ ⟨YE,YA,I,hw.alloc _,he.trans (ext_alloc hw _),hh.new hw e _ _ Y7,?_⟩);rw[hd];exact (hv.keep (keeps_alloc hw _)).put (dst:=some d) (by rw[s.size];exact hn) (.val _)
theorem OL.appendRoomX{s z:Operand}{t tx e k by_ k' b off n1 c1 tb:Nat}{cs:List AV}{news:List (List AV)}{y:AV}{g1 g2:Bool}{H':List Ent}[hA:HasApp P t (e,k,by_)][hX:HasSl P tx k'](hgd:o.guard=none)(hd:o.dst=some d)(hn:Nat.blt d c.n=true)
  (h:o.op= .call {callee:=.builtin .append,args:=#[s,z],argTypes:=#[t,tx]}) (hs:aev (envGet env) s=some (g1,.val (.slice (some ⟨b,off,none⟩) n1 c1))) (hg1:g1=true) (hz:aev (envGet env) z=some (g2,y)) (hg2:g2=true) (hy:AVle y (.sl k news))
  (hroom:n1+news.length<=c1) (h1:news.all allOne=true) (hf1:off+n1*k+news.flatten.length<=cs.length)
  (hu:Upd H (.blk b tb cs) (.blk b tb (cs.take (off+n1*k)++news.flatten++cs.drop (off+n1*k+news.flatten.length))) H')
  (next:OL c r P ops rest ⟨(d,.val (.slice (some ⟨b,off,none⟩) (n1+news.length) c1))::env,H'⟩ Q):OL c r P ops (o::rest) ⟨env,H⟩ Q:=by
 intro a w sat;refine wpListIn_plain hgd λK hK=>?_;obtain⟨I,hw,he,hh,hv⟩:=sat.mem;have ho:=hv.ops o;obtain⟨i,zv,hut,hi,hzz,hsz,hby,hzs,hk0⟩:=appInfo_spec hA.h;obtain⟨e',_,hu',_⟩:=slSize_spec hX.h;have hsv:=rel_val (ho.get Yl hs hg1);obtain⟨us,r1,hsrc⟩:=src_of (P:=P) (tx:=tx) hu' (hy _ _ _ (ho.get Yl hz hg2)) h1;rw[<-hsz] at hsrc;obtain⟨hB,vs,hblk,hrel,hni⟩:=hh.ok _ hu.mem;have hcl:vs.size=cs.length:=by have:=hrel.length;simpa using this
 have hnl:us.length=news.flatten.length:=r1.length;have hst:=run_storeCells_at P b (off+n1*k) tb us 0 vs w hblk (by rw[hnl];omega) hsrc.one;simp only[Nat.add_zero,hnl] at hst;generalize hcur:(vs.toList.take (off+n1*k)++us++vs.toList.drop (off+n1*k+news.flatten.length)).toArray=cur at hst;have hr:(Builtin.append_ #[t,tx] o.type #[a.eval s,a.eval z]).run P w= .ok (.slice (some ⟨b,off,none⟩) (n1+news.length) c1) (w.setRow b cur):=by
  have hfc:=hsrc.cells;rw[hsz] at hfc;rw[hsv];rcases hsrc.kind with⟨e2,hk2⟩ | hk2 <;> simp[Builtin.append_,run_underlying hut,run_underlying hk2,sizeOf,typeInfo,hi,hsrc.len,hroom,hfc,Addr.add_lit,hsz,hst]
 have hkeep:Keeps I w I (w.setRow b cur):=⟨λ_ _ x=>x,λb' o' hI=>by
  have hne:b'≠b:=λe=>by subst e;exact hni o' hI
  exact World.cell?_of_block (a:=⟨b',o',none⟩) (setRow_other w b b' cur hne)⟩
 have hext:Ext c.B I w I (w.setRow b cur):=⟨hkeep.imm,hkeep.cell,⟨rfl,rfl,rfl,Yn,λk hk=>setRow_other w b k cur Yb⟩⟩;have hw':WOk c.B I (w.setRow b cur):=⟨Yax,λb' o' hI=>by rw[hkeep.cell b' o' hI];exact hw.there b' o' hI⟩;have hrel':RelL I w (cs.take (off+n1*k)++news.flatten++cs.drop (off+n1*k+news.flatten.length)) cur.toList:=by
  rw[<-hcur];exact ((hrel.take _).append r1).append (hrel.drop _)
 have hh':HeapOk c.B I (w.setRow b cur) H':=by
  refine hh.upd hu hkeep (λk hk hne=>setRow_other w b k cur (λe=>hne (by subst e;rfl))) (λ_ _ x=>.inl x) ?_ (λk hk=>.inl hk);exact⟨hB,cur,setRow_heap w b vs cur tb (0,0) hblk,hrel'.keep hkeep,hni⟩
 refine Runs.of_value (R:=λv w'=>v= .slice (some ⟨b,off,none⟩) (n1+news.length) c1/\w'=w.setRow b cur) (E:=λ_ _=>False) Yk (run_appendOp h a w hr) ⟨rfl,rfl⟩ K Q ?_ (λ_ _ h=>h.elim);rintro v w' ⟨rfl,rfl⟩;refine hK _ _ (next _ _ ⟨Yar,Yag,I,hw',he.trans hext,hh',?_⟩);have:=(hv.keep hkeep).put (dst:=some d) (x:=.val (.slice (some ⟨b,off,none⟩) (n1+news.length) c1)) (v:=.slice (some ⟨b,off,none⟩) (n1+news.length) c1) (by rw[sat.size];exact hn) (.val _);rw[hd];exact this
theorem OL.freezeS{st:St}{d b n cap k:Nat}{t:TypeId}{els:List (List AV)}{more:List AV}{H':List Ent}(hd:envGet st.env d=some (.val (.slice (some ⟨b,0,none⟩) n cap)))(hD:Del st.H (.blk b t (els.flatten++more)) H')
  (hn:els.length=n) (hk:∀e∈els,e.length=k) (hc:n<=cap) (hm:cap<=maxLen) (h:OL c r P ops l ⟨(d,.sl k els)::st.env,H'⟩ Q):OL c r P ops l st Q:=
 λa w s=>h a w (s.freezeS hd hD hn hk hc hm)
end
theorem RetP.imp{B:Nat}{I0:Imm}{w0:World}{Φ Φ' E E':AV->List Ent->Prop}(h1:∀y H,Φ y H->Φ' y H)(h2:∀y H,E y H->E' y H):∀e w,RetP B I0 w0 Φ E e w->RetP B I0 w0 Φ' E' e w:=by
 rintro e w ⟨I',H',a,b,c,d⟩;refine⟨I',H',a,b,c,?_⟩;rcases d with⟨v,x,e1,e2,e3⟩ | ⟨v,x,e1,e2,e3⟩
 ·exact .inl ⟨v,x,e1,e2,h1 _ _ e3⟩
 ·exact .inr ⟨v,x,e1,e2,h2 _ _ e3⟩
theorem BCall.imp{B:Nat}{P:Program}{f:FuncId}{xs:List AV}{H:List Ent}{Φ Φ' E E':AV->List Ent->Prop}(h:BCall B P f xs H Φ E)(h1:∀y H,Φ y H->Φ' y H)(h2:∀y H,E y H->E' y H):BCall B P f xs H Φ' E':=
 ⟨h.1,λI w vs hw hh hr=>(h.2 I w vs hw hh hr).mono (RetP.imp h1 h2)⟩
theorem ACall.imp{P:Program}{f:FuncId}{xs:List AV}{H:List Ent}{Φ Φ' E E':AV->List Ent->Prop}(h:ACall P f xs H Φ E)(h1:∀y H,Φ y H->Φ' y H)(h2:∀y H,E y H->E' y H):ACall P f xs H Φ' E':=
 ⟨h.1,λB I w vs hw hh hr=>(h.2 B I w vs hw hh hr).mono (RetP.imp h1 h2)⟩
section
variable{c:Ctx}{r:Option Nat}{P:Program}{st:St}{Q:Exit->Act->World->Prop}
theorem CW.condKF{p q:Code}(h:CW c r P q st Q):CW c r P (.cond (.const (.bool false)) p q) st Q:=λa w s=>by
 have:=h a w s;exact wpIn_cond_false rfl this
end
theorem Done.roundNP{α:Type}{st:St}{B:Nat}{I0:Imm}{w0:World}{n l D:Nat}{lp:Loop}{ρ:Nat->Option AV}{L:List α}{fails:Bool}{J:List α->List Ent->Prop}{Jp:AV->List Ent->Prop}{pre:List α}{H Hx:List Ent}{ds:List Deferred}
  (hH:(.loop l lp ρ::.obj D (.deferred (some []))::(H++Hx)).Sublist st.H) (hl:pre=L->fails=false) (hJ:J pre H):Done ⟨B,I0,w0,n,ds⟩ st .normal (roundEndP B I0 w0 l D lp ρ L fails J Jp pre Hx):=λa w s=>
 let ⟨I,hw,he,hh,_⟩:=s.mem;⟨I,H,hw,he,hh.sub hH,hl,hJ⟩
theorem Done.roundPP{α:Type}{st:St}{B:Nat}{I0:Imm}{w0:World}{n l D:Nat}{lp:Loop}{ρ:Nat->Option AV}{L:List α}{fails:Bool}{J:List α->List Ent->Prop}{Jp:AV->List Ent->Prop}{pre:List α}{H Hx:List Ent}{y:AV}{v:Value}
  (hH:(.loop l lp ρ::.obj D (.deferred (some []))::(H++Hx)).Sublist st.H) (hy:y.Const v) (hp:pre=L) (hf:fails=true) (hJ:Jp y H):Done ⟨B,I0,w0,n,[]⟩ st (.panic [{v:=v,recovered:=false}]) (roundEndP B I0 w0 l D lp ρ L fails J Jp pre Hx):=λa w s=>
 let ⟨I,hw,he,hh,_⟩:=s.mem;⟨I,H,hw,he,hh.sub hH,s.ds,hp,hf,v,y,rfl,hy.rel _ _,hJ⟩
section
variable{P:Program}{H:List Ent}{ρ:Nat->Option AV}{o:Oper}{G:Type}
def SlReads(H:List Ent)(ρ:Nat->Option AV)(o:Oper)(y:Operand)(k n2:Nat)(ncs:List AV):Prop:=∀(B:Nat) (I:Imm) (w:World) (a:Act),HeapOk B I w H->OpsOk I w ρ a o->
 ∃b2 o2 c2 us,a.eval y= .slice (some ⟨b2,o2,none⟩) n2 c2/\RelL I w ncs us/\us.length=n2*k/\∀j v,us[j]? =some v->w.cell? ⟨b2,o2+j,none⟩=some v
theorem SlReads.sl{y:Operand}{k:Nat}{els:List (List AV)}{g:Bool}{z:AV}(hm:y∈o.op.operands)(hx:aev ρ y=some (g,z))(hg:g=true)(hle:AVle z (.sl k els))(hne:els≠ []):SlReads H ρ o y k els.length els.flatten:=by
 intro B I w a hh ho;have h0:=hle _ _ _ (ho.get hm hx hg);generalize a.eval y=u at h0;cases h0 with
 | sl0 _ a cp=>exact absurd rfl hne
 | sl _ _ b off len cap hl hc hcm he=>
  subst hl;obtain⟨us,r1,r2,r3⟩:=he.values;exact⟨b,off,cap,us,rfl,r1,r2,λj v hj=>by have:=r3 j v hj;rwa [Addr.add_lit] at this⟩
theorem SlReads.blk{y:Operand}{k b2 o2 n2 c2 tb:Nat}{cs:List AV}{g:Bool}(hm:y∈o.op.operands)(hx:aev ρ y=some (g,.val (.slice (some ⟨b2,o2,none⟩) n2 c2)))(hg:g=true)(he:Ent.blk b2 tb cs∈H)(hfit:o2+n2*k<=cs.length):
  SlReads H ρ o y k n2 ((cs.drop o2).take (n2*k)):=by
 intro B I w a hh ho;have h0:=rel_val (ho.get hm hx hg);obtain⟨hB,vs,hblk,hrel,hni⟩:=hh.ok _ he;have hl:vs.size=cs.length:=by have:=hrel.length;simpa using this
 refine⟨b2,o2,c2,(vs.toList.drop o2).take (n2*k),h0,(hrel.drop _).take _,?_,λj v hj=>?_⟩
 ·rw[List.length_take,List.length_drop,Array.length_toList];omega
 ·rw[List.getElem?_take] at hj;split at hj
  ·rw[List.getElem?_drop] at hj;rw[cell_of_blk hblk];simpa using hj
  ·cases hj
theorem allOne_take{l:List AV}{n:Nat}(h:allOne l=true):allOne (l.take n)=true:=List.all_eq_true.2 λx hx=>List.all_eq_true.1 h x (List.mem_of_mem_take hx)
theorem copy_runs{x y:Operand}{t t':TypeId}{k b o1 n1 c1 n2 m tb:Nat}{cs ncs:List AV}{H':List Ent}{g1:Bool}[ht:HasSl P t k](h:o.op= .call {callee:=.builtin .copy,args:=#[x,y],argTypes:=#[t,t']})
  (hx:aev ρ x=some (g1,.val (.slice (some ⟨b,o1,none⟩) n1 c1))) (hg1:g1=true) (hy:SlReads H ρ o y k n2 ncs) (h1:allOne (ncs.take (m*k))=true) (hm:min n2 n1=m) (hfit:o1+m*k<=cs.length)
  (hu:Upd H (.blk b tb cs) (.blk b tb (cs.take o1++ncs.take (m*k)++cs.drop (o1+m*k))) H') {B:Nat} {I:Imm} {w:World} {r:Option Nat} {a:Act} (hw:WOk B I w) (hh:HeapOk B I w H) (ho:OpsOk I w ρ a o):
  Runs P r o a w (λv w'=>WOk B I w'/\Ext B I w I w'/\HeapOk B I w' H'/\Rel I w' (.i m) v) (λ_ _=>False):=by
 have hxv:=rel_val (ho.get Yl hx hg1);obtain⟨b2,o2,c2,us,hyv,r1,r2,r3⟩:=hy B I w a hh ho;obtain⟨hB,vs,hblk,hrel,hni⟩:=hh.ok _ hu.mem;have hcl:vs.size=cs.length:=by have:=hrel.length;simpa using this
 have hmn:m*k<=us.length:=by rw[r2];exact Nat.mul_le_mul_right k Yb
 have hlen:(us.take (m*k)).length=m*k:=by rw[List.length_take];omega
 obtain⟨el,i,hut,hi,hk⟩:=slSize_spec ht.h;have hone:=relL_one (r1.take (m*k)) h1;have hf:=run_firstCells_some (P:=P) w i.size m ⟨b2,o2,none⟩ n2 c2 (us.take (m*k)) (by rw[hk];exact hlen) (λj v hj=>by
  rw[List.getElem?_take] at hj;split at hj
  ·rw[Addr.add_lit];exact r3 j v hj
  ·cases hj)
 have hst:=run_storeCells_at P b o1 tb (us.take (m*k)) 0 vs w hblk (by rw[hlen];omega) hone;simp only[Nat.add_zero,hlen] at hst;generalize hcur:(vs.toList.take o1++us.take (m*k)++vs.toList.drop (o1+m*k)).toArray=cur at hst;have hr:(Builtin.copy_ #[t,t'] o.type #[a.eval x,a.eval y]).run P w= .ok (.int .i64 (m:Nat)) (w.setRow b cur):=by
  rw[hxv,hyv];simp[Builtin.copy_,run_underlying hut,sizeOf,typeInfo,hi,Builtin.lenOf,hm,hf,hst,goInt]
 have hkeep:Keeps I w I (w.setRow b cur):=⟨λ_ _ x=>x,λb' o' hI=>by
  have hne:b'≠b:=λe=>by subst e;exact hni o' hI
  exact World.cell?_of_block (a:=⟨b',o',none⟩) (setRow_other w b b' cur hne)⟩
 have hext:Ext B I w I (w.setRow b cur):=⟨hkeep.imm,hkeep.cell,⟨rfl,rfl,rfl,Yn,λk hk=>setRow_other w b k cur Yb⟩⟩;have hw':WOk B I (w.setRow b cur):=⟨Yax,λb' o' hI=>by rw[hkeep.cell b' o' hI];exact hw.there b' o' hI⟩;have hrel':RelL I w (cs.take o1++ncs.take (m*k)++cs.drop (o1+m*k)) cur.toList:=by
  rw[<-hcur];exact ((hrel.take _).append (r1.take _)).append (hrel.drop _)
 have hh':HeapOk B I (w.setRow b cur) H':=by
  refine hh.upd hu hkeep (λk hk hne=>setRow_other w b k cur (λe=>hne (by subst e;rfl))) (λ_ _ x=>.inl x) ?_ (λk hk=>.inl hk);exact⟨hB,cur,setRow_heap w b vs cur tb (0,0) hblk,hrel'.keep hkeep,hni⟩
 exact Runs.of_value (R:=λv w'=>WOk B I w'/\Ext B I w I w'/\HeapOk B I w' H'/\Rel I w' (.i m) v) (E:=λ_ _=>False) Yk (v:=.int .i64 (m:Nat)) (w':=w.setRow b cur) (by simp[execOp,h,resolve,invoke,builtin,hr]) ⟨hw',hext,hh',.val _⟩
theorem FOk.copy{x y:Operand}{t t':TypeId}{k b o1 n1 c1 n2 tb:Nat}{cs ncs:List AV}{H':G->Value->List Ent}{g1:Bool}(g:G)(m:Nat)[ht:HasSl P t k](h:o.op= .call {callee:=.builtin .copy,args:=#[x,y],argTypes:=#[t,t']})
  (hx:aev ρ x=some (g1,.val (.slice (some ⟨b,o1,none⟩) n1 c1))) (hg1:g1=true) (hy:SlReads H ρ o y k n2 ncs) (h1:allOne ncs=true) (hm:min n2 n1=m) (hfit:o1+m*k<=cs.length)
  (hu:∀v,Upd H (.blk b tb cs) (.blk b tb (cs.take o1++ncs.take (m*k)++cs.drop (o1+m*k))) (H' g v)):FOk P H H' ρ o (.i m):=λB I w r a hw hh ho=>
 (copy_runs h hx hg1 hy (allOne_take h1) hm hfit (hu (.int .i64 m)) hw hh ho).mono (λv w' ⟨a1,a2,a3,a4⟩=>⟨I,g,a1,a2,(by have e:=rel_val a4;rw[e];exact a3),a4⟩) (λ_ _ h=>h)
section
variable{c:Ctx}{r:Option Nat}{ops:Array Oper}{l rest:List Oper}{env:List (Nat×AV)}{Q:Exit->Act->World->Prop}{d:Nat}
theorem OL.copyT{x y:Operand}{t t':TypeId}{k b o1 n1 c1 n2 tb:Nat}{cs ncs:List AV}{H':List Ent}{g1:Bool}(m:Nat)[ht:HasSl P t k](hgd:o.guard=none)(hd:o.dst=some d)(hn:Nat.blt d c.n=true)(h:o.op= .call {callee:=.builtin .copy,args:=#[x,y],argTypes:=#[t,t']})
  (hx:aev (envGet env) x=some (g1,.val (.slice (some ⟨b,o1,none⟩) n1 c1))) (hg1:g1=true) (hy:SlReads H (envGet env) o y k n2 ncs) (h1:allOne (ncs.take (m*k))=true) (hm:min n2 n1=m) (hfit:o1+m*k<=cs.length)
  (hu:Upd H (.blk b tb cs) (.blk b tb (cs.take o1++ncs.take (m*k)++cs.drop (o1+m*k))) H') (next:OL c r P ops rest ⟨(d,.i m)::env,H'⟩ Q):OL c r P ops (o::rest) ⟨env,H⟩ Q:=by
 intro a w sat;refine wpListIn_plain hgd λK hK=>?_;obtain⟨I,hw,he,hh,hv⟩:=sat.mem;have:=copy_runs (P:=P) (r:=r) (a:=a) h hx hg1 hy h1 hm hfit hu hw hh (hv.ops o);refine this K Q ?_ (λ_ _ h=>h.elim);rintro v w' ⟨a1,a2,a3,a4⟩;refine hK _ _ (next _ _ ⟨Yar,Yag,I,a1,he.trans a2,a3,?_⟩);have:=(hv.keep a2.keeps).put (dst:=some d) (by rw[sat.size];exact hn) a4;rw[hd];exact this
theorem OL.copyC{x y:Operand}{t t':TypeId}{k b o1 n1 c1 n2 tb:Nat}{cs ncs:List AV}{H':List Ent}{g1:Bool}(m:Nat)[ht:HasSl P t k](hgd:o.guard=none)(hd:o.dst=some d)(hn:Nat.blt d c.n=true)(h:o.op= .call {callee:=.builtin .copy,args:=#[x,y],argTypes:=#[t,t']})
  (hx:aev (envGet env) x=some (g1,.val (.slice (some ⟨b,o1,none⟩) n1 c1))) (hg1:g1=true) (hy:SlReads H (envGet env) o y k n2 ncs) (h1:allOne ncs=true) (hm:min n2 n1=m) (hfit:o1+m*k<=cs.length)
  (hu:Upd H (.blk b tb cs) (.blk b tb (cs.take o1++ncs.take (m*k)++cs.drop (o1+m*k))) H') (next:OL c r P ops rest ⟨(d,.i m)::env,H'⟩ Q):OL c r P ops (o::rest) ⟨env,H⟩ Q:=OL.copyT m hgd hd hn h hx hg1 hy (allOne_take h1) hm hfit hu next
end
end
def taT(P:Program)(t:TypeId):Bool:=match P.underlying t with
 | some (.interface _)=>false
 | some _=>(match P.info? t with | some i=>i.zero.isSome | none=>false)
 | none=>false
class HasTa (P:Program) (t:Nat):Prop where h:taT P t=true
theorem taT_spec{P:Program}{t:TypeId}(h:taT P t=true):∃d i z,P.underlying t=some d/\(∀l,d≠ .interface l)/\P.info? t=some i/\i.zero=some z:=by
 unfold taT at h;split at h
 ·cases h
 ·rename_i d hd hu;split at h
  ·rename_i i hi;obtain⟨z,hz⟩:=Option.isSome_iff_exists.1 h;exact⟨d,i,z,hu,λl e=>hd l (by rw[<-e]),hi,hz⟩
  ·cases h
 ·cases h
section
variable{P:Program}{H:List Ent}{ρ:Nat->Option AV}{o:Oper}
theorem POp.taYes{x:Operand}{xt t:TypeId}{y:AV}{g:Bool}[hT:HasTa P t](h:o.op= .typeAssert x xt t true)(hx:aev ρ x=some (g,.iface t y))(hg:g=true):POp P H ρ o (.tup [y,.b true]):=by
 obtain⟨d,i,z,hu,hd,hi,hz⟩:=taT_spec hT.h;refine .same Yk λI w f ho=>?_;have h1:=ho.get Yh hx hg;generalize hv:f.eval x=u at h1;cases h1 with
 | iface _ _ v hr=>
  refine⟨.tuple #[v,.bool true],?_,.tup _ _ (.cons _ _ _ _ hr (.cons _ _ _ _ (.val _) .nil))⟩;cases d <;> first | (exact absurd rfl (hd _)) | simp[execOp,h,hv,Instr.typeAssert,run_underlying hu]
theorem POp.taNo{x:Operand}{xt t t2:TypeId}{y:AV}{g:Bool}[hT:HasTa P t](h:o.op= .typeAssert x xt t true)(hx:aev ρ x=some (g,.iface t2 y))(hg:g=true)(hne:Nat.beq t2 t=false):POp P H ρ o (.tup [.any,.b false]):=by
 obtain⟨d,i,z,hu,hd,hi,hz⟩:=taT_spec hT.h;have hn:t2≠t:=λe=>by subst e;simp at hne
 refine .same Yk λI w f ho=>?_;have h1:=ho.get Yh hx hg;generalize hv:f.eval x=u at h1;have hzv:(zeroValue t).run P w= .ok z w:=by simp[zeroValue,typeInfo,hi,hz]
 cases h1 with
 | iface _ _ v hr=>
  refine⟨.tuple #[z,.bool false],?_,.tup _ _ (.cons _ _ _ _ (.any _) (.cons _ _ _ _ (.val _) .nil))⟩;cases d <;> first | (exact absurd rfl (hd _)) | simp[execOp,h,hv,Instr.typeAssert,run_underlying hu,hn,hzv]
theorem POp.taNil{x:Operand}{xt t:TypeId}{g:Bool}[hT:HasTa P t](h:o.op= .typeAssert x xt t true)(hx:aev ρ x=some (g,.val .nilIface))(hg:g=true):POp P H ρ o (.tup [.any,.b false]):=by
 obtain⟨d,i,z,hu,hd,hi,hz⟩:=taT_spec hT.h;refine .same Yk λI w f ho=>?_;have hv:=rel_val (ho.get Yh hx hg);have hzv:(zeroValue t).run P w= .ok z w:=by simp[zeroValue,typeInfo,hi,hz]
 refine⟨.tuple #[z,.bool false],?_,.tup _ _ (.cons _ _ _ _ (.any _) (.cons _ _ _ _ (.val _) .nil))⟩;cases d <;> first | (exact absurd rfl (hd _)) | simp[execOp,h,hv,Instr.typeAssert,run_underlying hu,hzv]
end
end Go.Eng
