/- Part 5 of the proof: contracts of functions of the program and what they need. No condition beyond those that each theorem names. -/
import Derived.Test.YtogjaoodkaahoaaGreatVowJudgesP4
import Derived.Laws.StructEq
import Derived.ChangeKeysEq
set_option maxHeartbeats 1000000
set_option linter.unusedVariables false
set_option linter.unusedSimpArgs false
namespace Go.Eng
open Go.RowKit (Below)
abbrev imapE(b:Nat)(l:List (Int×AV)):Ent:=.map b (l.map λp=>(.int .i64 p.1,p.2))
def smallKey(k:Int):Prop:=-9223372036854775808<=k/\k<=9223372036854775807
structure IMapOk(l:List (Int×AV)):Prop where
 small:∀p∈l,smallKey p.1
 nodup:(l.map (·.1)).Nodup
def getI:List (Int×AV)->Int->Option AV
 | [],_=>none
 | p::r,k=>if p.1=k then some p.2 else getI r k
def putI:List (Int×AV)->Int->AV->List (Int×AV)
 | [],k,v=>[(k,v)]
 | p::r,k,v=>if p.1=k then (k,v)::r else p::putI r k v
theorem getI_put:∀(l:List (Int×AV)) (k:Int) (v:AV) (k':Int),getI (putI l k v) k'=if k'=k then some v else getI l k'
 | [],k,v,k'=>by
  simp only[putI,getI];by_cases h:k=k'
  ·rw[if_pos h,if_pos h.symm]
  ·rw[if_neg h,if_neg (λe=>h e.symm)]
 | p::r,k,v,k'=>by
  by_cases h:p.1=k
  ·simp only[putI,if_pos h,getI];by_cases h2:k'=k
   ·rw[if_pos h2.symm,if_pos h2]
   ·rw[if_neg (λe=>h2 e.symm),if_neg h2,if_neg (λe=>h2 (by rw[<-e,h]))]
  ·simp only[putI,if_neg h,getI,getI_put r k v k'];by_cases h2:p.1=k'
   ·rw[if_pos h2,if_pos h2,if_neg (λe=>h (h2.trans e))]
   ·rw[if_neg h2,if_neg h2]
theorem putI_keys:∀(l:List (Int×AV)) (k:Int) (v:AV),(putI l k v).map (·.1)=if k∈l.map (·.1) then l.map (·.1) else l.map (·.1)++[k]
 | [],k,v=>by simp[putI]
 | p::r,k,v=>by
  by_cases h:p.1=k
  ·simp[putI,h]
  ·have ih:=putI_keys r k v;simp only[putI,if_neg h,List.map_cons,ih];by_cases h2:k∈r.map (·.1)
   ·rw[if_pos h2,if_pos (List.mem_cons_of_mem _ h2)]
   ·rw[if_neg h2,if_neg (by simp only[List.mem_cons,not_or];exact⟨λe=>h e.symm,h2⟩)];rfl
theorem IMapOk.nil:IMapOk []:=⟨λp hp=>(by cases hp),Yn⟩
theorem IMapOk.put{l:List (Int×AV)}(h:IMapOk l){k:Int}(hk:smallKey k)(v:AV):IMapOk (putI l k v):=by
 refine⟨λp hp=>?_,?_⟩
 ·have h1:p.1∈(putI l k v).map (·.1):=List.mem_map_of_mem hp;rw[putI_keys] at h1;have key:∀x∈l.map (·.1),smallKey x:=λx hx=>by
   obtain⟨q,hq,rfl⟩:=List.mem_map.1 hx;exact h.small q hq
  split at h1
  ·exact key _ h1
  ·rcases List.mem_append.1 h1 with h1 | h1
   ·exact key _ h1
   ·simp at h1;rw[h1];exact hk
 ·rw[putI_keys];split
  ·exact h.nodup
  ·rename_i hn;refine List.nodup_append.2 ⟨h.nodup,Yn,λa ha b hb=>?_⟩;simp at hb;subst hb;exact λe=>hn (e▸ha)
theorem putI_new:∀(l:List (Int×AV)) (k:Int) (v:AV),(∀p∈l,p.1≠k)->putI l k v=l++[(k,v)]
 | [],k,v,_=>rfl
 | p::r,k,v,h=>by rw[putI,if_neg (h p (.head _)),putI_new r k v (λq hq=>h q (.tail _ hq))];rfl
theorem getI_new:∀(l:List (Int×AV)) (k:Int),(∀p∈l,p.1≠k)->getI l k=none
 | [],k,_=>rfl
 | p::r,k,h=>by rw[getI,if_neg (h p (.head _)),getI_new r k (λq hq=>h q (.tail _ hq))]
theorem putI_at:∀(l:List (Int×AV)) (k:Int) (v:AV) (j:Nat) (u:AV),(l.map (·.1)).Nodup->l[j]? =some (k,u)->putI l k v=l.set j (k,v)/\getI l k=some u
 | [],k,v,j,u,_,h=>by simp at h
 | p::r,k,v,0,u,hn,h=>by
  simp at h;subst h;simp[putI,getI]
 | p::r,k,v,j+1,u,hn,h=>by
  have h':r[j]? =some (k,u):=by simpa using h
  have hne:p.1≠k:=by
   rw[List.map_cons,List.nodup_cons] at hn;intro e;exact hn.1 (by rw[e];exact List.mem_map.2 ⟨(k,u),List.mem_of_getElem? h',rfl⟩)
  obtain⟨h1,h2⟩:=putI_at r k v j u (by rw[List.map_cons,List.nodup_cons] at hn;exact hn.2) h';rw[putI,getI,if_neg hne,if_neg hne,h1,h2];exact⟨rfl,rfl⟩
class HasMapI (P:Program) (t:Nat) (x:outParam (Nat×Nat)):Prop where
 h:P.underlying t=some (.map x.1 x.2)
 int:P.underlying x.1=some (.int .i64)
class HasZ (P:Program) (t:Nat) (z:outParam Value):Prop where
 h:((P.info? t).bind (·.zero))=some z
theorem relL_set{I:Imm}{w:World}:∀{xs:List AV} {vs:List Value},RelL I w xs vs->∀{x:AV} {v:Value},Rel I w x v->∀{j:Nat},RelL I w (xs.set j x) (vs.set j v)
 | _,_,.nil,x,v,h,j=>.nil
 | _,_,.cons x0 v0 xs vs hx ht,x,v,h,0=>.cons _ _ _ _ h ht
 | _,_,.cons x0 v0 xs vs hx ht,x,v,h,j+1=>.cons _ _ _ _ hx (relL_set ht h)
theorem goodKey_int{P:Program}{k:TypeId}(hk:P.underlying k=some (.int .i64)){n:Int}(hn:smallKey n):goodKey P k (.int .i64 n):=by
 refine⟨.int .i64 n,?_⟩;have:(Go.Lit.int .i64 n).wf=true:=by
  simp only[Go.Lit.wf];rw[Bool.and_eq_true,decide_eq_true_eq,decide_eq_true_eq];exact hn
 simp[keyOf,hk,mapKey,this]
section
variable{P:Program}{H:List Ent}{ρ:Nat->Option AV}{o:Oper}
theorem zero_of{t:TypeId}{z:Value}(h:((P.info? t).bind (·.zero))=some z)(w:World):(zeroValue t).run P w= .ok z w:=by
 cases hi:P.info? t with
 | none=>simp[hi] at h
 | some inf=>simp[hi] at h;simp[zeroValue,typeInfo,hi,h]
theorem POp.lookupI{t:TypeId}{x kx:Operand}{b:Nat}{ke:Nat×Nat}{l:List (Int×AV)}{k:Int}{g1 g2:Bool}{zv:Value}[hM:HasMapI P t ke][hZ:HasZ P ke.2 zv](h:o.op= .lookup t x kx false)
  (hx:aev ρ x=some (g1,.val (.map (some b)))) (hg1:g1=true) (hk:aev ρ kx=some (g2,.i k)) (hg2:g2=true) (hm:imapE b l∈H) (hl:IMapOk l) (hsm:smallKey k):POp P H ρ o ((getI l k).getD (.val zv)):=by
 intro B I w r a Hc hw hh hs ho;have hxv:=rel_val (ho.get Yh hx hg1);have hkv:=rel_val (ho.get Yh hk hg2);obtain⟨hB,⟨en,cl,hb,hkeys,hvals⟩,hni⟩:=hh.ok _ (hs _ hm);have K:=Go.Maps.int_keyed hM.int;obtain⟨lx,hlx⟩:=goodKey_int hM.int hsm;have hall:∀e∈en.toList,∃l,keyOf P ke.1 e.key=some l:=λe he=>by
  have:e.key∈(l.map λp=>((Value.int .i64 p.1,p.2):Value×AV)).map (·.1):=by rw[<-hkeys];exact List.mem_map_of_mem he
  rw[List.map_map] at this;obtain⟨p,hp,hpe⟩:=List.mem_map.1 this;rw[<-hpe];exact goodKey_int hM.int (hl.small p hp)
 have hchk:=K.check w en.isEmpty hlx;have hget:(getObj b).run P w= .ok (.map en cl) w:=by simp[getObj,Sem.run,hb]
 rcases K.find w hlx en.toList hall with⟨hf,hne⟩ | ⟨j,e,hf,hj,hke⟩
 ·have hz:=zero_of hZ.h w;have hrun:(execOp a.eval o).run P w= .ok (.value zv) w:=by
   simp[execOp,h,Instr.lookup,run_underlying hM.h,hxv,hkv,hget,hchk,hf,hz]
  have hg:getI l k=none:=getI_new l k λp hp e=>by
   have:(Value.int .i64 p.1)∈en.toList.map (·.key):=by rw[hkeys,List.map_map];exact List.mem_map.2 ⟨p,hp,rfl⟩
   obtain⟨e',he',hee⟩:=List.mem_map.1 this;exact hne e' he' (by rw[hee,e])
  refine Runs.of_value Yk hrun ⟨I,hw,Ext.refl _ _ _,hh,?_⟩;rw[hg];exact .val _
 ·have hrun:(execOp a.eval o).run P w= .ok (.value e.val) w:=by
   simp[execOp,h,Instr.lookup,run_underlying hM.h,hxv,hkv,hget,hchk,hf]
  obtain⟨u,hu1,hu2⟩:=relL_get hvals (i:=j) (v:=e.val) (by rw[List.getElem?_map,hj];rfl);have hlj:l[j]? =some (k,u):=by
   rw[List.map_map,List.getElem?_map] at hu1;cases hp:l[j]? with
   | none=>rw[hp] at hu1;cases hu1
   | some p=>
    rw[hp] at hu1;have h2:((l.map λp=>((Value.int .i64 p.1,p.2):Value×AV)).map (·.1))[j]? =some e.key:=by rw[<-hkeys,List.getElem?_map,hj];rfl
    rw[List.map_map,List.getElem?_map,hp] at h2;simp at hu1 h2;rw[hke] at h2;simp at h2;rw[show p=(k,u) from Prod.ext h2 hu1]
  refine Runs.of_value Yk hrun ⟨I,hw,Ext.refl _ _ _,hh,?_⟩;rw[(putI_at l k .any j u hl.nodup hlj).2];exact hu2
theorem mapPut_runs{t:TypeId}{x kx z:Operand}{b:Nat}{ke:Nat×Nat}{l:List (Int×AV)}{k:Int}{u u':AV}{g1 g2 g3:Bool}{H':List Ent}[hM:HasMapI P t ke](h:o.op= .mapUpdate t x kx z\/o.op= .insert t x kx z)
  (hx:aev ρ x=some (g1,.val (.map (some b)))) (hg1:g1=true) (hk:aev ρ kx=some (g2,.i k)) (hg2:g2=true) (hz:aev ρ z=some (g3,u)) (hg3:g3=true) (hle:AVle u u')
  (hu:Upd H (imapE b l) (imapE b (putI l k u')) H') (hl:IMapOk l) (hsm:smallKey k):SOk P H H' ρ o:=by
 intro B I w r a hw hh ho;have hops:x∈o.op.operands/\kx∈o.op.operands/\z∈o.op.operands:=by rcases h with h | h <;> simp[h,Op.operands]
 have hnd:∀c,o.op≠ .defer c:=by rcases h with h | h <;> simp[h]
 have hxv:=rel_val (ho.get hops.1 hx hg1);have hkv:=rel_val (ho.get hops.2.1 hk hg2);have hzv:=hle _ _ _ (ho.get hops.2.2 hz hg3);obtain⟨hB,⟨en,cl,hb,hkeys,hvals⟩,hni⟩:=hh.ok _ hu.mem;have K:=Go.Maps.int_keyed hM.int;obtain⟨lx,hlx⟩:=goodKey_int hM.int hsm;have hall:∀e∈en.toList,∃l,keyOf P ke.1 e.key=some l:=λe he=>by
  have:e.key∈(l.map λp=>((Value.int .i64 p.1,p.2):Value×AV)).map (·.1):=by rw[<-hkeys];exact List.mem_map_of_mem he
  rw[List.map_map] at this;obtain⟨p,hp,hpe⟩:=List.mem_map.1 this;rw[<-hpe];exact goodKey_int hM.int (hl.small p hp)
 have hchk:=K.check w false hlx;have hget:(getObj b).run P w= .ok (.map en cl) w:=by simp[getObj,Sem.run,hb]
 have hset:∀o':Obj,(setObj b o').run P w= .ok () (w.putObj b o'):=λo'=>by simp[setObj,Sem.run,hb,World.putObj]
 have hlt:b<w.heap.size:=(Array.getElem?_eq_some_iff.1 hb).1;have fin:∀(en':Array MapEntry) (cl':Nat),en'.toList.map (·.key)=(putI l k u').map (λp=>Value.int .i64 p.1)->RelL I w ((putI l k u').map (·.2)) (en'.toList.map (·.val))->
   (execOp a.eval o).run P w= .ok .skip (w.putObj b (.map en' cl'))->Runs P r o a w (λv w'=>∃I',WOk B I' w'/\Ext B I w I' w'/\HeapOk B I' w' H') (λ_ _=>False):=by
  intro en' cl' h1 h2 hrun;have hkp:Keeps I w I (w.putObj b (.map en' cl')):=putObj_keeps (B:=B) hni;refine Runs.of_skip hnd hrun ⟨I,hw.putObj hni,Ext.putObj hB hni,?_⟩;refine hh.upd hu hkp (λb' _ hne=>World.putObj_heap_other (λe=>hne (by rw[e];rfl))) (λ_ _ x=>.inl x) ⟨hB,⟨en',cl',World.putObj_heap_same hlt,?_,?_⟩,hni⟩ (λ_ hb=>.inl hb)
  ·rw[h1,List.map_map];rfl
  ·rw[List.map_map];exact h2.keep hkp
 have hkeys':en.toList.map (·.key)=l.map λp=>Value.int .i64 p.1:=by rw[hkeys,List.map_map];rfl
 have hvals':RelL I w (l.map (·.2)) (en.toList.map (·.val)):=by rw[List.map_map] at hvals;exact hvals
 rcases K.find w hlx en.toList hall with⟨hf,hne⟩ | ⟨j,e,hf,hj,hke⟩
 ·have hnew:∀p∈l,p.1≠k:=λp hp e=>by
   have:(Value.int .i64 p.1)∈en.toList.map (·.key):=by rw[hkeys'];exact List.mem_map.2 ⟨p,hp,rfl⟩
   obtain⟨e',he',hee⟩:=List.mem_map.1 this;exact hne e' he' (by rw[hee,e])
  refine fin (en.push {key:=.int .i64 k,val:=a.eval z,born:=cl}) (cl+1) ?_ ?_ ?_
  ·rw[putI_new l k u' hnew];simp[hkeys']
  ·rw[putI_new l k u' hnew];simp only[Array.toList_push,List.map_append,List.map_cons,List.map_nil];exact hvals'.append (.cons _ _ _ _ hzv .nil)
  ·rcases h with h | h <;> simp[execOp,h,Instr.mapUpdate,run_underlying hM.h,hxv,hkv,hget,hchk,hf,hset]
 ·have hej:en[j]? =some e:=by simpa using hj
  have hstay:=K.stays w hlx;obtain⟨u0,hu1,hu2⟩:=relL_get hvals' (i:=j) (v:=e.val) (by rw[List.getElem?_map,hj];rfl);have hlj:l[j]? =some (k,u0):=by
   rw[List.getElem?_map] at hu1;cases hp:l[j]? with
   | none=>rw[hp] at hu1;cases hu1
   | some p=>
    rw[hp] at hu1;have h2:(l.map λp=>Value.int .i64 p.1)[j]? =some e.key:=by rw[<-hkeys',List.getElem?_map,hj];rfl
    rw[List.getElem?_map,hp] at h2;simp at hu1 h2;rw[hke] at h2;simp at h2;rw[show p=(k,u0) from Prod.ext h2 hu1]
  have hset2:=(putI_at l k u' j u0 hl.nodup hlj).1;have hmod:(en.modify j λe=>{e with key:=.int .i64 k,val:=a.eval z}).toList=en.toList.set j {e with key:=.int .i64 k,val:=a.eval z}:=by
   apply List.ext_getElem?;intro i;rw[Array.getElem?_toList,Array.getElem?_modify,List.getElem?_set];by_cases hij:j=i
   ·subst hij;rw[if_pos rfl,if_pos rfl,hej,if_pos (by have:=(List.getElem?_eq_some_iff.1 hj).1;exact this)];rfl
   ·rw[if_neg hij,if_neg hij];simp
  refine fin (en.modify j λe=>{e with key:=.int .i64 k,val:=a.eval z}) cl ?_ ?_ ?_
  ·rw[hmod,hset2,List.map_set,List.map_set,hkeys']
  ·rw[hmod,hset2,List.map_set,List.map_set];exact relL_set hvals' hzv
  ·rcases h with h | h <;> simp[execOp,h,Instr.mapUpdate,run_underlying hM.h,hxv,hkv,hget,hchk,hf,hset,hej,hke,hstay]
end
section
variable{c:Ctx}{r:Option Nat}{P:Program}{ops:Array Oper}{l rest:List Oper}{env:List (Nat×AV)}{H:List Ent}{Q:Exit->Act->World->Prop}{d:Nat}{o:Oper}
theorem OL.mapPut{t:TypeId}{x kx z:Operand}{b:Nat}{ke:Nat×Nat}{l:List (Int×AV)}{k:Int}{u u':AV}{g1 g2 g3:Bool}{H':List Ent}[hM:HasMapI P t ke](hgd:o.guard=none)(hd:o.dst=none)(h:o.op= .mapUpdate t x kx z\/o.op= .insert t x kx z)
  (hx:aev (envGet env) x=some (g1,.val (.map (some b)))) (hg1:g1=true) (hk:aev (envGet env) kx=some (g2,.i k)) (hg2:g2=true) (hz:aev (envGet env) z=some (g3,u)) (hg3:g3=true) (hle:AVle u u')
  (hu:Upd H (imapE b l) (imapE b (putI l k u')) H') (hl:IMapOk l) (hsm:smallKey k) (next:OL c r P ops rest ⟨env,H'⟩ Q):OL c r P ops (o::rest) ⟨env,H⟩ Q:=by
 intro a w s;refine wpListIn_plain hgd λK hK=>?_;obtain⟨I,hw,he,hh,hv⟩:=s.mem;refine (mapPut_runs h hx hg1 hk hg2 hz hg3 hle hu hl hsm) c.B I w r a hw hh (hv.ops o) K Q ?_ (λ_ _ h=>h.elim);rintro v w' ⟨I',a1,a2,a3⟩;refine hK _ _ ?_;rw[hd];exact next _ _ ⟨s.ds,s.size,I',a1,he.trans a2,a3,hv.keep a2.keeps⟩
end
section
variable{P:Program}{H:List Ent}{ρ:Nat->Option AV}{o:Oper}{X:PX}
theorem appendOwn_runs{y0:AV}{s z:Operand}{t tx e k by_ k':Nat}{els news:List (List AV)}{v:Value}{y:AV}{g1 g2:Bool}{H':Value->List Ent}[hA:HasApp P t (e,k,by_)][hX:HasSl P tx k']
  (h:o.op= .call {callee:=.builtin .append,args:=#[s,z],argTypes:=#[t,tx]}) (hs:aev ρ s=some (g1,y0)) (hg1:g1=true) (hy0:AVle y0 (.as (.sl k els) v)) (hz:aev ρ z=some (g2,y)) (hg2:g2=true) (hy:AVle y (.sl k news))
  (h1:news.all allOne=true) (hu:∀v',Upd H (.own e k v) (.own e k v') (H' v')) (hb:(els.length+news.length)*by_<=140737488355328) (hb':els.length+news.length<=9223372036854775807)
  {B:Nat} {I:Imm} {w:World} {r:Option Nat} {a:Act} (hw:WOk B I w) (hh:HeapOk B I w H) (hv:OpsOk I w ρ a o):
  Runs P r o a w (λx w'=>∃I',WOk B I' w'/\Ext B I w I' w'/\HeapOk B I' w' (H' x)/\Rel I' w' (.as (.sl k (els++news)) x) x) (λ_ _=>False):=by
 obtain⟨i,zv,hut,hi,hzz,hsz,hby,hzs,hk0⟩:=appInfo_spec hA.h;obtain⟨e',_,hu',_⟩:=slSize_spec hX.h;have hsv0:=hy0 _ _ _ (hv.get Yl hs hg1);obtain⟨hsv,hold⟩:a.eval s=v/\Rel I w (.sl k els) v:=by
  generalize a.eval s=u at hsv0;cases hsv0 with
  | as _ _ hx=>exact⟨rfl,hx⟩
 have hzr:=hy _ _ _ (hv.get Yl hz hg2);obtain⟨us,r1,r2⟩:=src_of (P:=P) (tx:=tx) hu' hzr h1;rw[<-hsz] at r2;obtain⟨n,xs,hrow,hni⟩:=hh.ok _ (hu v).mem
 suffices hmain:∃v' I' w',(Builtin.append_ #[t,tx] o.type #[v,a.eval z]).run P w= .ok v' w'/\WOk B I' w'/\Ext B I w I' w'/\HeapOk B I' w' (H' v')/\Rel I' w' (.sl k (els++news)) v' by
  obtain⟨v',I',w',e1,e2,e3,e4,e5⟩:=hmain;exact Runs.of_value (R:=λx w'=>∃I',WOk B I' w'/\Ext B I w I' w'/\HeapOk B I' w' (H' x)/\Rel I' w' (.as (.sl k (els++news)) x) x) (E:=λ_ _=>False) Yk (run_appendOp h a w (by rw[hsv];exact e1)) ⟨I',e2,e3,e4,.as _ _ e5⟩
 have hnl:=hzr.elsLen;have hol:=hold.elsLen;by_cases hn:news.length=0
 ·have hel:news= []:=List.eq_nil_of_length_eq_zero hn;subst hel;have hus:us= []:=by cases r1;rfl
  subst hus;obtain⟨ad,m,cp,hvv,hle⟩:∃ad m cp,v= .slice ad m cp/\m<=cp:=by
   rcases hrow.2 with⟨rfl,_⟩ | ⟨g,cap,cur,rfl,_,_,hc,_⟩
   ·exact⟨_,_,_,rfl,Nat.le_refl _⟩
   ·exact⟨_,_,_,rfl,hc⟩
  have hr:=run_append_nothing (P:=P) w t tx o.type e i hut hi ad m cp hle (a.eval z) r2;rw[<-hvv] at hr;exact⟨v,I,w,hr,hw,Ext.refl _ _ _,hh.upd (hu v) ⟨λ_ _ x=>x,λ_ _ _=>rfl⟩ (λ_ _ _=>rfl) (λ_ _ x=>.inl x) ⟨n,xs,hrow,hni⟩ (λ_ hb=>.inl hb),by simpa using hold⟩
 have grown:∀(ad:Option Addr) (m old:Nat) (olds:List Value),m=els.length->RelL I w els.flatten olds->(Builtin.firstCells i.size m (.slice ad m old)).run P w.drew= .ok olds.toArray w.drew->old<m+news.length->v= .slice ad m old->
   ∃v' I' w',(Builtin.append_ #[t,tx] o.type #[v,a.eval z]).run P w= .ok v' w'/\WOk B I' w'/\Ext B I w I' w'/\HeapOk B I' w' (H' v')/\Rel I' w' (.sl k (els++news)) v':=by
  intro ad m old olds hm hrel hfc hlt hveq;subst hm;have hnc:Builtin.nextslicecap (els.length+news.length) old*i.bytes<=281474976710656:=growslice_fits hlt (by rw[hby];exact hb);have hr:=run_append_grow_src (P:=P) w t tx o.type e i zv hut hi hzz ad els.length old olds hfc (a.eval z) news.length us r2 hlt Yb hnc;rw[<-hveq] at hr;generalize hG:grownCap w (els.length+news.length) old e=G at hr;have hge:els.length+news.length<=G:=by rw[<-hG];exact grownCap_ge w _ old e
  have hcm:G<=maxLen:=by rw[<-hG];exact grownCap_le_maxLen w _ old e Yy
  generalize hcur:(olds++us).toArray++Builtin.zeroCells zv.cells (G - (els.length+news.length))=cur at hr;have hlo:olds.length=els.length*k:=by rw[hrel.length,flatten_len hol]
  have hlu:us.length=news.length*k:=by rw[r1.length,flatten_len hnl]
  have hcs:cur.size=G*k:=by
   rw[<-hcur];simp only[Array.size_append,List.size_toArray,List.length_append,size_zeroCells,hzs,hlo,hlu, <-Nat.add_mul];congr 1;omega
  have hxlen:(olds++us).length=(els.length+news.length)*k:=by rw[List.length_append,hlo,hlu,Nat.add_mul]
  have htk:cur.toList.take ((els.length+news.length)*k)=olds++us:=by
   rw[<-hcur, <-hxlen,Array.toList_append];exact List.take_left
  have hwd:=hw.drew
  let I':Imm:=λb o=>I b o\/(b=w.heap.size/\o<(els.length+news.length)*k)
  have hkk:Keeps I w I' (w.drew.alloc (.cells cur e)):=⟨λ_ _ x=>.inl x,λb o x=>(keeps_alloc hwd _).cell b o x⟩;have hnew:(w.drew.alloc (.cells cur e)).heap[w.heap.size]? =some (.cells cur e (0,0)):=heap_alloc_new w.drew _;refine⟨.slice (some ⟨w.heap.size,0,none⟩) (els.length+news.length) G,I',_,hr,⟨(hwd.alloc _).base,λb o hx=>?_⟩,⟨hkk.imm,hkk.cell,(ext_drew.trans (ext_alloc hwd (.cells cur e))).below⟩,?_,?_⟩
  ·rcases hx with hx | ⟨rfl,hx⟩
   ·exact (hwd.alloc _).there b o hx
   ·have:o<cur.size:=by rw[hcs];exact Nat.lt_of_lt_of_le hx (Nat.mul_le_mul_right k hge)
    exact⟨cur[o],by rw[cell_of_blk hnew];exact Array.getElem?_eq_getElem this⟩
  ·refine hh.upd (hu _) hkk (λb hlt _=>Below.heap_alloc w.drew _ b hlt) (λb o hx=>hx.elim .inl (λhx=>.inr (.inr (by rw[hx.1];exact Nat.le_refl _)))) ?_ (λb hb=>.inr ?_)
   ·refine⟨els.length+news.length,olds++us,⟨hxlen,.inr ⟨w.heap.size,G,cur,rfl,hw.base,hnew,hge,hcm,hcs,htk⟩⟩,λg hg o ho hI=>?_⟩;simp[Value.ownBlock] at hg;subst hg;rcases hI with hI | ⟨_,hI⟩
    ·exact absurd (hw.lt hI) (Nat.lt_irrefl _)
    ·omega
   ·simp[Ent.foot,Value.ownBlock] at hb;omega
  ·refine .sl _ _ _ _ _ _ Yn hge hcm (els_of_cells _ _ (λx hx=>(List.mem_append.1 hx).elim (hol x) (hnl x)) ?_);rw[List.flatten_append];refine cells_of hnew _ (olds++us) 0 ((hrel.append r1).keep hkk) (λj u hu=>?_) (λj hj=>.inr ⟨rfl,?_⟩)
   ·rw[<-htk,List.getElem?_take] at hu;split at hu
    ·simpa using hu
    ·cases hu
   ·rw[<-List.flatten_append,flatten_len (λx hx=>(List.mem_append.1 hx).elim (hol x) (hnl x)),List.length_append] at hj;omega
 rcases hrow.2 with⟨hv0,hn0⟩ | ⟨g,cap,cur,hv1,hBg,hg,hnc,hcm,hcs,htake⟩
 ·-- from nil
  subst hv0;have hel:els= []:=by
   cases hold with
   | sl0=>rfl
  subst hel;exact grown none 0 0 [] rfl .nil (by simp[Builtin.firstCells]) YB rfl
 ·subst hv1;have hnels:n=els.length:=by cases hold with
   | sl0=>rfl
   | sl _ _ _ _ _ _ hl _ _ _=>exact hl.symm
  subst hnels;have hcells:Els I w k g 0 els:=by cases hold with
   | sl0=>exact .nil _ _ _
   | sl _ _ _ _ _ _ _ _ _ he=>exact he
  obtain⟨olds,q1,q2,q3⟩:=hcells.values;have hcl:∀j u,olds[j]? =some u->cur[j]? =some u:=λj u hu=>by
   have:=q3 j u hu;have e1:(⟨g,0,none⟩:Addr).add j=⟨g,j,none⟩:=by unfold Addr.add;split <;> simp_all
   rw[e1,cell_of_blk hg] at this;exact this
  have holds:olds=xs:=by
   rw[<-htake];apply List.ext_getElem?;intro j;rw[List.getElem?_take];by_cases hj:j<els.length*k
   ·rw[if_pos hj];have hlt:j<olds.length:=by omega
    rw[List.getElem?_eq_getElem hlt];have:=hcl j _ (List.getElem?_eq_getElem hlt);simpa using this.symm
   ·rw[if_neg hj,List.getElem?_eq_none Yb]
  by_cases hroom:els.length+news.length<=cap
  ·-- in place
   have hfit:els.length*i.size+us.length<=cur.size:=by rw[hcs,r2.newsLen,hsz, <-Nat.add_mul];exact Nat.mul_le_mul_right _ hroom
   have hlu:us.length=news.length*k:=by rw[r1.length,flatten_len hnl]
   have hst:=run_storeCells_at P g (els.length*i.size) e us 0 cur w hg (by simpa using hfit) r2.one;simp only[Nat.add_zero] at hst;have hr:(Builtin.append_ #[t,tx] o.type #[.slice (some ⟨g,0,none⟩) els.length cap,a.eval z]).run P w= .ok (.slice (some ⟨g,0,none⟩) (els.length+news.length) cap) (w.setRow g (cur.toList.take (els.length*i.size)++us++cur.toList.drop (els.length*i.size+us.length)).toArray):=by
    rcases r2.kind with⟨e'',hk⟩ | hk <;> simp[Builtin.append_,run_underlying hut,run_underlying hk,sizeOf,typeInfo,hi,r2.len,hroom,r2.cells,Addr.add_lit,hst]
   rw[hsz] at hr;generalize hcur':(cur.toList.take (els.length*k)++us++cur.toList.drop (els.length*k+us.length)).toArray=cur' at hr;have hblk:(w.setRow g cur').heap[g]? =some (.cells cur' e (0,0)):=setRow_heap w g cur cur' e (0,0) hg
   let I':Imm:=λb o=>I b o\/(b=g/\o<(els.length+news.length)*k)
   have hcs':cur'.size=cap*k:=by
    rw[<-hcur'];simp only[List.size_toArray,List.length_append,List.length_take,List.length_drop,Array.length_toList];rw[hsz] at hfit;omega
   have htk':cur'.toList.take ((els.length+news.length)*k)=xs++us:=by
    rw[<-hcur',htake];have:(els.length+news.length)*k=(xs++us).length:=by rw[List.length_append,hrow.1,hlu,Nat.add_mul]
    rw[this];exact List.take_left
   have hold':∀j,j<els.length*k->cur'[j]? =cur[j]? :=λj hj=>by
    rw[<-hcur'];have h0:j<cur.size:=by rw[hcs];exact Nat.lt_of_lt_of_le hj (Nat.mul_le_mul_right k hnc)
    simp only[List.getElem?_toArray];rw[List.append_assoc,List.getElem?_append_left YB,List.getElem?_take,if_pos hj];simp
   have hkk:Keeps I w I' (w.setRow g cur'):=⟨λ_ _ x=>.inl x,λb o x=>by
    by_cases hb:b=g
    ·subst hb;have ho:o<els.length*k:=Nat.lt_of_not_le λhle=>hni b rfl o hle x;rw[cell_of_blk hblk,cell_of_blk hg];exact hold' o ho
    ·exact World.cell?_of_block (a:=⟨b,o,none⟩) (setRow_other w g b cur' hb)⟩
   refine⟨_,I',_,hr,⟨Yax,λb o hx=>?_⟩,⟨hkk.imm,hkk.cell,⟨rfl,rfl,rfl,Yn,λj hj=>setRow_other w g j cur' Yb⟩⟩,?_,?_⟩
   ·rcases hx with hx | ⟨rfl,hx⟩
    ·rw[hkk.cell b o hx];exact hw.there b o hx
    ·have:o<cur'.size:=by rw[hcs'];exact Nat.lt_of_lt_of_le hx (Nat.mul_le_mul_right k hroom)
     exact⟨cur'[o],by rw[cell_of_blk hblk];exact Array.getElem?_eq_getElem this⟩
   ·refine hh.upd (hu _) hkk (λb hlt hne=>setRow_other w g b cur' (λe=>hne (by subst e;rfl))) (λb o hx=>hx.elim .inl (λhx=>.inr (.inl (by rw[hx.1];rfl)))) ?_ (λb hb=>.inl hb);refine⟨els.length+news.length,xs++us,⟨by rw[List.length_append,hrow.1,hlu,Nat.add_mul],.inr ⟨g,cap,cur',rfl,hBg,hblk,hroom,hcm,hcs',htk'⟩⟩,λg' hg' o ho hI=>?_⟩;simp[Value.ownBlock] at hg';subst hg';rcases hI with hI | ⟨_,hI⟩
    ·exact hni g rfl o (Nat.le_trans (Nat.mul_le_mul_right k Yb) ho) hI
    ·omega
   ·refine .sl _ _ _ _ _ _ Yn hroom hcm (els_of_cells _ _ (λx hx=>(List.mem_append.1 hx).elim (hol x) (hnl x)) ?_);rw[List.flatten_append];rw[holds] at q1;refine cells_of hblk _ (xs++us) 0 ((q1.append r1).keep hkk) (λj u hu=>?_) (λj hj=>.inr ⟨rfl,?_⟩)
    ·rw[<-htk',List.getElem?_take] at hu;split at hu
     ·simpa using hu
     ·cases hu
    ·rw[<-List.flatten_append,flatten_len (λx hx=>(List.mem_append.1 hx).elim (hol x) (hnl x)),List.length_append] at hj;omega
  ·refine grown (some ⟨g,0,none⟩) els.length cap olds rfl q1 ?_ Yb rfl;rw[hsz];exact run_firstCells_some w.drew k els.length ⟨g,0,none⟩ els.length cap olds q2 (by simpa using q3)
theorem KOk.own{y0:AV}{s z:Operand}{t tx e k by_ k':Nat}{els news:List (List AV)}{v:Value}{y:AV}{g1 g2:Bool}{H':Value->List Ent}{x:Value->AV}[hA:HasApp P t (e,k,by_)][hX:HasSl P tx k']
  (h:o.op= .call {callee:=.builtin .append,args:=#[s,z],argTypes:=#[t,tx]}) (hs:aev ρ s=some (g1,y0)) (hg1:g1=true) (hy0:AVle y0 (.as (.sl k els) v)) (hz:aev ρ z=some (g2,y)) (hg2:g2=true) (hy:AVle y (.sl k news))
  (h1:news.all allOne=true) (hb:(els.length+news.length)*by_<=140737488355328) (hb':els.length+news.length<=9223372036854775807) (hu:∀v',Upd H (.own e k v) (.own e k v') (H' v')) (hx:∀v',x v'= .as (.sl k (els++news)) v'):KOk X P H H' x ρ o:=λB I w r a hw hh ho=>
 (appendOwn_runs h hs hg1 hy0 hz hg2 hy h1 hu hb hb' hw hh ho).mono (λv w' ⟨I',a1,a2,a3,a4⟩=>⟨I',a1,a2,a3,by rw[hx];exact a4⟩) (λ_ _ h=>h.elim)
theorem rowOwn_runs{t e by_:Nat}{n k:Nat}{ps:Array (Nat×Operand)}{zs:List Value}{ys:List (Bool×AV)}{els:List (List AV)}[hA:HasApp P t (e,k,by_)][hR:HasRow P t (k,zs)](h:o.op= .buildSlice t n ps)
  (hy:aevs ρ (ps.toList.map (·.2))=some ys) (hg:ys.all (·.1)=true) (hels:(partsOf ps.toList ys).map (λx=>bcells x.2)=els) (hlen:Nat.beq els.length n=true) (hk:els.all (λe=>Nat.beq e.length k)=true)
  (hsm:Nat.ble (n*k) 16777216=true) (hpos:Nat.blt 0 (n*k)=true)
  (hf:bfill (λi=>some (i*k,k)) ((rowZero n k zs).map .val) (partsOf ps.toList ys)=some els.flatten)
  {B:Nat} {I:Imm} {w:World} {r:Option Nat} {a:Act} (hw:WOk B I w) (hh:HeapOk B I w H) (ho:OpsOk I w ρ a o):
  Runs P r o a w (λv w'=>∃I',WOk B I' w'/\Ext B I w I' w'/\HeapOk B I' w' (.own e k v::H)/\Rel I' w' (.as (.sl k els) v) v) (λ_ _=>False):=by
 obtain⟨e1,e2⟩:=parts_rel ho ps Yh hy hg;obtain⟨us,h1,h2⟩:=bfill_rel _ _ ((rowZero n k zs).map .val) (rowZero n k zs).toArray els.flatten (by simpa using relL_val _) e1 e2 hf;have hsm:=Nat.le_of_ble_eq_true hsm;have hpos:0<n*k:=Nat.le_of_ble_eq_true hpos;obtain⟨i,z,hu,hi,hz,hki,hby,hzs,hk0⟩:=appInfo_spec hA.h;have hrun:=buildSlice_run' hu hR.h (ps.map λ(i,x)=>(i,a.eval x)) us hsm hpos h1 w;obtain⟨a1,a2,a3,a4⟩:=Imm.add_new hw e us;have hn':=Nat.eq_of_beq_eq_true hlen;have hnk:n<=n*k:=by
  rcases Nat.eq_zero_or_pos k with rfl | hk'
  ·simp at hpos
  ·exact Nat.le_mul_of_pos_right n hk'
 have hkl:∀x∈els,x.length=k:=λx hx=>Nat.eq_of_beq_eq_true (List.all_eq_true.1 hk x hx);have hus:us.size=n*k:=by
  have:=h2.length;rw[flatten_len hkl,hn'] at this;simpa using this
 have hrow:(w.alloc (.cells us e)).ownsRow B e k (.slice (some ⟨w.heap.size,0,none⟩) n n) n us.toList:=⟨by simpa using hus,.inr ⟨w.heap.size,n,us,rfl,hw.base,heap_alloc_new w _,Nat.le_refl _,Yy,hus,by rw[<-hus, <-Array.length_toList];exact List.take_length⟩⟩;have h3:=a3 _ hh;refine Runs.of_value Yk (v:=.slice (some ⟨w.heap.size,0,none⟩) n n) (w':=w.alloc (.cells us e)) (by simp[execOp,h,hrun]) ⟨_,a1,a2,⟨λf hf=>?_,List.pairwise_cons.2 ⟨λf hf b hb e=>?_,h3.apart⟩⟩,?_⟩
 ·rcases List.mem_cons.1 hf with rfl | hf
  ·refine⟨n,us.toList,hrow,λg hg o hgo ho=>?_⟩;simp[Value.ownBlock] at hg;subst hg;rcases ho with ho | ⟨_,ho⟩
   ·exact absurd (hw.lt ho) (Nat.lt_irrefl _)
   ·omega
  ·exact h3.ok f hf
 ·simp[Ent.foot,Value.ownBlock] at hb;subst hb;exact absurd (Ent.foot_lt (hh.ok f hf) e).2 (Nat.lt_irrefl _)
 ·refine .as _ _ (.sl _ _ _ _ _ _ hn' (Nat.le_refl _) Yy ?_);exact els_of_cells els 0 hkl (a4 _ h2)
theorem KOk.rowOwn{t e by_:Nat}{n k:Nat}{ps:Array (Nat×Operand)}{zs:List Value}{ys:List (Bool×AV)}{els:List (List AV)}{H':Value->List Ent}{x:Value->AV}[hA:HasApp P t (e,k,by_)][hR:HasRow P t (k,zs)](h:o.op= .buildSlice t n ps)
  (hy:aevs ρ (ps.toList.map (·.2))=some ys) (hg:ys.all (·.1)=true) (hels:(partsOf ps.toList ys).map (λx=>bcells x.2)=els) (hlen:Nat.beq els.length n=true) (hk:els.all (λe=>Nat.beq e.length k)=true)
  (hsm:Nat.ble (n*k) 16777216=true) (hpos:Nat.blt 0 (n*k)=true)
  (hf:bfill (λi=>some (i*k,k)) ((rowZero n k zs).map .val) (partsOf ps.toList ys)=some els.flatten) (hu:∀v',H' v'= .own e k v'::H) (hx:∀v',x v'= .as (.sl k els) v'):KOk X P H H' x ρ o:=λB I w r a hw hh ho=>
 (rowOwn_runs h hy hg hels hlen hk hsm hpos hf hw hh ho).mono (λv w' ⟨I',a1,a2,a3,a4⟩=>⟨I',a1,a2,by rw[hu];exact a3,by rw[hx];exact a4⟩) (λ_ _ h=>h.elim)
theorem POp.leC{env:List (Nat×AV)}(d:Nat){u u' z:AV}(hd:envGet env d=some u)(hle:AVle u u')(h:POp P H (envGet ((d,u')::env)) o z):POp P H (envGet env) o z:=λB I w r a Hc hw hh hs ho=>
 h B I w r a Hc hw hh hs (λx hx y hy=>by
  cases x with
  | tmp t=>
   simp only[aeval] at hy;rw[envGet_cons] at hy;split at hy
   ·rename_i e;cases hy;subst e;exact hle _ _ _ (ho _ hx _ hd)
   ·exact ho _ hx _ hy
  | _=>exact ho _ hx y hy)
end
theorem Upd.same'{H H':List Ent}{e e':Ent}(h:Upd H e e' H'):e=e'->H'=H:=by
 induction h with
 | head e e' H=>intro he;rw[he]
 | tail f a b H H' _ ih=>intro he;rw[ih he]
theorem Upd.same{H H':List Ent}{e:Ent}(h:Upd H e e H'):H'=H:=h.same' rfl
section
variable{c:Ctx}{r:Option Nat}{P:Program}{ops:Array Oper}{l rest:List Oper}{env:List (Nat×AV)}{H:List Ent}{Q:Exit->Act->World->Prop}{d:Nat}{o:Oper}
theorem OL.appendRowAny{s z:Operand}{t e k by_ n:Nat}{cs:List AV}(news:List (List AV)){v:Value}{y:AV}{g1 g2:Bool}{H':Value->List Ent}[hA:HasApp P t (e,k,by_)](hgd:o.guard=none)(hd:o.dst=some d)(hn:Nat.blt d c.n=true)
  (h:o.op= .call {callee:=.builtin .append,args:=#[s,z],argTypes:=#[t,t]}) (hs:aev (envGet env) s=some (g1,.val v)) (hg1:g1=true) (hz:aev (envGet env) z=some (g2,y)) (hg2:g2=true) (hy:AVle y (.sl k news))
  (h1:news.all allOne=true) (hu:∀v',Upd H (.row e k v n cs) (.row e k v' (n+news.length) (cs++news.flatten)) (H' v')) (hb:(n+news.length)*by_<=140737488355328) (hb':n+news.length<=9223372036854775807)
  (next:∀v',OL c r P ops rest ⟨(d,.val v')::env,H' v'⟩ Q):OL c r P ops (o::rest) ⟨env,H⟩ Q:=by
 cases news with
 | cons a r=>exact OL.appendRow hgd hd hn h hs hg1 hz hg2 hy Yn h1 hu hb hb' next
 | nil=>
  intro a w sat;refine wpListIn_plain hgd λK hK=>?_;obtain⟨I,hw,he,hh,hv⟩:=sat.mem;obtain⟨i,zv,hut,hi,hzz,hsz,hby,hzs,hk0⟩:=appInfo_spec hA.h;have hsv:=rel_val ((hv.ops o).get Yl hs hg1);have hzr:=hy _ _ _ ((hv.ops o).get Yl hz hg2);obtain⟨us,r1,r2⟩:=src_of (P:=P) (tx:=t) hut hzr h1;have hus:us= []:=by cases r1;rfl
  subst hus;rw[<-hsz] at r2;obtain⟨xs,hrow,_,_⟩:=hh.ok _ (hu v).mem;obtain⟨ad,m,cp,hvv,hle⟩:∃ad m cp,v= .slice ad m cp/\m<=cp:=by
   rcases hrow.2 with⟨rfl,_⟩ | ⟨g,cap,cur,rfl,_,_,hc,_⟩
   ·exact⟨_,_,_,rfl,Nat.le_refl _⟩
   ·exact⟨_,_,_,rfl,hc⟩
  have hr:=run_append_nothing (P:=P) w t t o.type e i hut hi ad m cp hle (a.eval z) r2;rw[<-hvv, <-hsv] at hr;have hH:H' v=H:=by
   have:=hu v;simp only[List.length_nil,Nat.add_zero,List.flatten_nil,List.append_nil] at this;exact this.same
  refine Runs.of_value (R:=λx w'=>x=a.eval s/\w'=w) (E:=λ_ _=>False) Yk (run_appendOp h a w hr) ⟨rfl,rfl⟩ K Q ?_ (λ_ _ h=>h.elim);rintro x w' ⟨rfl,rfl⟩;refine hK _ _ (next v _ _ ⟨Yar,Yag,I,hw,he,by rw[hH];exact hh,?_⟩);rw[hsv];have:=hv.put (dst:=some d) (x:=.val v) (v:=v) (by rw[sat.size];exact hn) (.val _);rw[hd];exact this
end
section
variable{c:Ctx}{r:Option Nat}{P:Program}{ops:Array Oper}{l rest:List Oper}{o:Oper}{st:St}{Q:Exit->Act->World->Prop}{x:AV}
end
section
variable{c:Ctx}{r:Option Nat}{P:Program}{ops:Array Oper}{rest:List Oper}{o:Oper}{env:List (Nat×AV)}{H:List Ent}{Q:Exit->Act->World->Prop}{d:Nat}
end
section
variable{c:Ctx}{r:Option Nat}{P:Program}{ops:Array Oper}{rest L:List Oper}{o:Oper}{env:List (Nat×AV)}{H:List Ent}{Q:Exit->Act->World->Prop}{x:AV}{d n j k:Nat}{want g:Bool}{K:List (Nat×AV)->Prop}
end
structure Hid(p:Prop):Prop where
 out:p
theorem S1{goal next:Prop}(k:next)(h:Hid next->goal:=by
  intro k
  first
   | with_reducible refine Done.seq ?_
   | with_reducible refine CW.seq ?_
   | with_reducible refine CW.region ?_
   | with_reducible refine OL.nil ?_
   | with_reducible refine CW.skip ?_
   | with_reducible refine CW.ret ?_
   | with_reducible refine CW.block ?_
   | with_reducible refine CW.exit ?_
   | with_reducible refine Done.thenRet ?_
   | with_reducible refine Done.thenExit ?_
   | with_reducible refine Done.blkNormal ?_
   | with_reducible refine Done.blkRet ?_
   | with_reducible refine Done.blkExit ?_
   | refine Done.blkOther rfl ?_
  exact k.out):goal:=h ⟨k⟩
theorem S2{goal next:Prop}(k:next)(h:Hid next->goal:=by
  intro k
  iterate 2 refine S1 ?_
  exact k.out):goal:=h ⟨k⟩
theorem S3{goal next:Prop}(k:next)(h:Hid next->goal:=by
  intro k
  iterate 3 refine S1 ?_
  exact k.out):goal:=h ⟨k⟩
theorem S4{goal next:Prop}(k:next)(h:Hid next->goal:=by
  intro k
  iterate 4 refine S1 ?_
  exact k.out):goal:=h ⟨k⟩
theorem S5{goal next:Prop}(k:next)(h:Hid next->goal:=by
  intro k
  iterate 5 refine S1 ?_
  exact k.out):goal:=h ⟨k⟩
theorem S6{goal next:Prop}(k:next)(h:Hid next->goal:=by
  intro k
  iterate 6 refine S1 ?_
  exact k.out):goal:=h ⟨k⟩
theorem Sto{goal next:Prop}(k:next)(h:Hid next->goal:=by
  intro k;apply OL.stoC rfl rfl rfl rfl rfl rfl rfl rfl rfl rfl;(case hu=>repeat (first | exact Upd.head _ _ _ | apply Upd.tail));(case hfit=>rfl);(case hds=>rfl);exact k.out):goal:=h ⟨k⟩
theorem gd{G p:Prop}(hg:G)(h:G->p:=by
  intro hg
  first | rfl | exact hg | exact (Bool.and_eq_true_iff.1 hg).1 | exact (Bool.and_eq_true_iff.1 (Bool.and_eq_true_iff.1 hg).1).1 | simp_all):p:=h hg
theorem nm{p q:Prop}(h:p)(s:p->q:=by
  intro h
  first
   | (simp only[decide_eq_true_eq,decide_eq_false_iff_not,beq_iff_eq,bne_iff_ne,ne_eq,Int.not_lt,Int.not_le,beq_eq_false_iff_ne,gt_iff_lt,ge_iff_le,Bool.not_eq_true,Bool.not_eq_false,Bool.not_eq_false',bne_eq_false_iff_eq] at h;exact h)
   | exact h):q:=s h
section
variable{c:Ctx}{r:Option Nat}{P:Program}{Q:Exit->Act->World->Prop}{st:St}
theorem lj(J:Nat->Go.Eng.St->Prop){p:Code}{m:Nat}{st':Go.Eng.St}(hJ:J m st')
  (round:∀m st',J m st'->CW c r P p st' (Exit.then (λa w=>∃m' st'',m'<m/\J m' st''/\Sat c st'' a w) Q))
  (he:envLe st'.env st.env:=by repeat (first | exact trivial | refine⟨rfl,?_⟩))
  (hH:st'.H.Sublist st.H:=by repeat (first | exact List.Sublist.refl _ | refine List.Sublist.cons _ ?_)):CW c r P (.loop p) st Q:=
 CW.loopJ J ⟨m,st',hJ,he,hH⟩ round
theorem ag{J:Nat->Go.Eng.St->Prop}{m m':Nat}{st':Go.Eng.St}(hJ:J m' st')(hm:m'<m:=by omega)(he:envLe st'.env st.env:=by repeat (first | exact trivial | refine⟨rfl,?_⟩))
  (hH:st'.H.Sublist st.H:=by repeat (first | exact List.Sublist.refl _ | refine List.Sublist.cons _ ?_)):Done c st .normal (Exit.then (λa w=>∃m' st'',m'<m/\J m' st''/\Sat c st'' a w) Q):=
 Done.againJ hJ hm he hH
theorem r1{fn:Func}{B:Nat}{I0:Imm}{w0:World}{n:Nat}{Φ:AV->List Ent->Prop}{E:AV->List Ent->Prop}(t:Nat)(H':List Ent){y:AV}(hΦ:Φ (tupOf [y]) H')(hr:fn.results= #[.tmp t]:=by exact rfl)(hy:ResOk P st [.tmp t] [y]:=by exact .tmp rfl .nil)
  (hH:H'.Sublist st.H:=by repeat (first | exact List.Sublist.refl _ | refine List.Sublist.cons _ ?_)):Done ⟨B,I0,w0,n,[]⟩ st .ret (bodyPost P fn (RetP B I0 w0 Φ E)):=
 Done.retR (rs:=[.tmp t]) (H':=H') hr hy (AVleL.refl _) hH hΦ
end
theorem bfill_row{k:Nat}:∀(parts:List (Nat×AV)) (i0:Nat) (cs:List AV),parts.map (·.1)=(List.range parts.length).map (i0+ ·)->(∀p∈parts,bOk p.2=true/\(bcells p.2).length=k)->(i0+parts.length)*k<=cs.length->
  bfill (λi=>some (i*k,k)) cs parts=some (cs.take (i0*k)++(parts.map λp=>bcells p.2).flatten++cs.drop ((i0+parts.length)*k))
 | [],i0,cs,_,_,_=>by simp[bfill]
 | (i,x)::r,i0,cs,hi,hp,hl=>by
  have hx:=hp (i,x) (.head _);rw[List.length_cons,List.range_succ_eq_map,List.map_cons,List.map_cons,List.cons.injEq,List.map_map] at hi;obtain⟨e,hi⟩:=hi;simp only[Nat.add_zero] at e;subst e;rw[List.length_cons] at hl;have hm:(i+1)*k<=cs.length:=Nat.le_trans (Nat.mul_le_mul_right k Yb) hl;have e1:(i+1)*k=i*k+k:=Nat.succ_mul i k;have hlen:(cs.take (i*k)++bcells x++cs.drop (i*k+k)).length=cs.length:=by
   simp only[List.length_append,List.length_take,List.length_drop,hx.2];omega
  rw[bfill];simp only[hx.1,hx.2,Nat.beq_refl,Bool.true_and,Nat.ble_eq_true_of_le (e1▸hm),cond_true];rw[bfill_row r (i+1) _ (by rw[hi];exact List.map_congr_left λa _=>by simp;omega) (λp h=>hp p (.tail _ h)) (by rw[hlen];rw[show i+1+r.length=i+(r.length+1) by omega];exact hl)];rw[show i+1+r.length=i+(r.length+1) by omega,e1];congr 1;have t1:(cs.take (i*k)++bcells x++cs.drop (i*k+k)).take (i*k+k)=cs.take (i*k)++bcells x:=by
   rw[List.take_append_of_le_length Yac,List.take_of_length_le Yac]
  have t2:(cs.take (i*k)++bcells x++cs.drop (i*k+k)).drop ((i+(r.length+1))*k)=cs.drop ((i+(r.length+1))*k):=by
   have hle:i*k+k<=(i+(r.length+1))*k:=by rw[<-e1];exact Nat.mul_le_mul_right k Yb
   rw[List.drop_append,List.drop_of_length_le Yac,List.nil_append,List.drop_drop];congr 1;simp only[List.length_append,List.length_take,hx.2];omega
  rw[t1,t2];simp
section
variable{P:Program}{H:List Ent}{ρ:Nat->Option AV}{o:Oper}
theorem POp.rowK{t:TypeId}{n k:Nat}{ps:Array (Nat×Operand)}{zs:List Value}(ys:List (Bool×AV))[hR:HasRow P t (k,zs)](h:o.op= .buildSlice t n ps)
  (hy:aevs ρ (ps.toList.map (·.2))=some ys) (hg:ys.all (·.1)=true) (hidx:ps.toList.map (·.1)=List.range n) (hb:ys.all (λy=>bOk y.2 && Nat.beq (bcells y.2).length k)=true) (hlen:Nat.beq ys.length n=true)
  (hsm:Nat.ble (n*k) 16777216=true) (hpos:Nat.blt 0 (n*k)=true):POp P H ρ o (.sl k (ys.map λy=>bcells y.2)):=by
 have hn:=Nat.eq_of_beq_eq_true hlen;simp only[List.all_eq_true,Bool.and_eq_true] at hb;have hpl:partsOf ps.toList ys=(List.range n).zip (ys.map (·.2)):=by rw[partsOf,hidx]
 have hzl:((List.range n).zip (ys.map (·.2))).map (·.2)=ys.map (·.2):=List.map_snd_zip (by rw[List.length_range,List.length_map,hn];exact Nat.le_refl _);have hzf:((List.range n).zip (ys.map (·.2))).map (·.1)=List.range n:=List.map_fst_zip (by rw[List.length_range,List.length_map,hn];exact Nat.le_refl _);have hzn:((List.range n).zip (ys.map (·.2))).length=n:=by rw[List.length_zip,List.length_range,List.length_map,hn,Nat.min_self]
 have hmm:(ys.map (·.2)).map bcells=ys.map λy=>bcells y.2:=by rw[List.map_map];rfl
 have hall:(ys.map λy=>bcells y.2).all (λe=>Nat.beq e.length k)=true:=by
  rw[List.all_eq_true];intro e he;obtain⟨y,hy,rfl⟩:=List.mem_map.1 he;exact (hb y hy).2
 refine POp.row (hR:=hR) h hy hg (els:=ys.map λy=>bcells y.2) ?_ (by rw[List.length_map];exact hlen) hall hsm hpos ?_
 ·rw[hpl,show (λx:Nat×AV=>bcells x.2)=bcells∘(·.2) from rfl, <-List.map_map,hzl,hmm]
 ·rw[hpl,bfill_row ((List.range n).zip (ys.map (·.2))) 0 _ (by rw[hzf,hzn];simp) ?_ ?_]
  ·rw[hzn];have hzlen:((rowZero n k zs).map AV.val).length=n*k:=by simp[rowZero]
   rw[show (0+n)*k=n*k by rw[Nat.zero_add],List.drop_of_length_le (by rw[hzlen];exact Nat.le_refl _)];simp only[Nat.zero_mul,List.take_zero,List.nil_append,List.append_nil];rw[show (λp:Nat×AV=>bcells p.2)=bcells∘(·.2) from rfl, <-List.map_map,hzl,hmm]
  ·intro p hp;obtain⟨y,hy,e⟩:=List.mem_map.1 (List.of_mem_zip hp).2;have:=hb y hy;rw[<-e];exact⟨this.1,Nat.eq_of_beq_eq_true this.2⟩
  ·rw[hzn];simp[rowZero]
end
def eqField(P:Program)(p:Field×Nat):Bool:=p.1.offset==p.2 && p.1.name != "_" && P.plainKey p.1.type && (match P.underlying p.1.type with | some (.int _)=>true | _=>false)
def eqInts(P:Program)(t:TypeId)(n:Nat):Bool:=(match P.underlying t with | some (.struct fs)=>fs.toList.length==n && fs.toList.zipIdx.all (eqField P) | _=>false) && !P.stoodInHeld t && !P.eqGuardType P.depth t
class HasEq (P:Program) (t:TypeId) (n:outParam Nat):Prop where
 h:eqInts P t n=true
abbrev intsArr(l:List Int):Array Value:=(l.map λn=>Value.int .i64 n).toArray
theorem eqFields_ints{P:Program}{w:World}(d:Nat){as bs:List Int}{n:Nat}(ha:as.length=n)(hb:bs.length=n):∀(fs:List Field) (k:Nat),k+fs.length=n->((fs.zipIdx k).all (eqField P))=true->
  (Op.eqFields (d+1) (intsArr as) (intsArr bs) fs).run P w= .ok (as.drop k==bs.drop k) w
 | [],k,hk,_=>by
  rw[List.length_nil] at hk;rw[List.drop_of_length_le Yb,List.drop_of_length_le Yb];rfl
 | f::fs,k,hk,hf=>by
  rw[List.length_cons] at hk;rw[List.zipIdx_cons,List.all_cons,Bool.and_eq_true] at hf;have h1:=hf.1;simp only[eqField,Bool.and_eq_true,beq_iff_eq,bne_iff_ne,ne_eq] at h1;obtain⟨⟨⟨ho,hn⟩,hp⟩,hu⟩:=h1;obtain⟨k',hu⟩:∃k',P.underlying f.type=some (.int k'):=by
   split at hu
   ·rename_i k' e;exact⟨k',e⟩
   ·cases hu
  have hka:k<as.length:=by omega
  have hkb:k<bs.length:=by omega
  have ga:(intsArr as)[f.offset]? =some (.int .i64 as[k]):=by rw[ho];simp[intsArr,List.getElem?_eq_getElem hka]
  have gb:(intsArr bs)[f.offset]? =some (.int .i64 bs[k]):=by rw[ho];simp[intsArr,List.getElem?_eq_getElem hkb]
  have hab:(as.drop k==bs.drop k)=(as[k]==bs[k] && as.drop (k+1)==bs.drop (k+1)):=by rw[List.drop_eq_getElem_cons hka,List.drop_eq_getElem_cons hkb];rfl
  rw[hab];simp only[Op.eqFields,Sem.run_ite,Sem.run_bind];rw[if_pos hn,Go.run_part_plain (w:=w) hp ga];simp only[Result.andThen_ok];rw[Go.run_part_plain (w:=w) hp gb];simp only[Result.andThen_ok];rw[run_equalIn_int w d f.type .i64 k' as[k] bs[k] hu];simp only[Result.andThen_ok];have ih:=eqFields_ints (P:=P) (w:=w) d ha hb fs (k+1) Yb hf.2;by_cases e:as[k]=bs[k]
  ·have e2:(as[k]==bs[k])=true:=by simpa using e
   rw[e2];simp only[Bool.not_true,Bool.false_eq_true,if_false,Bool.true_and];exact ih
  ·have e2:(as[k]==bs[k])=false:=by simpa using e
   rw[e2];simp only[Bool.not_false,if_true,Sem.run_pure,Bool.false_and]
section
variable{P:Program}{H:List Ent}{ρ:Nat->Option AV}{o:Oper}
theorem aggInts_rel{I:Imm}{w:World}:∀{l:List Int} {vs:List Value},RelL I w (l.map AV.i) vs->vs=l.map λn=>Value.int .i64 n
 | [],_,h=>by cases h;rfl
 | n::r,_,h=>by
  cases h with
  | cons _ v _ vs hv ht=>
   rw[rel_val hv,aggInts_rel ht];rfl
theorem POp.eqI{t t':TypeId}{x y:Operand}{n:Nat}(as bs:List Int){gx gy:Bool}[he:HasEq P t n](h:o.op= .binOp .eql t x y t')(hx:aev ρ x=some (gx,.agg (as.map AV.i)))(hy:aev ρ y=some (gy,.agg (bs.map AV.i)))(hgx:gx=true)(hgy:gy=true)
  (ha:Nat.beq as.length n=true) (hb:Nat.beq bs.length n=true):POp P H ρ o (.b (as==bs)):=by
 have ha:=Nat.eq_of_beq_eq_true ha;have hb:=Nat.eq_of_beq_eq_true hb;have hh:=he.h;simp only[eqInts,Bool.and_eq_true,Bool.not_eq_true'] at hh;obtain⟨⟨h1,h2⟩,h3⟩:=hh;obtain⟨fs,hu⟩:∃fs,P.underlying t=some (.struct fs):=by
  split at h1
  ·rename_i fs e;exact⟨fs,e⟩
  ·cases h1
 rw[hu] at h1;simp only[Bool.and_eq_true,beq_iff_eq] at h1;have hfo:P.fieldsOf t=fs:=by rw[Program.fieldsOf,hu]
 refine .same Yk λI w f ho=>?_;have q1:=ho.get Yh hx hgx;have q2:=ho.get Yh hy hgy;generalize hv:f.eval x=u at q1;generalize hz:f.eval y=z at q2;cases q1 with
 | agg _ vs hl1=>
  cases q2 with
  | agg _ us hl2=>
   have e1:vs=intsArr as:=Array.toList_inj.1 (by rw[aggInts_rel hl1]);have e2:us=intsArr bs:=Array.toList_inj.1 (by rw[aggInts_rel hl2]);subst e1;subst e2;refine⟨.bool (as==bs),?_,.val _⟩;have hrun:=eqFields_ints (P:=P) (w:=w) 9998 ha hb fs.toList 0 Yb h1.2;rw[List.drop_zero,List.drop_zero] at hrun;simp only[execOp,h,hv,hz,Sem.run_bind];rw[run_eqGuard_agg w .eql t x y _ _ h3];simp only[Result.andThen_ok];rw[run_eql_struct,run_equalIn_agg w 9999 t _ _ (by rw[hfo];exact hu) h2,hfo,hrun];rfl
end
section
variable{P:Program}{H:List Ent}{ρ:Nat->Option AV}{o:Oper}
end
section
variable{P:Program}{H:List Ent}{ρ:Nat->Option AV}{o:Oper}
end
section
variable{P:Program}{H:List Ent}{ρ:Nat->Option AV}{o:Oper}{X:PX}
end
theorem Cells.last{I:Imm}{w:World}{x y:AV}(hxy:∀v,Rel I w x v->Rel I w y v):∀(pre:List AV) (b o:Nat),Cells I w b o (pre++[x])->Cells I w b o (pre++[y])
 | [],b,o,h=>by
  cases h with
  | cons _ _ _ c _ hc hI hx ht=>exact .cons _ _ _ _ _ hc hI (hxy _ hx) (.nil _ _)
 | z::pre,b,o,h=>by
  cases h with
  | cons _ _ _ c _ hc hI hx ht=>exact .cons _ _ _ _ _ hc hI hx (Cells.last hxy pre _ _ ht)
section
variable{c:Ctx}{r:Option Nat}{P:Program}{env:List (Nat×AV)}{H:List Ent}{Q:Exit->Act->World->Prop}{d:Nat}
theorem Done.rowBlk{ex:Exit}{t k n:Nat}{v:Value}{cs:List AV}{H':Nat->Nat->List AV->List Ent}(hn:n≠0)(hu:∀b cap more,Upd H (.row t k v n cs) (.blk b t (cs++more)) (H' b cap more))
  (h:∀b cap more,v= .slice (some ⟨b,0,none⟩) n cap->n<=cap->cap<=maxLen->(cs++more).length=cap*k->cs.length=n*k->Done c ⟨env,H' b cap more⟩ ex Q):Done c ⟨env,H⟩ ex Q:=λa w s=>by
 obtain⟨I,hw,he,hh,hv⟩:=s.mem;obtain⟨b,cap,more,e1,e2,e3,e4,e5,e6⟩:=Ent.row_blk hn (hh.ok _ (hu 0 0 []).mem);refine h b cap more e1 e2 e3 e4 e5 a w ⟨s.ds,s.size,I,hw,he,hh.turn (hu b cap more) (λ_=>e6) (λx hx=>?_),hv⟩;subst e1;exact hx
end
section
variable{c:Ctx}{r:Option Nat}{P:Program}{l:List Oper}{Q:Exit->Act->World->Prop}
end
section
variable{P:Program}{L rest:List Oper}{ss:List Nat}{n i d:Nat}{o:Oper}{env:List (Nat×AV)}{K:List (Nat×AV)->Prop}{x:AV}{H:List Ent}{Φ:AV->List Ent->Prop}{de:Nat}
end
section
variable{P:Program}{H:List Ent}{ρ:Nat->Option AV}{o:Oper}
end
section
variable{c:Ctx}{r:Option Nat}{P:Program}{env:List (Nat×AV)}{Q:Exit->Act->World->Prop}
end
section
variable{c:Ctx}{r:Option Nat}{P:Program}{env:List (Nat×AV)}{Q:Exit->Act->World->Prop}
end
section
variable{c:Ctx}{r:Option Nat}{P:Program}{st:St}{Q:Exit->Act->World->Prop}
end
section
variable{r:Option Nat}{P:Program}{st:St}{Q:Exit->Act->World->Prop}{B:Nat}{I0:Imm}{w0:World}{n:Nat}{Hx:List Ent}
end
section
variable{c:Ctx}{r:Option Nat}{P:Program}{st:St}{Q:Exit->Act->World->Prop}
end
section
variable{c:Ctx}{r:Option Nat}{P:Program}{ops:Array Oper}{l L:List Oper}{st:St}{env:List (Nat×AV)}{H:List Ent}{Q:Exit->Act->World->Prop}{n k:Nat}{K:List (Nat×AV)->Prop}
theorem isOL(h:OL c r P ops l st Q):OL c r P ops l st Q:=h
theorem isAD(h:AD P H L n l env K):AD P H L n l env K:=h
theorem isDP(h:DP c r P l Q k st):DP c r P l Q k st:=h
end
def grp:Op->Nat
 | .move .. =>0
 | .assign .. =>0
 | .fieldAddr .. =>1
 | .load .. =>1
 | .binOp .. =>2
 | .call .. =>3
 | .indexAddr .. =>4
 | _=>5
theorem gr(n:Nat){P:Program}{H:List Ent}{ρ:Nat->Option AV}{o:Oper}{x:AV}(_:grp o.op=n)(h:POp P H ρ o x):POp P H ρ o x:=h
theorem po{p:Prop}(h:p:=by
  first
   | exact gr 0 Yaw (by first | exact POp.move rfl rfl rfl | exact POp.assign rfl rfl rfl)
   | exact gr 1 Yaw (by first | exact POp.fa rfl rfl rfl rfl | exact POp.faP rfl rfl rfl rfl | exact POp.ld1 rfl rfl rfl rfl | exact POp.ld1H rfl rfl rfl (hm:=Yv) (hy:=by exact rfl) | exact POp.ldA rfl rfl rfl rfl | exact POp.ldAH rfl rfl rfl (hm:=Yv) (hy:=by exact rfl) (hn:=by exact rfl))
   | exact gr 2 Yaw (by first | exact POp.cmp rfl rfl rfl rfl rfl rfl | exact POp.arith rfl rfl rfl rfl rfl rfl (wrap64 Yb) | exact POp.eqB (op:=.eql) rfl rfl rfl rfl rfl)
   | exact gr 3 Yaw (by first | exact POp.lenM rfl rfl rfl | exact POp.lenA rfl rfl rfl | exact POp.lenV rfl rfl rfl | exact POp.len' rfl rfl rfl)
   | exact gr 4 Yaw (by first | exact POp.ixM rfl rfl rfl rfl rfl Y3 | exact POp.ixI rfl rfl rfl rfl rfl Y3 | exact POp.ia rfl rfl rfl rfl rfl Y3 | exact POp.iaP rfl rfl rfl rfl rfl Y3)
   | exact gr 5 Yaw (by first | exact POp.extract rfl rfl rfl rfl | exact POp.not rfl rfl rfl | exact POp.pick rfl rfl rfl rfl rfl YH YH | exact POp.nilCheck rfl rfl rfl | exact POp.nilCheckP rfl rfl rfl | exact POp.nilCheckF rfl rfl rfl | exact POp.boxI rfl rfl rfl rfl | exact POp.row0 rfl | exact POp.row rfl rfl Yj rfl rfl rfl rfl rfl | exact POp.build' rfl rfl Yj rfl | exact POp.makeFunc rfl rfl rfl Yj Yj)):p:=h
theorem pg{G p:Prop}(hg:G)(h:G->p:=by
  intro hg
  first
   | exact gr 0 Yaw (by first | exact POp.move rfl rfl (gd hg) | exact POp.assign rfl rfl (gd hg))
   | exact gr 1 Yaw (by first | exact POp.fa rfl rfl (gd hg) rfl | exact POp.faP rfl rfl (gd hg) rfl | exact POp.ld1 rfl rfl (gd hg) rfl | exact POp.ld1H rfl rfl (gd hg) (hm:=Yv) (hy:=by exact rfl) | exact POp.ldA rfl rfl (gd hg) rfl | exact POp.ldAH rfl rfl (gd hg) (hm:=Yv) (hy:=by exact rfl) (hn:=by exact rfl))
   | exact gr 2 Yaw (by first | exact POp.cmp rfl rfl rfl (gd hg) (gd hg) rfl | exact POp.arith rfl rfl rfl (gd hg) (gd hg) rfl (wrap64 Yb) | exact POp.eqB (op:=.eql) rfl rfl (gd hg) rfl (gd hg))
   | exact gr 3 Yaw (by first | exact POp.lenM rfl rfl (gd hg) | exact POp.lenA rfl rfl (gd hg) | exact POp.lenV rfl rfl (gd hg) | exact POp.len' rfl rfl (gd hg))
   | exact gr 4 Yaw (by first | exact POp.ixM rfl rfl (gd hg) rfl (gd hg) Y3 | exact POp.ixI rfl rfl (gd hg) rfl (gd hg) Y3 | exact POp.ia rfl rfl (gd hg) rfl (gd hg) Y3 | exact POp.iaP rfl rfl (gd hg) rfl (gd hg) Y3)
   | exact gr 5 Yaw (by first | exact POp.extract rfl rfl (gd hg) rfl | exact POp.not rfl rfl (gd hg) | exact POp.pick rfl rfl (gd hg) rfl rfl YH YH | exact POp.nilCheck rfl rfl (gd hg) | exact POp.nilCheckP rfl rfl (gd hg) | exact POp.nilCheckF rfl rfl (gd hg) | exact POp.boxI rfl rfl (gd hg) rfl | exact POp.row0 rfl | exact POp.row rfl rfl Yj rfl rfl rfl rfl rfl | exact POp.build' rfl rfl Yj rfl | exact POp.makeFunc rfl rfl rfl Yj Yj)):p:=h hg
theorem Z1{goal next:Prop}(k:next)(h:Hid next->goal:=by
  intro k
  first
   | ((with_reducible refine isOL ?_);first | refine OL.popC rfl rfl rfl po ?_ | refine OL.guardC rfl rfl rfl rfl rfl rfl (λhg=>pg hg) ?_ | (with_reducible refine OL.nil ?_) | refine Sto ?_)
   | ((with_reducible refine isAD ?_);first | refine AD.popC rfl rfl rfl po ?_ | refine AD.guardC rfl rfl rfl rfl rfl (λhg=>pg hg) ?_ | refine AD.nil ?_)
   | ((with_reducible refine isDP ?_);first | refine DP.tailC _ Yf rfl ?_ | refine DP.one Yf rfl ?_)
   | with_reducible refine Done.dp ?_
   | refine S1 ?_
  exact k.out):goal:=h ⟨k⟩
theorem Z2{goal next:Prop}(k:next)(h:Hid next->goal:=by
  intro k
  iterate 2 refine Z1 ?_
  exact k.out):goal:=h ⟨k⟩
theorem Z3{goal next:Prop}(k:next)(h:Hid next->goal:=by
  intro k
  iterate 3 refine Z1 ?_
  exact k.out):goal:=h ⟨k⟩
theorem Z4{goal next:Prop}(k:next)(h:Hid next->goal:=by
  intro k
  iterate 4 refine Z1 ?_
  exact k.out):goal:=h ⟨k⟩
theorem Z5{goal next:Prop}(k:next)(h:Hid next->goal:=by
  intro k
  iterate 5 refine Z1 ?_
  exact k.out):goal:=h ⟨k⟩
theorem Z6{goal next:Prop}(k:next)(h:Hid next->goal:=by
  intro k
  iterate 6 refine Z1 ?_
  exact k.out):goal:=h ⟨k⟩
theorem Z7{goal next:Prop}(k:next)(h:Hid next->goal:=by
  intro k
  iterate 7 refine Z1 ?_
  exact k.out):goal:=h ⟨k⟩
theorem Z8{goal next:Prop}(k:next)(h:Hid next->goal:=by
  intro k
  iterate 8 refine Z1 ?_
  exact k.out):goal:=h ⟨k⟩
theorem Z9{goal next:Prop}(k:next)(h:Hid next->goal:=by
  intro k
  iterate 9 refine Z1 ?_
  exact k.out):goal:=h ⟨k⟩
theorem Z10{goal next:Prop}(k:next)(h:Hid next->goal:=by
  intro k
  iterate 10 refine Z1 ?_
  exact k.out):goal:=h ⟨k⟩
theorem Z11{goal next:Prop}(k:next)(h:Hid next->goal:=by
  intro k
  iterate 11 refine Z1 ?_
  exact k.out):goal:=h ⟨k⟩
theorem Z12{goal next:Prop}(k:next)(h:Hid next->goal:=by
  intro k
  iterate 12 refine Z1 ?_
  exact k.out):goal:=h ⟨k⟩
theorem Z13{goal next:Prop}(k:next)(h:Hid next->goal:=by
  intro k
  iterate 13 refine Z1 ?_
  exact k.out):goal:=h ⟨k⟩
theorem Z14{goal next:Prop}(k:next)(h:Hid next->goal:=by
  intro k
  iterate 14 refine Z1 ?_
  exact k.out):goal:=h ⟨k⟩
theorem Z15{goal next:Prop}(k:next)(h:Hid next->goal:=by
  intro k
  iterate 15 refine Z1 ?_
  exact k.out):goal:=h ⟨k⟩
theorem Z16{goal next:Prop}(k:next)(h:Hid next->goal:=by
  intro k
  iterate 16 refine Z1 ?_
  exact k.out):goal:=h ⟨k⟩
theorem Z17{goal next:Prop}(k:next)(h:Hid next->goal:=by
  intro k
  iterate 17 refine Z1 ?_
  exact k.out):goal:=h ⟨k⟩
theorem Z18{goal next:Prop}(k:next)(h:Hid next->goal:=by
  intro k
  iterate 18 refine Z1 ?_
  exact k.out):goal:=h ⟨k⟩
theorem Z19{goal next:Prop}(k:next)(h:Hid next->goal:=by
  intro k
  iterate 19 refine Z1 ?_
  exact k.out):goal:=h ⟨k⟩
theorem Z20{goal next:Prop}(k:next)(h:Hid next->goal:=by
  intro k
  iterate 20 refine Z1 ?_
  exact k.out):goal:=h ⟨k⟩
theorem Z21{goal next:Prop}(k:next)(h:Hid next->goal:=by
  intro k
  iterate 21 refine Z1 ?_
  exact k.out):goal:=h ⟨k⟩
theorem Z22{goal next:Prop}(k:next)(h:Hid next->goal:=by
  intro k
  iterate 22 refine Z1 ?_
  exact k.out):goal:=h ⟨k⟩
theorem Z23{goal next:Prop}(k:next)(h:Hid next->goal:=by
  intro k
  iterate 23 refine Z1 ?_
  exact k.out):goal:=h ⟨k⟩
theorem Z24{goal next:Prop}(k:next)(h:Hid next->goal:=by
  intro k
  iterate 24 refine Z1 ?_
  exact k.out):goal:=h ⟨k⟩
theorem Z25{goal next:Prop}(k:next)(h:Hid next->goal:=by
  intro k
  iterate 25 refine Z1 ?_
  exact k.out):goal:=h ⟨k⟩
theorem Z26{goal next:Prop}(k:next)(h:Hid next->goal:=by
  intro k
  iterate 26 refine Z1 ?_
  exact k.out):goal:=h ⟨k⟩
theorem Z27{goal next:Prop}(k:next)(h:Hid next->goal:=by
  intro k
  iterate 27 refine Z1 ?_
  exact k.out):goal:=h ⟨k⟩
theorem Z28{goal next:Prop}(k:next)(h:Hid next->goal:=by
  intro k
  iterate 28 refine Z1 ?_
  exact k.out):goal:=h ⟨k⟩
theorem Z29{goal next:Prop}(k:next)(h:Hid next->goal:=by
  intro k
  iterate 29 refine Z1 ?_
  exact k.out):goal:=h ⟨k⟩
theorem Z33{goal next:Prop}(k:next)(h:Hid next->goal:=by
  intro k
  iterate 33 refine Z1 ?_
  exact k.out):goal:=h ⟨k⟩
theorem Z56{goal next:Prop}(k:next)(h:Hid next->goal:=by
  intro k
  iterate 56 refine Z1 ?_
  exact k.out):goal:=h ⟨k⟩
theorem Z76{goal next:Prop}(k:next)(h:Hid next->goal:=by
  intro k
  iterate 76 refine Z1 ?_
  exact k.out):goal:=h ⟨k⟩
theorem cd{goal n1 n2 p q:Prop}(k1:p->n1)(k2:q->n2)(h:Hid (p->n1)->Hid (q->n2)->goal:=by
  intro k1 k2;exact CW.cond rfl (λh=>k1.out (nm h)) (λh=>k2.out (nm h))):goal:=h ⟨k1⟩ ⟨k2⟩
theorem rR{P:Program}{st:St}{fn:Func}{B:Nat}{I0:Imm}{w0:World}{n:Nat}{Φ E:AV->List Ent->Prop}{ys:List AV}(rs:List ResultVar)(H':List Ent)(hΦ:Φ (tupOf ys) H')(hr:fn.results=rs.toArray:=by exact rfl)(hy:ResOk P st rs ys:=by
  first | exact .nil | exact .tmp rfl .nil | exact .tmp rfl (.tmp rfl .nil) | exact .tmp rfl (.tmp rfl (.tmp rfl .nil)) | exact .cellA inferInstance rfl Yv rfl rfl .nil | exact .ptrA inferInstance rfl rfl .nil)
  (hH:H'.Sublist st.H:=by repeat (first | exact List.Sublist.refl _ | refine List.Sublist.cons _ ?_)):Done ⟨B,I0,w0,n,[]⟩ st .ret (bodyPost P fn (RetP B I0 w0 Φ E)):=Done.retR hr hy (AVleL.refl _) hH hΦ
theorem nR{P:Program}{st:St}{fn:Func}{B:Nat}{I0:Imm}{w0:World}{n:Nat}{Φ E:AV->List Ent->Prop}{ys:List AV}(rs:List ResultVar)(H':List Ent)(hΦ:Φ (tupOf ys) H')(hr:fn.results=rs.toArray:=by exact rfl)(hy:ResOk P st rs ys:=by
  first | exact .nil | exact .tmp rfl .nil | exact .tmp rfl (.tmp rfl .nil) | exact .tmp rfl (.tmp rfl (.tmp rfl .nil)) | exact .cellA inferInstance rfl Yv rfl rfl .nil | exact .ptrA inferInstance rfl rfl .nil)
  (hH:H'.Sublist st.H:=by repeat (first | exact List.Sublist.refl _ | refine List.Sublist.cons _ ?_)):Done ⟨B,I0,w0,n,[]⟩ st .normal (bodyPost P fn (RetP B I0 w0 Φ E)):=Done.norR hr hy (AVleL.refl _) hH hΦ
theorem cj{c:Ctx}{st st':Go.Eng.St}{Q:Exit->Act->World->Prop}{J:Go.Eng.St->Prop}(hJ:J st')(he:envLe st'.env st.env:=by repeat (first | exact trivial | refine⟨rfl,?_⟩))
  (hH:st'.H.Sublist st.H:=by repeat (first | exact List.Sublist.refl _ | refine List.Sublist.cons _ ?_)):Done c st .normal (Exit.then (λa w=>∃st',J st'/\Sat c st' a w) Q):=Done.cutJ hJ he hH
theorem aC{P:Program}{f:FuncId}{fn:Func}{code:Code}{xs:List AV}{H:List Ent}{Φ:AV->List Ent->Prop}{E:AV->List Ent->Prop}{n:Nat}(hf:P.funcs[f]? =some fn)(h:∀B I w,CW ⟨B,I,w,n,[]⟩ none P code ⟨envOf 0 xs,H⟩ (bodyPost P fn (RetP B I w Φ E)))(hb:fn.body=some code:=by exact rfl)(hnm:(fn.name== "runtime.NumGoroutine")=false:=by kernel_rfl)(hn:fn.ntmps=n:=by exact rfl)(hl:Nat.ble xs.length n=true:=by exact rfl):ACall P f xs H Φ E:=ACall.mk' hf hb hnm hn hl h
theorem CallOk.k{P:Program}{ρ:Nat->Option AV}{o:Oper}{x:Operand}{args:Array Operand}{ts:Array TypeId}{f:FuncId}{fs cs:List AV}{ys:List (Bool×AV)}{g:Bool}{xs:List AV}(h:o.op= .call {callee:=.value x,args:=args,argTypes:=ts}:=by exact rfl)(hx:aev ρ x=some (g,.fn (.func f) fs cs):=by exact rfl)(hg:g=true:=by exact rfl)(ha:aevs ρ args.toList=some ys:=by exact rfl)(hys:ys.all (·.1)=true:=by exact rfl)(hxs:fs++ys.map (·.2)++cs=xs:=by exact rfl):CallOk P ρ o f xs:=hxs▸CallOk.mk' h hx hg ha hys
theorem oP{c:Ctx}{r:Option Nat}{P:Program}{ops:Array Oper}{rest:List Oper}{o:Oper}{d:Nat}{x:AV}{env:List (Nat×AV)}{H:List Ent}{Q:Exit->Act->World->Prop}(h:POp P H (envGet env) o x)(next:OL c r P ops rest ⟨(d,x)::env,H⟩ Q)(hg:o.guard=none:=by exact rfl)(hd:o.dst=some d:=by exact rfl)(hn:Nat.blt d c.n=true:=by exact rfl):OL c r P ops (o::rest) ⟨env,H⟩ Q:=OL.popC hg hd hn h next
theorem bC{c:Ctx}{r:Option Nat}{P:Program}{ops:Array Oper}{rest:List Oper}{o:Oper}{d:Nat}{env:List (Nat×AV)}{H:List Ent}{Q:Exit->Act->World->Prop}{f:FuncId}{xs:List AV}{Φ:AV->List Ent->Prop}(hc:CallOk P (envGet env) o f xs)(h:BCall c.B P f xs H Φ (λ_ _=>False))(next:∀y H',Φ y H'->OL c r P ops rest ⟨(d,y)::env,H'⟩ Q)(hg:o.guard=none:=by exact rfl)(hd:o.dst=some d:=by exact rfl)(hn:Nat.blt d c.n=true:=by exact rfl):OL c r P ops (o::rest) ⟨env,H⟩ Q:=OL.bcallC hg hd hn hc h next
end Go.Eng
