/- Part 2 of the proof: contracts of functions of the program and what they need. No condition beyond those that each theorem names. -/
import Derived.Test.YtogjaoodkaahoaaGreatVowJudgesP1
import Derived.Deep.Upon
import Derived.RangeFuncBound
import Derived.Laws.Cover3
set_option maxHeartbeats 1000000
set_option linter.unusedVariables false
set_option linter.unusedSimpArgs false
namespace Go.Eng
open Go.RowKit (Below)
def AVle(x y:AV):Prop:=∀I w v,Rel I w x v->Rel I w y v
inductive AVleL:List AV->List AV->Prop
 | nil:AVleL [] []
 | cons {x y:AV} {xs ys:List AV} (h:AVle x y) (t:AVleL xs ys):AVleL (x::xs) (y::ys)
theorem AVle.refl(x:AV):AVle x x:=λ_ _ _ h=>h
theorem AVle.trans{x y z:AV}(h:AVle x y)(h':AVle y z):AVle x z:=λI w v r=>h' I w v (h I w v r)
theorem AVle.nil(k:Nat):AVle (.val (.slice none 0 0)) (.sl k []):=λI w v h=>by cases h;exact .sl0 _ _ _
theorem AVle.empty(k:Nat)(a:Option Addr)(c:Nat):AVle (.val (.slice a 0 c)) (.sl k []):=λI w v h=>by cases h;exact .sl0 _ _ _
theorem AVle.e0(k:Nat):AVle .e0 (.sl k []):=λI w v h=>by cases h;exact .sl0 _ _ _
theorem AVle.nil0:AVle (.val (.slice none 0 0)) .e0:=λI w v h=>by cases h;exact .e0 _
theorem AVle.asL(x:AV)(v:Value):AVle (.as x v) x:=λI w u h=>by cases h;assumption
theorem AVle.one{x:AV}(hb:bOk x=true)(hx:∀cs,x≠ .agg cs):AVle x .one:=λI w v h=>.single _ (h.one hb hx)
theorem AVle.any(x:AV):AVle x .any:=λ_ _ _ _=>.any _
theorem AVleL.rel{I:Imm}{w:World}:∀{xs ys:List AV} {vs:List Value},AVleL xs ys->RelL I w xs vs->RelL I w ys vs
 | _,_,_,.nil,h=>h
 | _,_,_,.cons h t,.cons _ _ _ _ hx ht=>.cons _ _ _ _ (h _ _ _ hx) (AVleL.rel t ht)
theorem AVleL.refl:∀xs:List AV,AVleL xs xs
 | []=>.nil
 | _::xs=>.cons (.refl _) (AVleL.refl xs)
theorem AVleL.length{xs ys:List AV}(h:AVleL xs ys):ys.length=xs.length:=by
 induction h with
 | nil=>rfl
 | cons _ _ ih=>simp[ih]
theorem AVle.agg{xs ys:List AV}(h:AVleL xs ys):AVle (.agg xs) (.agg ys):=λI w v r=>by cases r;exact .agg _ _ (h.rel (by assumption))
theorem AVle.tup{xs ys:List AV}(h:AVleL xs ys):AVle (.tup xs) (.tup ys):=λI w v r=>by cases r;exact .tup _ _ (h.rel (by assumption))
theorem AVle.fn{f:Fn}{fs fs' cs cs':List AV}(h:AVleL fs fs')(h':AVleL cs cs'):AVle (.fn f fs cs) (.fn f fs' cs'):=λI w v r=>by cases r;exact .fn _ _ _ _ _ (h.rel (by assumption)) (h'.rel (by assumption))
theorem AVle.iface{t:TypeId}{x y:AV}(h:AVle x y):AVle (.iface t x) (.iface t y):=λI w v r=>by cases r;exact .iface _ _ _ (h _ _ _ (by assumption))
theorem AVleL.cells{I:Imm}{w:World}{b:Nat}:∀{o:Nat} {xs ys:List AV},AVleL xs ys->Cells I w b o xs->Cells I w b o ys
 | _,_,_,.nil,h=>h
 | _,_,_,.cons h t,.cons _ _ _ c _ hc hI hx ht=>.cons _ _ _ c _ hc hI (h _ _ _ hx) (AVleL.cells t ht)
theorem AVle.ptr{xs ys:List AV}(h:AVleL xs ys):AVle (.ptr xs) (.ptr ys):=λI w v r=>by cases r;exact .ptr _ _ _ (h.cells (by assumption))
inductive AVleE:List (List AV)->List (List AV)->Prop
 | nil:AVleE [] []
 | cons {x y:List AV} {xs ys:List (List AV)} (h:AVleL x y) (t:AVleE xs ys):AVleE (x::xs) (y::ys)
theorem AVleE.refl:∀xs:List (List AV),AVleE xs xs
 | []=>.nil
 | _::xs=>.cons (.refl _) (AVleE.refl xs)
theorem AVleE.length{xs ys:List (List AV)}(h:AVleE xs ys):ys.length=xs.length:=by
 induction h with
 | nil=>rfl
 | cons _ _ ih=>simp[ih]
theorem AVleE.els{I:Imm}{w:World}{k b:Nat}:∀{o:Nat} {xs ys:List (List AV)},AVleE xs ys->Els I w k b o xs->Els I w k b o ys
 | _,_,_,.nil,h=>h
 | _,_,_,.cons h t,.cons _ _ _ _ _ hk hc ht=>.cons _ _ _ _ _ (by rw[h.length];exact hk) (h.cells hc) (AVleE.els t ht)
theorem AVle.sl{k:Nat}{xs ys:List (List AV)}(h:AVleE xs ys):AVle (.sl k xs) (.sl k ys):=λI w v r=>by
 cases r with
 | sl0=>cases h;exact .sl0 _ _ _
 | sl _ _ b off len cap hl hc hm he=>exact .sl _ _ _ _ _ _ (by rw[h.length];exact hl) hc hm (h.els he)
section
variable{P:Program}{H:List Ent}{ρ:Nat->Option AV}{o:Oper}
theorem POp.le{x y:AV}(h:POp P H ρ o x)(hle:AVle x y):POp P H ρ o y:=by
 intro B I w r a Hc hw hh hs ho;exact (h B I w r a Hc hw hh hs ho).mono (λv w' ⟨I',h1,h2,h3,h4⟩=>⟨I',h1,h2,h3,hle _ _ _ h4⟩) (λ_ _ h=>h)
theorem CallOk.le{f:FuncId}{xs ys:List AV}(h:CallOk P ρ o f xs)(hle:AVleL xs ys):CallOk P ρ o f ys:=
 ⟨λI w a ho=>let ⟨vs,h1,h2⟩:=h.run I w a ho;⟨vs,hle.rel h1,h2⟩,h.nodefer⟩
theorem POp.callLe{f:FuncId}{xs ys:List AV}{y:AV}(hc:CallOk P ρ o f xs)(hle:AVleL xs ys)(h:PCall P f ys y):POp P H ρ o y:=POp.call (hc.le hle) h
theorem POp.boxI{t:TypeId}{z:Operand}{y:AV}{g:Bool}(h:o.op= .box t z)(hz:aev ρ z=some (g,y))(hg:g=true)(hb:bOk y=true):POp P H ρ o (.ptr (bcells y)):=by
 intro B I w r a Hc hw hh _ ho;have h1:=bcells_rel (ho.get Yh hz hg) hb;obtain⟨a1,a2,a3,a4⟩:=Imm.add_new hw t (a.eval z).cells;refine Runs.of_value (v:=.pointer (some ⟨w.heap.size,0,none⟩)) (w':=w.alloc (.cells (a.eval z).cells t)) Yk Yau ⟨_,a1,a2,a3 _ hh,.ptr _ _ _ (a4 _ h1)⟩
theorem foldl_set:∀(news:List Value) (off j:Nat) (cells:Array Value),off+j+news.length<=cells.size->
  (news.zipIdx j).foldl (λ(cs:Array Value) (x:Value×Nat)=>cs.setIfInBounds (off+x.2) x.1) cells=(cells.toList.take (off+j)++news++cells.toList.drop (off+j+news.length)).toArray
 | [],off,j,cells,h=>by simp
 | v::news,off,j,cells,h=>by
  simp only[List.length_cons] at h;rw[List.zipIdx_cons,List.foldl_cons,foldl_set news off (j+1) _ YB];congr 1;have hlt:off+j<cells.toList.length:=by simp;omega
  simp only[Array.toList_setIfInBounds];have e1:off+(j+1)=off+j+1:=by omega
  rw[e1,List.take_set,List.drop_set_of_lt Yb];have e2:off+j+(v::news).length=off+j+1+news.length:=by simp;omega
  rw[e2,List.take_succ_eq_append_getElem hlt,List.set_append_right _ _ (by simp[Nat.min_le_left]),List.append_assoc,List.append_assoc,List.append_assoc];have hm:off+j - (cells.toList.take (off+j)).length=0:=by simp;omega
  rw[hm];rfl
def bfill(place:Nat->Option (Nat×Nat)):List AV->List (Nat×AV)->Option (List AV)
 | cs,[]=>some cs
 | cs,(i,x)::rest=>
  match place i with
  | none=>none
  | some (off,size)=>bif bOk x && Nat.beq (bcells x).length size && Nat.ble (off+size) cs.length then bfill place (cs.take off++bcells x++cs.drop (off+size)) rest else none
theorem bfill_rel{I:Imm}{w:World}{place:Nat->Option (Nat×Nat)}:∀(parts:List (Nat×AV)) (vals:List (Nat×Value)) (cs:List AV) (vs:Array Value) (ys:List AV),RelL I w cs vs.toList->
  parts.map (·.1)=vals.map (·.1)->RelL I w (parts.map (·.2)) (vals.map (·.2))->bfill place cs parts=some ys->∃us,Instr.fill place vs vals=some us/\RelL I w ys us.toList
 | [],[],cs,vs,ys,h,_,_,hf=>by simp[bfill] at hf;subst hf;exact⟨vs,rfl,h⟩
 | [],_::_,_,_,_,_,hk,_,_=>by simp at hk
 | _::_,[],_,_,_,_,hk,_,_=>by simp at hk
 | (i,x)::parts,(i',v)::vals,cs,vs,ys,h,hk,hr,hf=>by
  simp only[List.map_cons,List.cons.injEq] at hk;obtain⟨hi,hk⟩:=hk;subst hi;cases hr with
  | cons _ _ _ _ hx ht=>
   simp only[bfill] at hf;split at hf
   ·cases hf
   ·rename_i off size hp;cases hc:(bOk x && Nat.beq (bcells x).length size && Nat.ble (off+size) cs.length) with
    | false=>simp[hc] at hf
    | true=>
     simp only[hc,cond_true] at hf;simp only[Bool.and_eq_true] at hc;obtain⟨⟨hb,hs⟩,hfit⟩:=hc;have hs:=Nat.eq_of_beq_eq_true hs;have hfit:=Nat.le_of_ble_eq_true hfit;have hxr:=bcells_rel hx hb;have hvl:v.cells.size=size:=by have:=hxr.length;simp at this;omega
     have hcl:vs.size=cs.length:=by have:=h.length;simpa using this
     have hrel:RelL I w (cs.take off++bcells x++cs.drop (off+size)) (vs.toList.take off++v.cells.toList++vs.toList.drop (off+size)):=((h.take off).append hxr).append (h.drop _);obtain⟨us,h1,h2⟩:=bfill_rel parts vals _ (vs.toList.take off++v.cells.toList++vs.toList.drop (off+size)).toArray ys (by simpa using hrel) hk ht hf;refine⟨us,?_,h2⟩;rw[Instr.fill,hp];have hne: ¬(v.cells.size≠size\/off+v.cells.size>vs.size):=by omega
     have hfs:=foldl_set v.cells.toList off 0 vs YB;simp only[hvl,ne_eq,not_true_eq_false,false_or,gt_iff_lt,decide_eq_true_eq,Bool.or_eq_true,bne_self_eq_false,Bool.false_or];rw[if_neg YB];rw[<-h1];congr 1;have e3:v.cells.zipIdx=(v.cells.toList.zipIdx 0).toArray:=by
      apply Array.ext';simp
     rw[e3,List.foldl_toArray];simp only[Nat.add_zero,Array.length_toList,hvl] at hfs;rw[<-hfs]
def buildInfo(P:Program)(t:TypeId):Option (List Value×List (Nat×Nat)):=
 match P.info? t,P.underlying t with
 | some it,some (.struct fields)=>
  match it.zero,fields.toList.mapM (λf=>(P.info? f.type).map λi=>(f.offset,i.size)) with
  | some z,some places=>some (z.cells.toList,places)
  | _,_=>none
 | some it,some (.array n e)=>
  match it.zero,P.info? e with
  | some z,some ie=>some (z.cells.toList,(List.range n).map λi=>(i*ie.size,ie.size))
  | _,_=>none
 | _,_=>none
class HasBuild (P:Program) (t:Nat) (x:outParam (List Value×List (Nat×Nat))):Prop where h:buildInfo P t=some x
def partsOf(ps:List (Nat×Operand))(ys:List (Bool×AV)):List (Nat×AV):=(ps.map (·.1)).zip (ys.map (·.2))
theorem fill_congr{p q:Nat->Option (Nat×Nat)}:∀(parts:List (Nat×Value)) (vs:Array Value) (us:Array Value),(∀i x,p i=some x->q i=some x)->Instr.fill p vs parts=some us->Instr.fill q vs parts=some us
 | [],vs,us,_,h=>h
 | (i,v)::parts,vs,us,hpq,h=>by
  rw[Instr.fill] at h ⊢;cases hp:p i with
  | none=>simp[hp] at h
  | some x=>
   rw[hp] at h;rw[hpq i x hp];simp only at h ⊢;split at h
   ·cases h
   ·rename_i hc;rw[if_neg hc];exact fill_congr parts _ _ hpq h
theorem build_run{t:TypeId}{zs:List Value}{places:List (Nat×Nat)}(hb:buildInfo P t=some (zs,places))(parts:Array (Nat×Value))(us:Array Value)(h:Instr.fill (places[·]?) zs.toArray parts.toList=some us)(w:World):
  (Instr.build t parts).run P w= .ok (.agg us) w:=by
 refine run_build w t parts us ?_;unfold buildInfo at hb;unfold Program.built;split at hb
 ·rename_i it fields hi hu;cases hz:it.zero with
  | none=>simp[hz] at hb
  | some z=>
   simp only[hi,hu,hz];cases hp:fields.toList.mapM (λf=>(P.info? f.type).map λi=>(f.offset,i.size)) with
   | none=>simp[hz,hp] at hb
   | some pl=>
    simp[hz,hp] at hb;obtain⟨rfl,rfl⟩:=hb;simpa using h
 ·rename_i it n e hi hu;cases hz:it.zero with
  | none=>simp[hz] at hb
  | some z=>
   cases hie:P.info? e with
   | none=>simp[hz,hie] at hb
   | some ie=>
    simp[hz,hie] at hb;obtain⟨rfl,rfl⟩:=hb;simp only[hi,hu,hz,hie];refine fill_congr _ _ _ (λi x hx=>?_) YN;cases hr:(List.range n)[i]? with
    | none=>simp[hr] at hx
    | some j=>
     have hj:j=i:=by
      have:=List.getElem?_eq_some_iff.1 hr;obtain⟨hlt,he⟩:=this;simpa using he.symm
     subst hj;simpa [hr] using hx
 ·cases hb
theorem parts_rel{I:Imm}{w:World}{a:Act}(ho:OpsOk I w ρ a o)(ps:Array (Nat×Operand))(hm:∀x∈ps.toList.map (·.2),x∈o.op.operands){ys:List (Bool×AV)}(hy:aevs ρ (ps.toList.map (·.2))=some ys)(hg:ys.all (·.1)=true):
  (partsOf ps.toList ys).map (·.1)=((ps.map λ(i,x)=>(i,a.eval x)).toList).map (·.1)/\RelL I w ((partsOf ps.toList ys).map (·.2)) (((ps.map λ(i,x)=>(i,a.eval x)).toList).map (·.2)):=by
 have h2:=aevs_rel ho _ ys hm hy (by simpa using hg);have hl:ys.length=ps.toList.length:=by have:=h2.length;simp at this;simp[this]
 constructor
 ·show ((ps.toList.map (·.1)).zip (ys.map (·.2))).map (·.1)=_;rw[List.map_fst_zip (by simp[hl])];simp[Function.comp_def]
 ·show RelL I w (((ps.toList.map (·.1)).zip (ys.map (·.2))).map (·.2)) _;rw[List.map_snd_zip (by simp[hl])];simpa [Function.comp_def] using h2
theorem POp.build'{t:TypeId}{ps:Array (Nat×Operand)}{zs:List Value}{places:List (Nat×Nat)}{ys:List (Bool×AV)}{cs:List AV}[hB:HasBuild P t (zs,places)](h:o.op= .build t ps)
  (hy:aevs ρ (ps.toList.map (·.2))=some ys) (hg:ys.all (·.1)=true) (hf:bfill (places[·]?) (zs.map .val) (partsOf ps.toList ys)=some cs):POp P H ρ o (.agg cs):=by
 refine .same Yk λI w a ho=>?_;obtain⟨e1,e2⟩:=parts_rel ho ps Yh hy hg;obtain⟨us,h1,h2⟩:=bfill_rel _ _ (zs.map .val) zs.toArray cs (by simpa using relL_val zs) e1 e2 hf;refine⟨.agg us,?_,.agg _ _ h2⟩;simp[execOp,h,build_run hB.h _ us h1 w]
def rowInfo(P:Program)(t:TypeId):Option (Nat×List Value):=
 match P.underlying t with
 | some (.slice e)=>match P.info? e with
  | some i=>i.zero.map λz=>(i.size,z.cells.toList)
  | none=>none
 | _=>none
class HasRow (P:Program) (t:Nat) (x:outParam (Nat×List Value)):Prop where h:rowInfo P t=some x
theorem rowInfo_spec{t:TypeId}{k:Nat}{zs:List Value}(h:rowInfo P t=some (k,zs)):∃e i z,P.underlying t=some (.slice e)/\P.info? e=some i/\i.zero=some z/\i.size=k/\z.cells.toList=zs:=by
 unfold rowInfo at h;split at h
 ·rename_i e hu;split at h
  ·rename_i i hi;cases hz:i.zero with
   | none=>simp[hz] at h
   | some z=>simp[hz] at h;exact⟨e,i,z,hu,hi,hz,h.1,h.2⟩
  ·cases h
 ·cases h
def rowZero(n k:Nat)(zs:List Value):List Value:=(List.range (n*k)).map λi=>zs.getD (i%zs.length) default
theorem els_of_cells{I:Imm}{w:World}{k b:Nat}:∀(els:List (List AV)) (o:Nat),(∀e∈els,e.length=k)->Cells I w b o els.flatten->Els I w k b o els
 | [],o,_,_=>.nil _ _ _
 | e::els,o,hl,h=>by
  rw[List.flatten_cons] at h;have hk:=hl e (.head _);have h1:Cells I w b o e:=by have:=h.take e.length;rwa [List.take_left] at this
  have h2:Cells I w b (o+k) els.flatten:=by have:=h.drop e.length;rw[List.drop_left,hk] at this;exact this
  exact .cons _ _ _ _ _ hk h1 (els_of_cells els _ (λe he=>hl e (.tail _ he)) h2)
theorem buildSlice_run{t:TypeId}{n k:Nat}{zs:List Value}(hr:rowInfo P t=some (k,zs))(parts:Array (Nat×Value))(us:Array Value)(hsm:n*k<=16777216)(hpos:0<n*k)
  (h:Instr.fill (λi=>some (i*k,k)) (rowZero n k zs).toArray parts.toList=some us) (w:World):
  ∃e,(Instr.buildSlice t n parts).run P w= .ok (.slice (some ⟨w.heap.size,0,none⟩) n n) (w.alloc (.cells us e)):=by
 obtain⟨e,i,z,hu,hi,hz,hk,hzs⟩:=rowInfo_spec hr;have hsm': ¬n*i.size>2^24:=by rw[hk];omega
 have hpos': ¬n*i.size=0:=by rw[hk];omega
 have hf:Instr.fill (λj=>some (j*i.size,i.size)) ((Array.range (n*i.size)).map (z.cells[· %z.cells.size]!)) parts.toList=some us:=?_
 ·exact⟨e,by simp[Instr.buildSlice,run_underlying hu,sizeOf,typeInfo,zeroValue,hi,hz,hsm',hpos',hf,newRow]⟩
 rw[hk, <-h];congr 1;apply Array.ext';simp only[rowZero,Array.toList_map,Array.toList_range, <-hzs];refine List.map_congr_left λj _=>?_;simp[Array.getElem!_eq_getD,Array.getD_eq_getD_getElem?,List.getD_eq_getElem?_getD]
theorem POp.row{t:TypeId}{n k:Nat}{ps:Array (Nat×Operand)}{zs:List Value}{ys:List (Bool×AV)}{els:List (List AV)}[hR:HasRow P t (k,zs)](h:o.op= .buildSlice t n ps)
  (hy:aevs ρ (ps.toList.map (·.2))=some ys) (hg:ys.all (·.1)=true) (hels:(partsOf ps.toList ys).map (λx=>bcells x.2)=els) (hlen:Nat.beq els.length n=true) (hk:els.all (λe=>Nat.beq e.length k)=true)
  (hsm:Nat.ble (n*k) 16777216=true) (hpos:Nat.blt 0 (n*k)=true)
  (hf:bfill (λi=>some (i*k,k)) ((rowZero n k zs).map .val) (partsOf ps.toList ys)=some els.flatten):POp P H ρ o (.sl k els):=by
 intro B I w r a Hc hw hh _ ho;obtain⟨e1,e2⟩:=parts_rel ho ps Yh hy hg;obtain⟨us,h1,h2⟩:=bfill_rel _ _ ((rowZero n k zs).map .val) (rowZero n k zs).toArray els.flatten (by simpa using relL_val _) e1 e2 hf;have hsm:=Nat.le_of_ble_eq_true hsm;have hpos:0<n*k:=Nat.le_of_ble_eq_true hpos;obtain⟨e,hrun⟩:=buildSlice_run hR.h (ps.map λ(i,x)=>(i,a.eval x)) us hsm hpos h1 w;obtain⟨a1,a2,a3,a4⟩:=Imm.add_new hw e us;have hn:=Nat.eq_of_beq_eq_true hlen;have hnk:n<=n*k:=by
  rcases Nat.eq_zero_or_pos k with rfl | hk'
  ·simp at hpos
  ·exact Nat.le_mul_of_pos_right n hk'
 refine Runs.of_value (v:=.slice (some ⟨w.heap.size,0,none⟩) n n) (w':=w.alloc (.cells us e)) Yk (by simp[execOp,h,hrun]) ⟨_,a1,a2,a3 _ hh,.sl _ _ _ _ _ _ hn (Nat.le_refl _) Yy ?_⟩;refine els_of_cells els 0 (λx hx=>?_) (a4 _ h2);have:=List.all_eq_true.1 hk x hx;exact Nat.eq_of_beq_eq_true this
theorem POp.row0{t:TypeId}{k:Nat}{zs:List Value}[hR:HasRow P t (k,zs)](h:o.op= .buildSlice t 0 #[]):POp P H ρ o .e0:=by
 intro B I w r a Hc hw hh _ ho;obtain⟨e,i,z,hu,hi,hz,hk,hzs⟩:=rowInfo_spec hR.h;have hrun:(Instr.buildSlice t 0 #[]).run P w= .ok (.slice (some ⟨w.heap.size,0,none⟩) 0 0) (w.alloc (.cells #[] e)):=by
  simp[Instr.buildSlice,run_underlying hu,sizeOf,typeInfo,hi,Instr.fill,newRow,show Array.range 0= #[] from by decide+kernel]
 exact Runs.of_value (v:=.slice (some ⟨w.heap.size,0,none⟩) 0 0) (w':=w.alloc (.cells #[] e)) Yk (by simp[execOp,h,hrun]) ⟨I,hw.alloc _,ext_alloc hw _,hh.alloc hw _,.e0 _⟩
end
inductive Del:List Ent->Ent->List Ent->Prop
 | head (e:Ent) (H:List Ent):Del (e::H) e H
 | tail (f e:Ent) (H H':List Ent) (h:Del H e H'):Del (f::H) e (f::H')
theorem Del.mem{H H':List Ent}{e:Ent}(h:Del H e H'):e∈H:=by
 induction h with
 | head=>exact .head _
 | tail _ _ _ _ _ ih=>exact .tail _ ih
theorem Del.sub{H H':List Ent}{e:Ent}(h:Del H e H'):H'.Sublist H:=by
 induction h with
 | head=>exact List.sublist_cons_self _ _
 | tail _ _ _ _ _ ih=>exact ih.cons_cons _
theorem Del.apart{H H':List Ent}{e:Ent}(h:Del H e H')(hp:H.Pairwise λe f=>∀b,e.foot=some b->f.foot≠some b):∀f∈H',∀b,e.foot=some b->f.foot≠some b:=by
 induction h with
 | head e H=>exact (List.pairwise_cons.1 hp).1
 | tail g e H H' h ih=>
  obtain⟨h1,h2⟩:=List.pairwise_cons.1 hp;intro f hf b hb hfb;rcases List.mem_cons.1 hf with rfl | hf
  ·exact h1 e h.mem b hfb hb
  ·exact ih h2 f hf b hb hfb
theorem Imm.freeze{B:Nat}{I:Imm}{w:World}{H H':List Ent}(hw:WOk B I w)(hh:HeapOk B I w H){b n:Nat}{e:Ent}(hd:Del H e H')(hf:e.foot=some b){vs:Array Value}{t:TypeId}(hb:w.heap[b]? =some (.cells vs t (0,0)))(hn:n<=vs.size):
  WOk B (I.add b n) w/\Ext B I w (I.add b n) w/\HeapOk B (I.add b n) w H'/\(∀xs us,RelL I w xs us->us=vs.toList.take n->Cells (I.add b n) w b 0 xs):=by
 have k:Keeps I w (I.add b n) w:=⟨λ_ _ x=>.inl x,λ_ _ _=>rfl⟩;refine⟨⟨hw.base,λb' o h=>?_⟩,⟨k.imm,k.cell,Below.refl _ _⟩,?_,?_⟩
 ·rcases h with h | ⟨rfl,h⟩
  ·exact hw.there b' o h
  ·exact⟨vs[o]'Yb,by rw[cell_of_blk hb];exact Array.getElem?_eq_getElem Yb⟩
 ·refine (hh.sub hd.sub).keep k (λ_ _ _ _=>rfl) (λf hfm b' hb' o ho=>?_);rcases ho with ho | ⟨rfl,_⟩
  ·exact ho
  ·exact absurd hb' (hd.apart hh.apart f hfm _ hf)
 ·intro xs us hx hu;have key:∀(ys:List AV) (zs:List Value) (o:Nat),RelL I w ys zs->zs=(vs.toList.take n).drop o->Cells (I.add b n) w b o ys:=by
   intro ys
   induction ys with
   | nil=>intro zs o _ _;exact .nil _ _
   | cons y ys ih=>
    intro zs o hr hu;cases hr with
    | cons _ v _ us' hx ht=>
     have h0:(vs.toList.take n)[o]? =some v:=by
      have:=congrArg (λl=>l[0]?) hu;simpa using this.symm
     have hlt:o<n:=by
      have:=(List.getElem?_eq_some_iff.1 h0).1;simp at this;omega
     refine .cons _ _ _ v _ ?_ (.inr ⟨rfl,hlt⟩) (hx.keep k) (ih us' (o+1) ht ?_)
     ·rw[cell_of_blk hb];rw[List.getElem?_take] at h0;simpa [hlt] using h0
     ·have:=congrArg List.tail hu;simpa [List.tail_drop] using this
  exact key xs us 0 hx (by simpa using hu)
section
variable{c:Ctx}{r:Option Nat}{P:Program}{ops:Array Oper}{l rest:List Oper}{o:Oper}{st:St}{Q:Exit->Act->World->Prop}{x:AV}{H:List Ent}{ρ:Nat->Option AV}
theorem Sat.put1{a:Act}{w:World}{d:Nat}{y:AV}{env:List (Nat×AV)}{I:Imm}(hv:EnvOk I w (envGet env) a)(h:Rel I w y (a.tmps.getD d undef)):EnvOk I w (envGet ((d,y)::env)) a:=by
 intro t z hz;rw[envGet_cons] at hz;split at hz
 ·rename_i e;subst e;simp at hz;subst hz;exact h
 ·exact hv t z hz
theorem Sat.freezeP{a:Act}{w:World}{d b off:Nat}{t:TypeId}{cs:List AV}{H':List Ent}(s:Sat c st a w)(hd:envGet st.env d=some (.p b off))(hD:Del st.H (.blk b t cs) H'):Sat c ⟨(d,.ptr (cs.drop off))::st.env,H'⟩ a w:=by
 obtain⟨I,hw,he,hh,hv⟩:=s.mem;obtain⟨hB,vs,hb,hr,hni⟩:=hh.ok _ hD.mem;obtain⟨a1,a2,a3,a4⟩:=Imm.freeze (n:=vs.size) hw hh hD (b:=b) rfl hb (Nat.le_refl _);refine⟨s.ds,s.size,_,a1,he.trans a2,a3,Sat.put1 (hv.keep a2.keeps) ?_⟩;have h0:=rel_val (hv d _ hd);rw[h0];have:=(a4 cs vs.toList hr (by rw[<-Array.length_toList,List.take_length])).drop off;exact .ptr _ _ _ (by simpa using this)
theorem CW.freezeP{p:Code}{d b off:Nat}{t:TypeId}{cs:List AV}{H':List Ent}(hd:envGet st.env d=some (.p b off))(hD:Del st.H (.blk b t cs) H')(h:CW c r P p ⟨(d,.ptr (cs.drop off))::st.env,H'⟩ Q):CW c r P p st Q:=
 λa w s=>h a w (s.freezeP hd hD)
theorem OL.freezeP{d b off:Nat}{t:TypeId}{cs:List AV}{H':List Ent}(hd:envGet st.env d=some (.p b off))(hD:Del st.H (.blk b t cs) H')(h:OL c r P ops l ⟨(d,.ptr (cs.drop off))::st.env,H'⟩ Q):OL c r P ops l st Q:=
 λa w s=>h a w (s.freezeP hd hD)
theorem Sat.freezeS{a:Act}{w:World}{d b n cap k:Nat}{t:TypeId}{els:List (List AV)}{more:List AV}{H':List Ent}(s:Sat c st a w)(hd:envGet st.env d=some (.val (.slice (some ⟨b,0,none⟩) n cap)))(hD:Del st.H (.blk b t (els.flatten++more)) H')
  (hn:els.length=n) (hk:∀e∈els,e.length=k) (hc:n<=cap) (hm:cap<=maxLen):Sat c ⟨(d,.sl k els)::st.env,H'⟩ a w:=by
 obtain⟨I,hw,he,hh,hv⟩:=s.mem;obtain⟨hB,vs,hb,hr,hni⟩:=hh.ok _ hD.mem;obtain⟨a1,a2,a3,a4⟩:=Imm.freeze (n:=vs.size) hw hh hD (b:=b) rfl hb (Nat.le_refl _);refine⟨s.ds,s.size,_,a1,he.trans a2,a3,Sat.put1 (hv.keep a2.keeps) ?_⟩;have h0:=rel_val (hv d _ hd);rw[h0];have h1:=(a4 _ vs.toList hr (by rw[<-Array.length_toList,List.take_length])).take els.flatten.length;rw[List.take_left] at h1;exact .sl _ _ _ _ _ _ hn hc hm (els_of_cells els 0 hk h1)
theorem CW.freezeS{p:Code}{d b n cap k:Nat}{t:TypeId}{els:List (List AV)}{more:List AV}{H':List Ent}(hd:envGet st.env d=some (.val (.slice (some ⟨b,0,none⟩) n cap)))(hD:Del st.H (.blk b t (els.flatten++more)) H')
  (hn:els.length=n) (hk:∀e∈els,e.length=k) (hc:n<=cap) (hm:cap<=maxLen) (h:CW c r P p ⟨(d,.sl k els)::st.env,H'⟩ Q):CW c r P p st Q:=
 λa w s=>h a w (s.freezeS hd hD hn hk hc hm)
theorem Sat.le{a:Act}{w:World}{d:Nat}{x y:AV}(s:Sat c st a w)(hd:envGet st.env d=some x)(h:AVle x y):Sat c ⟨(d,y)::st.env,st.H⟩ a w:=by
 obtain⟨I,hw,he,hh,hv⟩:=s.mem;exact⟨s.ds,s.size,I,hw,he,hh,Sat.put1 hv (h _ _ _ (hv d _ hd))⟩
theorem CW.le{p:Code}(d:Nat){x y:AV}(hd:envGet st.env d=some x)(hle:AVle x y)(h:CW c r P p ⟨(d,y)::st.env,st.H⟩ Q):CW c r P p st Q:=λa w s=>h a w (s.le hd hle)
theorem OL.le(d:Nat){x y:AV}(hd:envGet st.env d=some x)(hle:AVle x y)(h:OL c r P ops l ⟨(d,y)::st.env,st.H⟩ Q):OL c r P ops l st Q:=λa w s=>h a w (s.le hd hle)
theorem Done.le{e:Exit}(d:Nat){x y:AV}(hd:envGet st.env d=some x)(hle:AVle x y)(h:Done c ⟨(d,y)::st.env,st.H⟩ e Q):Done c st e Q:=λa w s=>h a w (s.le hd hle)
theorem Done.freezeP{e:Exit}{d b off:Nat}{t:TypeId}{cs:List AV}{H':List Ent}(hd:envGet st.env d=some (.p b off))(hD:Del st.H (.blk b t cs) H')(h:Done c ⟨(d,.ptr (cs.drop off))::st.env,H'⟩ e Q):Done c st e Q:=
 λa w s=>h a w (s.freezeP hd hD)
def appInfo(P:Program)(t:TypeId):Option (TypeId×Nat×Nat):=
 match P.underlying t with
 | some (.slice e)=>match P.info? e with
  | some i=>match i.zero with
   | some z=>bif Nat.beq z.cells.size i.size && Nat.blt 0 i.size then some (e,i.size,i.bytes) else none
   | none=>none
  | none=>none
 | _=>none
class HasApp (P:Program) (t:Nat) (x:outParam (Nat×Nat×Nat)):Prop where h:appInfo P t=some x
theorem appInfo_spec{t e k by_:Nat}(h:appInfo P t=some (e,k,by_)):∃i z,P.underlying t=some (.slice e)/\P.info? e=some i/\i.zero=some z/\i.size=k/\i.bytes=by_/\z.cells.size=k/\0<k:=by
 unfold appInfo at h;split at h
 ·rename_i e' hu;split at h
  ·rename_i i hi;split at h
   ·rename_i z hz;cases hc:(Nat.beq z.cells.size i.size && Nat.blt 0 i.size) with
    | false=>simp[hc] at h
    | true=>
     simp only[hc,cond_true,Option.some.injEq,Prod.mk.injEq] at h;obtain⟨rfl,rfl,rfl⟩:=h;simp only[Bool.and_eq_true] at hc;exact⟨i,z,hu,hi,hz,rfl,rfl,Nat.eq_of_beq_eq_true hc.1,Nat.le_of_ble_eq_true hc.2⟩
   ·cases h
  ·cases h
 ·cases h
theorem Els.values{I:Imm}{w:World}{k b o:Nat}{els:List (List AV)}(h:Els I w k b o els):∃us,RelL I w els.flatten us/\us.length=els.length*k/\∀j u,us[j]? =some u->w.cell? ((⟨b,o,none⟩:Addr).add j)=some u:=by
 obtain⟨us,h1,h2⟩:=h.cells.values;refine⟨us,h1,?_,λj u hu=>?_⟩
 ·rw[h1.length,h.flatten_length]
 ·have:(⟨b,o,none⟩:Addr).add j=⟨b,o+j,none⟩:=by unfold Addr.add;split <;> simp_all
  rw[this];exact h2 j u hu
theorem all_one_flatten{els:List (List AV)}(h:els.all allOne=true):allOne els.flatten=true:=by
 simp only[allOne,List.all_eq_true,List.mem_flatten] at h ⊢;rintro x ⟨e,he,hx⟩;exact h e he x hx
theorem src_of{I:Imm}{w:World}{tx e' k:Nat}{els:List (List AV)}{v:Value}(hk:P.underlying tx=some (.slice e'))(h:Rel I w (.sl k els) v)(h1:els.all allOne=true):
  ∃us,RelL I w els.flatten us/\Src P k tx v els.length us w:=by
 cases h with
 | sl0 _ a cp=>
  refine⟨[],.nil,?_⟩;cases a with
  | none=>exact Src.ofNil w hk _
  | some a=>exact Src.ofSlice w hk a 0 cp [] Yn Yn Yn
 | sl _ _ b off len cap hl hc hm he=>
  obtain⟨us,r1,r2,r3⟩:=he.values;subst hl;exact⟨us,r1,Src.ofSlice w hk _ _ cap us r2 r3 (relL_one r1 (all_one_flatten h1))⟩
theorem run_appendOp{s z:Operand}{t tx:TypeId}(h:o.op= .call {callee:=.builtin .append,args:=#[s,z],argTypes:=#[t,tx]})(a:Act)(w:World){v:Value}{w':World}
  (hr:(Builtin.append_ #[t,tx] o.type #[a.eval s,a.eval z]).run P w= .ok v w'):(execOp a.eval o).run P w= .ok (.value v) w':=by
 simp[execOp,h,resolve,invoke,builtin,hr]
theorem POp.appendI{s z:Operand}{t tx e k by_ k':Nat}{els:List (List AV)}{y0 y:AV}{g1 g2:Bool}[hA:HasApp P t (e,k,by_)][hX:HasSl P tx k'](h:o.op= .call {callee:=.builtin .append,args:=#[s,z],argTypes:=#[t,tx]})
  (hs:aev ρ s=some (g1,y0)) (hg1:g1=true) (hy0:AVle y0 .e0) (hz:aev ρ z=some (g2,y)) (hg2:g2=true) (hy:AVle y (.sl k els)) (h1:els.all allOne=true) (hb:els.length*by_<=140737488355328) (hb':els.length<=9223372036854775807):POp P H ρ o (.sl k els):=by
 intro B I w r a Hc hw hh _ ho;obtain⟨i,zv,hu,hi,hzz,hsz,hby,hzs,hk0⟩:=appInfo_spec hA.h;obtain⟨e',_,hu',_⟩:=slSize_spec hX.h;obtain⟨ad,hsv⟩:∃ad,a.eval s= .slice ad 0 0:=by
  have h0:=hy0 _ _ _ (ho.get Yl hs hg1);generalize a.eval s=u at h0;cases h0;exact⟨_,rfl⟩
 obtain⟨us,r1,r2⟩:=src_of (P:=P) (tx:=tx) hu' (hy _ _ _ (ho.get Yl hz hg2)) h1;rw[<-hsz] at r2;by_cases hn:els.length=0
 ·have hel:els= []:=List.eq_nil_of_length_eq_zero hn;subst hel;have hus:us= []:=by cases r1;rfl
  subst hus;have hr:=run_append_nothing (P:=P) w t tx o.type e i hu hi ad 0 0 (Nat.le_refl _) (a.eval z) r2;exact Runs.of_value Yk (run_appendOp h a w (by rw[hsv];exact hr)) ⟨I,hw,Ext.refl _ _ _,hh,.sl0 _ _ _⟩
 ·have hfc:(Builtin.firstCells i.size 0 (.slice ad 0 0)).run P w.drew= .ok (#[]:Array Value) w.drew:=by
   cases ad with
   | none=>simp[Builtin.firstCells]
   | some ad=>exact run_firstCells_some w.drew i.size 0 ad 0 0 [] Yn Yn
  have hnc:Builtin.nextslicecap (0+els.length) 0*i.bytes<=281474976710656:=growslice_fits Yb (by rw[hby,Nat.zero_add];exact hb);have hr:=run_append_grow_src (P:=P) w t tx o.type e i zv hu hi hzz ad 0 0 [] hfc (a.eval z) els.length us r2 Yb Yb hnc;simp only[Nat.zero_add,List.nil_append] at hr;generalize hG:grownCap w els.length 0 e=G at hr;have hge:els.length<=G:=by rw[<-hG];exact grownCap_ge w els.length 0 e
  have hcm:G<=maxLen:=by rw[<-hG];exact grownCap_le_maxLen w els.length 0 e Yy
  obtain⟨a1,a2,a3,a4⟩:=Imm.add_new hw.drew e (us.toArray++Builtin.zeroCells zv.cells (G - els.length));have kd:Keeps I w I w.drew:=⟨λ_ _ x=>x,λ_ _ _=>rfl⟩;have r1':=r1.keep kd;have hz2:=relL_val (I:=I) (w:=w.drew) (Builtin.zeroCells zv.cells (G - els.length)).toList;have hcells:=a4 (els.flatten++(Builtin.zeroCells zv.cells (G - els.length)).toList.map .val) (by simpa using r1'.append hz2);have hc2:=hcells.take els.flatten.length;rw[List.take_left] at hc2;have hlen:∀x∈els,x.length=k:=by
   have h0:=hy _ _ _ (ho.get Yl hz hg2);generalize a.eval z=u at h0;cases h0 with
   | sl0=>simp at hn
   | sl _ _ b off len cap hl hc hm he=> 
    intro x hx;obtain⟨j,hj⟩:=List.mem_iff_getElem?.1 hx;exact (he.get hj).1
  exact Runs.of_value Yk (run_appendOp h a w (by rw[hsv];exact hr)) ⟨_,a1,(Ext.trans ⟨kd.imm,kd.cell,(Below.refl _ _).drew⟩ a2),a3 _ hh.drew,.sl _ _ _ _ _ _ rfl hge hcm (els_of_cells els 0 hlen hc2)⟩
theorem Sat.ownNil{a:Act}{w:World}{d e k:Nat}(s:Sat c st a w)(hd:envGet st.env d=some (.val (.slice none 0 0))):Sat c ⟨(d,.as (.sl k []) (.slice none 0 0))::st.env,.own e k (.slice none 0 0)::st.H⟩ a w:=by
 obtain⟨I,hw,he,hh,hv⟩:=s.mem;refine⟨s.ds,s.size,I,hw,he,⟨λf hf=>?_,List.pairwise_cons.2 ⟨λf hf b hb=>by simp[Ent.foot,Value.ownBlock] at hb,hh.apart⟩⟩,Sat.put1 hv ?_⟩
 ·rcases List.mem_cons.1 hf with rfl | hf
  ·exact⟨0,[],World.ownsRow_nil _ _ _ _,λg hg=>by simp[Value.ownBlock] at hg⟩
  ·exact hh.ok f hf
 ·rw[rel_val (hv d _ hd)];exact .as _ _ (.sl0 _ _ _)
theorem CW.ownNil{p:Code}(d e k:Nat)(hd:envGet st.env d=some (.val (.slice none 0 0)))(h:CW c r P p ⟨(d,.as (.sl k []) (.slice none 0 0))::st.env,.own e k (.slice none 0 0)::st.H⟩ Q):CW c r P p st Q:=
 λa w s=>h a w (s.ownNil hd)
theorem OL.ownNil(d e k:Nat)(hd:envGet st.env d=some (.val (.slice none 0 0)))(h:OL c r P ops l ⟨(d,.as (.sl k []) (.slice none 0 0))::st.env,.own e k (.slice none 0 0)::st.H⟩ Q):OL c r P ops l st Q:=
 λa w s=>h a w (s.ownNil hd)
theorem keeps_drew{I:Imm}{w:World}:Keeps I w I w.drew:=⟨λ_ _ x=>x,λ_ _ _=>rfl⟩
theorem ext_drew{B:Nat}{I:Imm}{w:World}:Ext B I w I w.drew:=⟨λ_ _ x=>x,λ_ _ _=>rfl,(Below.refl _ _).drew⟩
theorem flatten_len{k:Nat}:∀{els:List (List AV)},(∀x∈els,x.length=k)->els.flatten.length=els.length*k
 | [],_=>by simp
 | e::els,h=>by rw[List.flatten_cons,List.length_append,flatten_len (λx hx=>h x (.tail _ hx)),h e (.head _),List.length_cons,Nat.add_mul];omega
theorem Rel.elsLen{I:Imm}{w:World}{k:Nat}{els:List (List AV)}{v:Value}(h:Rel I w (.sl k els) v):∀x∈els,x.length=k:=by
 cases h with
 | sl0=>intro x hx;cases hx
 | sl _ _ b off len cap hl hc hm he=>
  intro x hx;obtain⟨j,hj⟩:=List.mem_iff_getElem?.1 hx;exact (he.get hj).1
theorem cells_of{I:Imm}{w:World}{b:Nat}{vs:Array Value}{t:TypeId}(hb:w.heap[b]? =some (.cells vs t (0,0))):∀(ys:List AV) (zs:List Value) (o:Nat),RelL I w ys zs->(∀j u,zs[j]? =some u->vs[o+j]? =some u)->(∀j,j<ys.length->I b (o+j))->Cells I w b o ys
 | [],_,o,_,_,_=>.nil _ _
 | y::ys,_,o,.cons _ v _ zs hx ht,hz,hI=>by
  refine .cons _ _ _ v _ (by rw[cell_of_blk hb];simpa using hz 0 v rfl) (by simpa using hI 0 Yn) hx (cells_of hb ys zs (o+1) ht (λj u hu=>?_) (λj hj=>?_))
  ·have:=hz (j+1) u (by simpa using hu);have e:o+(j+1)=o+1+j:=by omega
   rwa [e] at this
  ·have:=hI (j+1) YB;have e:o+(j+1)=o+1+j:=by omega
   rwa [e] at this
theorem OL.appendOwn{s z:Operand}{t tx e k by_ k':Nat}{els news:List (List AV)}{v:Value}{y:AV}{g1 g2:Bool}{H':Value->List Ent}[hA:HasApp P t (e,k,by_)][hX:HasSl P tx k'](hgd:o.guard=none)(hd:dstOk c.n o.dst=true)
  (h:o.op= .call {callee:=.builtin .append,args:=#[s,z],argTypes:=#[t,tx]}) (hs:aev (envGet st.env) s=some (g1,.as (.sl k els) v)) (hg1:g1=true) (hz:aev (envGet st.env) z=some (g2,y)) (hg2:g2=true) (hy:AVle y (.sl k news))
  (h1:news.all allOne=true) (hu:∀v',Upd st.H (.own e k v) (.own e k v') (H' v')) (hb:(els.length+news.length)*by_<=140737488355328) (hb':els.length+news.length<=9223372036854775807)
  (next:∀v',OL c r P ops rest ⟨putEnv o.dst (.as (.sl k (els++news)) v') st.env,H' v'⟩ Q):OL c r P ops (o::rest) st Q:=by
 intro a w sat;refine wpListIn_plain hgd λK hK=>?_;obtain⟨I,hw,he,hh,hv⟩:=sat.mem;obtain⟨i,zv,hut,hi,hzz,hsz,hby,hzs,hk0⟩:=appInfo_spec hA.h;obtain⟨e',_,hu',_⟩:=slSize_spec hX.h;have hsv0:=(hv.ops o).get Yl hs hg1;obtain⟨hsv,hold⟩:a.eval s=v/\Rel I w (.sl k els) v:=by
  generalize a.eval s=u at hsv0;cases hsv0 with
  | as _ _ hx=>exact⟨rfl,hx⟩
 have hzr:=hy _ _ _ ((hv.ops o).get Yl hz hg2);obtain⟨us,r1,r2⟩:=src_of (P:=P) (tx:=tx) hu' hzr h1;rw[<-hsz] at r2;obtain⟨n,xs,hrow,hni⟩:=hh.ok _ (hu v).mem
 suffices hmain:∃v' I' w',(Builtin.append_ #[t,tx] o.type #[v,a.eval z]).run P w= .ok v' w'/\WOk c.B I' w'/\Ext c.B I w I' w'/\HeapOk c.B I' w' (H' v')/\Rel I' w' (.sl k (els++news)) v' by
  obtain⟨v',I',w',e1,e2,e3,e4,e5⟩:=hmain;refine Runs.of_value (R:=λx w''=>x=v'/\w''=w') (E:=λ_ _=>False) Yk (run_appendOp h a w (by rw[hsv];exact e1)) ⟨rfl,rfl⟩ K Q ?_ (λ_ _ h=>h.elim);rintro x w'' ⟨rfl,rfl⟩;refine hK _ _ (next x _ _ ⟨Yar,Yag,I',e2,he.trans e3,e4,?_⟩);exact (hv.keep e3.keeps).put (by rw[sat.size];exact hd) (.as _ _ e5)
 have hnl:=hzr.elsLen;have hol:=hold.elsLen;by_cases hn:news.length=0
 ·have hel:news= []:=List.eq_nil_of_length_eq_zero hn;subst hel;have hus:us= []:=by cases r1;rfl
  subst hus;obtain⟨ad,m,cp,hvv,hle⟩:∃ad m cp,v= .slice ad m cp/\m<=cp:=by
   rcases hrow.2 with⟨rfl,_⟩ | ⟨g,cap,cur,rfl,_,_,hc,_⟩
   ·exact⟨_,_,_,rfl,Nat.le_refl _⟩
   ·exact⟨_,_,_,rfl,hc⟩
  have hr:=run_append_nothing (P:=P) w t tx o.type e i hut hi ad m cp hle (a.eval z) r2;rw[<-hvv] at hr;exact⟨v,I,w,hr,hw,Ext.refl _ _ _,hh.upd (hu v) ⟨λ_ _ x=>x,λ_ _ _=>rfl⟩ (λ_ _ _=>rfl) (λ_ _ x=>.inl x) ⟨n,xs,hrow,hni⟩ (λ_ hb=>.inl hb),by simpa using hold⟩
 have grown:∀(ad:Option Addr) (m old:Nat) (olds:List Value),m=els.length->RelL I w els.flatten olds->(Builtin.firstCells i.size m (.slice ad m old)).run P w.drew= .ok olds.toArray w.drew->old<m+news.length->v= .slice ad m old->
   ∃v' I' w',(Builtin.append_ #[t,tx] o.type #[v,a.eval z]).run P w= .ok v' w'/\WOk c.B I' w'/\Ext c.B I w I' w'/\HeapOk c.B I' w' (H' v')/\Rel I' w' (.sl k (els++news)) v':=by
  intro ad m old olds hm hrel hfc hlt hveq;subst hm;have hnc:Builtin.nextslicecap (els.length+news.length) old*i.bytes<=281474976710656:=growslice_fits hlt (by rw[hby];exact hb);have hr:=run_append_grow_src (P:=P) w t tx o.type e i zv hut hi hzz ad els.length old olds hfc (a.eval z) news.length us r2 hlt Yb hnc;rw[<-hveq] at hr;generalize hG:grownCap w (els.length+news.length) old e=G at hr;have hge:els.length+news.length<=G:=by rw[<-hG];exact grownCap_ge w _ old e
  have hcm:G<=maxLen:=by rw[<-hG];exact grownCap_le_maxLen w _ old e Yy
  generalize hcur:(olds++us).toArray++Builtin.zeroCells zv.cells (G - (els.length+news.length))=cur at hr;have hlo:olds.length=els.length*k:=by rw[hrel.length,flatten_len hol]
  have hlu:us.length=news.length*k:=by rw[r1.length,flatten_len hnl]
  have hcs:cur.size=G*k:=by
   rw[<-hcur];simp only[Array.size_append,List.size_toArray,List.length_append,size_zeroCells,hzs,hlo,hlu, <-Nat.add_mul];congr 1;omega
  have hxlen:(olds++us).length=(els.length+news.length)*k:=by rw[List.length_append,hlo,hlu,Nat.add_mul]
  have htk:cur.toList.take ((els.length+news.length)*k)=olds++us:=by
   rw[<-hcur, <-hxlen,Array.toList_append];exact List.take_left
  have hwd:=hw.drew
  let I':Imm:=λb o=>I b o\/(b=w.heap.size/\o<(els.length+news.length)*k)
  have hkk:Keeps I w I' (w.drew.alloc (.cells cur e)):=⟨λ_ _ x=>.inl x,λb o x=>(keeps_alloc hwd _).cell b o x⟩;have hnew:(w.drew.alloc (.cells cur e)).heap[w.heap.size]? =some (.cells cur e (0,0)):=heap_alloc_new w.drew _;refine⟨.slice (some ⟨w.heap.size,0,none⟩) (els.length+news.length) G,I',_,hr,⟨(hwd.alloc _).base,λb o hx=>?_⟩,⟨hkk.imm,hkk.cell,(ext_drew.trans (ext_alloc hwd (.cells cur e))).below⟩,?_,?_⟩
  ·rcases hx with hx | ⟨rfl,hx⟩
   ·exact (hwd.alloc _).there b o hx
   ·have:o<cur.size:=by rw[hcs];exact Nat.lt_of_lt_of_le hx (Nat.mul_le_mul_right k hge)
    exact⟨cur[o],by rw[cell_of_blk hnew];exact Array.getElem?_eq_getElem this⟩
  ·refine hh.upd (hu _) hkk (λb hlt _=>Below.heap_alloc w.drew _ b hlt) (λb o hx=>hx.elim .inl (λhx=>.inr (.inr (by rw[hx.1];exact Nat.le_refl _)))) ?_ (λb hb=>.inr ?_)
   ·refine⟨els.length+news.length,olds++us,⟨hxlen,.inr ⟨w.heap.size,G,cur,rfl,hw.base,hnew,hge,hcm,hcs,htk⟩⟩,λg hg o ho hI=>?_⟩;simp[Value.ownBlock] at hg;subst hg;rcases hI with hI | ⟨_,hI⟩
    ·exact absurd (hw.lt hI) (Nat.lt_irrefl _)
    ·omega
   ·simp[Ent.foot,Value.ownBlock] at hb;omega
  ·refine .sl _ _ _ _ _ _ Yn hge hcm (els_of_cells _ _ (λx hx=>(List.mem_append.1 hx).elim (hol x) (hnl x)) ?_);rw[List.flatten_append];refine cells_of hnew _ (olds++us) 0 ((hrel.append r1).keep hkk) (λj u hu=>?_) (λj hj=>.inr ⟨rfl,?_⟩)
   ·rw[<-htk,List.getElem?_take] at hu;split at hu
    ·simpa using hu
    ·cases hu
   ·rw[<-List.flatten_append,flatten_len (λx hx=>(List.mem_append.1 hx).elim (hol x) (hnl x)),List.length_append] at hj;omega
 rcases hrow.2 with⟨hv0,hn0⟩ | ⟨g,cap,cur,hv1,hBg,hg,hnc,hcm,hcs,htake⟩
 ·-- from nil
  subst hv0;have hel:els= []:=by
   cases hold with
   | sl0=>rfl
  subst hel;exact grown none 0 0 [] rfl .nil (by simp[Builtin.firstCells]) YB rfl
 ·subst hv1;have hnels:n=els.length:=by cases hold with
   | sl0=>rfl
   | sl _ _ _ _ _ _ hl _ _ _=>exact hl.symm
  subst hnels;have hcells:Els I w k g 0 els:=by cases hold with
   | sl0=>exact .nil _ _ _
   | sl _ _ _ _ _ _ _ _ _ he=>exact he
  obtain⟨olds,q1,q2,q3⟩:=hcells.values;have hcl:∀j u,olds[j]? =some u->cur[j]? =some u:=λj u hu=>by
   have:=q3 j u hu;have e1:(⟨g,0,none⟩:Addr).add j=⟨g,j,none⟩:=by unfold Addr.add;split <;> simp_all
   rw[e1,cell_of_blk hg] at this;exact this
  have holds:olds=xs:=by
   rw[<-htake];apply List.ext_getElem?;intro j;rw[List.getElem?_take];by_cases hj:j<els.length*k
   ·rw[if_pos hj];have hlt:j<olds.length:=by omega
    rw[List.getElem?_eq_getElem hlt];have:=hcl j _ (List.getElem?_eq_getElem hlt);simpa using this.symm
   ·rw[if_neg hj,List.getElem?_eq_none Yb]
  by_cases hroom:els.length+news.length<=cap
  ·-- in place
   have hfit:els.length*i.size+us.length<=cur.size:=by rw[hcs,r2.newsLen,hsz, <-Nat.add_mul];exact Nat.mul_le_mul_right _ hroom
   have hlu:us.length=news.length*k:=by rw[r1.length,flatten_len hnl]
   have hst:=run_storeCells_at P g (els.length*i.size) e us 0 cur w hg (by simpa using hfit) r2.one;simp only[Nat.add_zero] at hst;have hr:(Builtin.append_ #[t,tx] o.type #[.slice (some ⟨g,0,none⟩) els.length cap,a.eval z]).run P w= .ok (.slice (some ⟨g,0,none⟩) (els.length+news.length) cap) (w.setRow g (cur.toList.take (els.length*i.size)++us++cur.toList.drop (els.length*i.size+us.length)).toArray):=by
    rcases r2.kind with⟨e'',hk⟩ | hk <;> simp[Builtin.append_,run_underlying hut,run_underlying hk,sizeOf,typeInfo,hi,r2.len,hroom,r2.cells,Addr.add_lit,hst]
   rw[hsz] at hr;generalize hcur':(cur.toList.take (els.length*k)++us++cur.toList.drop (els.length*k+us.length)).toArray=cur' at hr;have hblk:(w.setRow g cur').heap[g]? =some (.cells cur' e (0,0)):=setRow_heap w g cur cur' e (0,0) hg
   let I':Imm:=λb o=>I b o\/(b=g/\o<(els.length+news.length)*k)
   have hcs':cur'.size=cap*k:=by
    rw[<-hcur'];simp only[List.size_toArray,List.length_append,List.length_take,List.length_drop,Array.length_toList];rw[hsz] at hfit;omega
   have htk':cur'.toList.take ((els.length+news.length)*k)=xs++us:=by
    rw[<-hcur',htake];have:(els.length+news.length)*k=(xs++us).length:=by rw[List.length_append,hrow.1,hlu,Nat.add_mul]
    rw[this];exact List.take_left
   have hold':∀j,j<els.length*k->cur'[j]? =cur[j]? :=λj hj=>by
    rw[<-hcur'];have h0:j<cur.size:=by rw[hcs];exact Nat.lt_of_lt_of_le hj (Nat.mul_le_mul_right k hnc)
    simp only[List.getElem?_toArray];rw[List.append_assoc,List.getElem?_append_left YB,List.getElem?_take,if_pos hj];simp
   have hkk:Keeps I w I' (w.setRow g cur'):=⟨λ_ _ x=>.inl x,λb o x=>by
    by_cases hb:b=g
    ·subst hb;have ho:o<els.length*k:=Nat.lt_of_not_le λhle=>hni b rfl o hle x;rw[cell_of_blk hblk,cell_of_blk hg];exact hold' o ho
    ·exact World.cell?_of_block (a:=⟨b,o,none⟩) (setRow_other w g b cur' hb)⟩
   refine⟨_,I',_,hr,⟨Yax,λb o hx=>?_⟩,⟨hkk.imm,hkk.cell,⟨rfl,rfl,rfl,Yn,λj hj=>setRow_other w g j cur' Yb⟩⟩,?_,?_⟩
   ·rcases hx with hx | ⟨rfl,hx⟩
    ·rw[hkk.cell b o hx];exact hw.there b o hx
    ·have:o<cur'.size:=by rw[hcs'];exact Nat.lt_of_lt_of_le hx (Nat.mul_le_mul_right k hroom)
     exact⟨cur'[o],by rw[cell_of_blk hblk];exact Array.getElem?_eq_getElem this⟩
   ·refine hh.upd (hu _) hkk (λb hlt hne=>setRow_other w g b cur' (λe=>hne (by subst e;rfl))) (λb o hx=>hx.elim .inl (λhx=>.inr (.inl (by rw[hx.1];rfl)))) ?_ (λb hb=>.inl hb);refine⟨els.length+news.length,xs++us,⟨by rw[List.length_append,hrow.1,hlu,Nat.add_mul],.inr ⟨g,cap,cur',rfl,hBg,hblk,hroom,hcm,hcs',htk'⟩⟩,λg' hg' o ho hI=>?_⟩;simp[Value.ownBlock] at hg';subst hg';rcases hI with hI | ⟨_,hI⟩
    ·exact hni g rfl o (Nat.le_trans (Nat.mul_le_mul_right k Yb) ho) hI
    ·omega
   ·refine .sl _ _ _ _ _ _ Yn hroom hcm (els_of_cells _ _ (λx hx=>(List.mem_append.1 hx).elim (hol x) (hnl x)) ?_);rw[List.flatten_append];rw[holds] at q1;refine cells_of hblk _ (xs++us) 0 ((q1.append r1).keep hkk) (λj u hu=>?_) (λj hj=>.inr ⟨rfl,?_⟩)
    ·rw[<-htk',List.getElem?_take] at hu;split at hu
     ·simpa using hu
     ·cases hu
    ·rw[<-List.flatten_append,flatten_len (λx hx=>(List.mem_append.1 hx).elim (hol x) (hnl x)),List.length_append] at hj;omega
  ·refine grown (some ⟨g,0,none⟩) els.length cap olds rfl q1 ?_ Yb rfl;rw[hsz];exact run_firstCells_some w.drew k els.length ⟨g,0,none⟩ els.length cap olds q2 (by simpa using q3)
end
inductive ResOk(P:Program)(st:St):List ResultVar->List AV->Prop
 | nil:ResOk P st [] []
 | tmp {t:Nat} {y:AV} {rs:List ResultVar} {ys:List AV} (h:aev (envGet st.env) (.tmp t)=some (true,y)) (r:ResOk P st rs ys):ResOk P st (.tmp t::rs) (y::ys)
 | cellA {t ty b off tb n:Nat} {cs zs:List AV} {rs:List ResultVar} {ys:List AV} (hT:HasTy P ty (true,n)) (h:envGet st.env t=some (.p b off)) (hm:Ent.blk b tb cs∈st.H) (hz:(cs.drop off).take n=zs) (hn:Nat.beq zs.length n=true) (r:ResOk P st rs ys):ResOk P st (.cell t ty::rs) (.agg zs::ys)
 | cell1 {t ty b off tb n:Nat} {cs:List AV} {z:AV} {rs:List ResultVar} {ys:List AV} (hT:HasTy P ty (false,n)) (h:envGet st.env t=some (.p b off)) (hm:Ent.blk b tb cs∈st.H) (hz:cs[off]? =some z) (r:ResOk P st rs ys):ResOk P st (.cell t ty::rs) (z::ys)
 | ptrA {t ty n:Nat} {cs:List AV} {rs:List ResultVar} {ys:List AV} (hT:HasTy P ty (true,n)) (h:envGet st.env t=some (.ptr cs)) (hn:Nat.ble n cs.length=true) (r:ResOk P st rs ys):ResOk P st (.cell t ty::rs) (.agg (cs.take n)::ys)
 | ptr1 {t ty n:Nat} {cs:List AV} {z:AV} {rs:List ResultVar} {ys:List AV} (hT:HasTy P ty (false,n)) (h:envGet st.env t=some (.ptr cs)) (hz:cs[0]? =some z) (r:ResOk P st rs ys):ResOk P st (.cell t ty::rs) (z::ys)
def resStep(tmps:Array Value):ResultVar->Sem Value
 | .tmp t=>pure (tmps.getD t undef)
 | .cell a t=>do loadVar t (<-asAddr (tmps.getD a undef))
theorem ResOk.run{c:Ctx}{P:Program}{st:St}{a:Act}{w:World}{I:Imm}(hh:HeapOk c.B I w st.H)(hv:EnvOk I w (envGet st.env) a):∀{rs:List ResultVar} {ys:List AV},ResOk P st rs ys->
  ∃vs,(rs.mapM (resStep a.tmps)).run P w= .ok vs w/\RelL I w ys vs:=by
 intro rs ys h;have stepped:∀{r:ResultVar} {rs:List ResultVar} {y:AV} {ys:List AV} {v:Value},(resStep a.tmps r).run P w= .ok v w->Rel I w y v->(∃vs,(rs.mapM (resStep a.tmps)).run P w= .ok vs w/\RelL I w ys vs)->∃vs,((r::rs).mapM (resStep a.tmps)).run P w= .ok vs w/\RelL I w (y::ys) vs:=by
  rintro r rs y ys v h1 h2 ⟨vs,h3,h4⟩;exact⟨v::vs,by simp only[List.mapM_cons,Sem.run_bind,h1,h3,Result.andThen_ok,Sem.run_pure],.cons _ _ _ _ h2 h4⟩
 induction h with
 | nil=>exact⟨[],rfl,.nil⟩
 | @tmp t y rs ys h r ih=>
  refine stepped (v:=a.tmps.getD t undef) rfl ?_ ih;unfold aev at h;cases hx:aeval (envGet st.env) (.tmp t) with
  | none=>simp[hx] at h
  | some z=>simp[hx] at h;exact rel_strip (hv t z hx) h rfl
 | @cellA t ty b off tb n cs zs rs ys hT h hm hz hn r ih=>
  have h0:=rel_val (hv t _ h);obtain⟨_,vs,hb,hr,_⟩:=hh.ok _ hm;have hrel:RelL I w zs ((vs.toList.drop off).take n):=by rw[<-hz];exact (hr.drop off).take n
  have hlen:((vs.toList.drop off).take n).length=n:=by rw[hrel.length];exact Nat.eq_of_beq_eq_true hn
  have hl:=run_loadVar_agg (P:=P) hT.h b off ((vs.toList.drop off).take n) w hlen (λj v hj=>by
   rw[cell_of_blk hb];rw[List.getElem?_take] at hj;split at hj
   ·simpa using hj
   ·cases hj)
  refine stepped (v:=.agg ((vs.toList.drop off).take n).toArray) ?_ (.agg _ _ (by simpa using hrel)) ih;simp[resStep,h0,asAddr,hl]
 | @cell1 t ty b off tb n cs z rs ys hT h hm hz r ih=>
  have h0:=rel_val (hv t _ h);obtain⟨_,vs,hb,hr,_⟩:=hh.ok _ hm;obtain⟨v,h1,h2⟩:=hr.get hz;have hl:=run_loadVar_one (P:=P) hT.h b off v w (by rw[cell_of_blk hb];simpa using h1);refine stepped (v:=v) ?_ h2 ih;simp[resStep,h0,asAddr,hl]
 | @ptrA t ty n cs rs ys hT h hn r ih=>
  have h0:=hv t _ h;generalize hu:a.tmps.getD t undef=u at h0;cases h0 with
  | ptr _ b o hc=>
   obtain⟨vs,h1,h2⟩:=(hc.take n).values;have hlen:vs.length=n:=by rw[h1.length,List.length_take];exact Nat.min_eq_left (Nat.le_of_ble_eq_true hn)
   have hl:=run_loadVar_agg (P:=P) hT.h b o vs w hlen h2;refine stepped (v:=.agg vs.toArray) ?_ (.agg _ _ Y7) ih;simp only[resStep,hu,asAddr,Sem.run_bind,Sem.run_pure,Result.andThen_ok,hl]
 | @ptr1 t ty n cs z rs ys hT h hz r ih=>
  have h0:=hv t _ h;generalize hu:a.tmps.getD t undef=u at h0;cases h0 with
  | ptr _ b o hc=>
   obtain⟨v,h1,_,h2⟩:=hc.get hz;have hl:=run_loadVar_one (P:=P) hT.h b o v w Y7;refine stepped (v:=v) ?_ h2 ih;simp only[resStep,hu,asAddr,Sem.run_bind,Sem.run_pure,Result.andThen_ok,hl]
def tupOf:List AV->AV
 | [x]=>x
 | xs=>.tup xs
theorem ResOk.res{c:Ctx}{P:Program}{st:St}{a:Act}{w:World}{I:Imm}(hh:HeapOk c.B I w st.H)(hv:EnvOk I w (envGet st.env) a){fn:Func}{rs:List ResultVar}(hr:fn.results=rs.toArray){ys:List AV}(h:ResOk P st rs ys):
  ∃v,(results fn a.tmps).run P w= .ok v w/\Rel I w (tupOf ys) v:=by
 obtain⟨vs,h1,h2⟩:=h.run hh hv;have hf:(results fn a.tmps).run P w= .ok (if h:vs.length=1 then vs[0] else .tuple vs.toArray) w:=by
  unfold Go.results;rw[hr,List.mapM_toArray];simp only[Sem.run_bind,Sem.run_map];have key:∀g:ResultVar->Sem Value,(∀r,g r=resStep a.tmps r)->(rs.mapM g).run P w= .ok vs w:=λg hg=>by rw[show g=resStep a.tmps from funext hg];exact h1
  rw[key _ (λr=>by cases r <;> rfl)];simp
 refine⟨_,hf,?_⟩;cases h2 with
 | nil=>exact .tup _ _ .nil
 | cons x v xs vs hx ht=>
  cases ht with
  | nil=>simpa [tupOf] using hx
  | cons y u xs vs hy ht=>exact .tup _ _ (.cons _ _ _ _ hx (.cons _ _ _ _ hy ht))
section
variable{c:Ctx}{r:Option Nat}{P:Program}{ops:Array Oper}{l rest:List Oper}{o:Oper}{st:St}{Q:Exit->Act->World->Prop}{x:AV}
theorem Done.retR{fn:Func}{B:Nat}{I0:Imm}{w0:World}{n:Nat}{Φ:AV->List Ent->Prop}{E:AV->List Ent->Prop}{rs:List ResultVar}{ys zs:List AV}{H':List Ent}(hr:fn.results=rs.toArray)(h:ResOk P st rs ys)(hle:AVleL ys zs)
  (hH:H'.Sublist st.H) (hΦ:Φ (tupOf zs) H'):Done ⟨B,I0,w0,n,[]⟩ st .ret (bodyPost P fn (RetP B I0 w0 Φ E)):=by
 intro a w s;obtain⟨I,hw,he,hh,hv⟩:=s.mem;obtain⟨v,h1,h2⟩:=h.res (c:=⟨B,I0,w0,n,[]⟩) hh hv hr;refine⟨s.ds,v,h1,I,H',hw,he,hh.sub hH,.inl ⟨v,_,rfl,?_,hΦ⟩⟩;revert h2;cases hle with
 | nil=>exact id
 | cons hx ht=>
  cases ht with
  | nil=>exact hx _ _ _
  | cons hy ht=>exact AVle.tup (.cons hx (.cons hy ht)) _ _ _
theorem Done.norR{fn:Func}{B:Nat}{I0:Imm}{w0:World}{n:Nat}{Φ:AV->List Ent->Prop}{E:AV->List Ent->Prop}{rs:List ResultVar}{ys zs:List AV}{H':List Ent}(hr:fn.results=rs.toArray)(h:ResOk P st rs ys)(hle:AVleL ys zs)
  (hH:H'.Sublist st.H) (hΦ:Φ (tupOf zs) H'):Done ⟨B,I0,w0,n,[]⟩ st .normal (bodyPost P fn (RetP B I0 w0 Φ E)):=
 λa w s=>Done.retR hr h hle hH hΦ a w s
def FCall(P:Program)(v:Value)(vs:List Value)(w:World)(R:Ending->World->Prop):Prop:=
 (∃f vf vc,v= .func (.func f) vf vc/\fnOk P f=true/\Calls P f (vf++vs.toArray++vc) w R)\/
 (∃l,v= .func (.yield l) #[] #[]/\YieldAt (FW none) 0 P l vs.toArray w R)
def VCall(B:Nat)(P:Program)(g:AV)(xs:List AV)(H:List Ent)(Φ:AV->List Ent->Prop)(E:AV->List Ent->Prop):Prop:=
 ∀(I:Imm) (w:World) (v:Value) (vs:List Value),WOk B I w->HeapOk B I w H->Rel I w g v->RelL I w xs vs->FCall P v vs w (RetP B I w Φ E)
theorem VCall.fn{B:Nat}{f:FuncId}{fs xs cs:List AV}{H:List Ent}{Φ:AV->List Ent->Prop}{E:AV->List Ent->Prop}(h:ACall P f (fs++xs++cs) H Φ E):VCall B P (.fn (.func f) fs cs) xs H Φ E:=by
 intro I w v vs hw hh hv hvs;cases hv with
 | fn _ _ _ vf vc hf hc=>
  refine .inl ⟨f,vf,vc,rfl,h.1,?_⟩;have:=h.2 B I w (vf.toList++vs++vc.toList) hw hh ((hf.append hvs).append hc);have e:(vf.toList++vs++vc.toList).toArray=vf++vs.toArray++vc:=by apply Array.ext';simp
  rwa [e] at this
def BCall(B:Nat)(P:Program)(f:FuncId)(xs:List AV)(H:List Ent)(Φ:AV->List Ent->Prop)(E:AV->List Ent->Prop):Prop:=
 fnOk P f=true/\∀(I:Imm) (w:World) (vs:List Value),WOk B I w->HeapOk B I w H->RelL I w xs vs->Calls P f vs.toArray w (RetP B I w Φ E)
theorem ACall.b{B:Nat}{f:FuncId}{xs:List AV}{H:List Ent}{Φ:AV->List Ent->Prop}{E:AV->List Ent->Prop}(h:ACall P f xs H Φ E):BCall B P f xs H Φ E:=⟨h.1,h.2 B⟩
theorem VCall.fnB{B:Nat}{f:FuncId}{fs xs cs:List AV}{H:List Ent}{Φ:AV->List Ent->Prop}{E:AV->List Ent->Prop}(h:BCall B P f (fs++xs++cs) H Φ E):VCall B P (.fn (.func f) fs cs) xs H Φ E:=by
 intro I w v vs hw hh hv hvs;cases hv with
 | fn _ _ _ vf vc hf hc=>
  refine .inl ⟨f,vf,vc,rfl,h.1,?_⟩;have:=h.2 I w (vf.toList++vs++vc.toList) hw hh ((hf.append hvs).append hc);have e:(vf.toList++vs++vc.toList).toArray=vf++vs.toArray++vc:=by apply Array.ext';simp
  rwa [e] at this
theorem VCall.bcall{B:Nat}{f:FuncId}{xs:List AV}{H:List Ent}{Φ:AV->List Ent->Prop}{E:AV->List Ent->Prop}(hok:fnOk P f=true)(h:VCall B P (.fn (.func f) [] []) xs H Φ E):BCall B P f xs H Φ E:=by
 refine⟨hok,λI w vs hw hh hvs=>?_⟩;rcases h I w (.func (.func f) #[] #[]) vs hw hh (.fn _ _ _ _ _ .nil .nil) hvs with⟨f',vf,vc,e,_,hc⟩ | ⟨l,e,_⟩
 ·simp only[Value.func.injEq,Fn.func.injEq] at e;obtain⟨rfl,rfl,rfl⟩:=e;simpa using hc
 ·simp at e
theorem BCall.of{B:Nat}{f:FuncId}{fn:Func}{code:Code}{xs:List AV}{H:List Ent}{Φ:AV->List Ent->Prop}{E:AV->List Ent->Prop}{n:Nat}(hf:P.funcs[f]? =some fn)(hb:fn.body=some code)(hnm:(fn.name== "runtime.NumGoroutine")=false)
  (hn:fn.ntmps=n) (hl:Nat.ble xs.length n=true) (h:∀I w,CW ⟨B,I,w,n,[]⟩ none P code ⟨envOf 0 xs,H⟩ (bodyPost P fn (RetP B I w Φ E))):BCall B P f xs H Φ E:=by
 refine⟨by simp[fnOk,hf,hb,hnm],λI w vs hw hh hv=>calls_of_FW (n:=0) (callsIn_of_wp hf hb trivial ?_ rfl)⟩;refine h I w _ w ⟨rfl,?_,I,hw,Ext.refl _ _ _,hh,λt y hy=>?_⟩
 ·have:=hv.length;have:=Nat.le_of_ble_eq_true hl;simp;omega
 ·obtain⟨v,h1,h2⟩:=hv.get Yaq;have:(vs.toArray++Array.replicate (fn.ntmps - vs.toArray.size) undef).getD t undef=v:=by
   have hlt:=(List.getElem?_eq_some_iff.1 h1).1;simp only[Array.getD_eq_getD_getElem?];rw[Array.getElem?_append_left (by simpa using hlt)];simp[h1]
  rw[this];exact h2
theorem run_callYield{x:Operand}{args:Array Operand}{ts:Array TypeId}{l:Nat}(h:o.op= .call {callee:=.value x,args:=args,argTypes:=ts})(a:Act)(w:World)
  (hx:a.eval x= .func (.yield l) #[] #[]) {fn:FuncId} {tmps:Array Value} {assign body:Code} (hy:(Instr.yield l (args.map a.eval)).run P w= .ok (.round l fn tmps assign body) w):
  (execOp a.eval o).run P w= .ok (.round l fn tmps assign body) w:=by
 simp[execOp,h,resolve,hx,Deferred.ofValue,invoke,hy]
theorem OL.vcall{x:Operand}{args:Array Operand}{ts:Array TypeId}{gv:AV}{ys:List (Bool×AV)}{xs:List AV}{g:Bool}{Φ:AV->List Ent->Prop}{E:AV->List Ent->Prop}(hgd:o.guard=none)(hd:dstOk c.n o.dst=true)
  (h:o.op= .call {callee:=.value x,args:=args,argTypes:=ts}) (hx:aev (envGet st.env) x=some (g,gv)) (hg:g=true) (ha:aevs (envGet st.env) args.toList=some ys) (hys:ys.all (·.1)=true) (hle:AVleL (ys.map (·.2)) xs)
  (hv:VCall c.B P gv xs st.H Φ E) (next:∀y H',Φ y H'->OL c r P ops rest ⟨putEnv o.dst y st.env,H'⟩ Q)
  (pan:∀y H',E y H'->∀a w,Sat c ⟨st.env,H'⟩ a w->∀I v,Rel I w y v->Q (.panic [{v,recovered:=false}]) a w):OL c r P ops (o::rest) st Q:=by
 intro a w s;refine wpListIn_plain hgd λK hK=>?_;obtain⟨I,hw,he,hh,henv⟩:=s.mem;have h1:=(henv.ops o).get Yl hx hg;have h2:=hle.rel (aevs_rel (henv.ops o) args.toList ys (λz hz=>by simp[h,Op.operands,Call.operands];right;simpa using hz) ha (by simpa using hys));have key:Runs P r o a w (λv w'=>∃I' H' x,WOk c.B I' w'/\Ext c.B I w I' w'/\HeapOk c.B I' w' H'/\Rel I' w' x v/\Φ x H')
  (λch w'=>∃I' H' v x,WOk c.B I' w'/\Ext c.B I w I' w'/\HeapOk c.B I' w' H'/\ch= [{v,recovered:=false}]/\Rel I' w' x v/\E x H'):=by
  have conv:∀e w',RetP c.B I w Φ E e w'->match e with
    | .returned v=>∃I' H' x,WOk c.B I' w'/\Ext c.B I w I' w'/\HeapOk c.B I' w' H'/\Rel I' w' x v/\Φ x H'
    | .panicked ch=>∃I' H' v x,WOk c.B I' w'/\Ext c.B I w I' w'/\HeapOk c.B I' w' H'/\ch= [{v,recovered:=false}]/\Rel I' w' x v/\E x H'
    | .outgrown=>False:=by
   rintro e w' ⟨I',H',hw',he',hh',⟨v,x,rfl,hx,hΦ⟩ | ⟨v,x,rfl,hx,hE⟩⟩
   ·exact⟨I',H',x,hw',he',hh',hx,hΦ⟩
   ·exact⟨I',H',v,x,hw',he',hh',rfl,hx,hE⟩
  rcases hv I w _ _ hw hh h1 h2 with⟨f,vf,vc,e1,hok,hcall⟩ | ⟨l,e1,fn,tmps,assign,body,hy,hR⟩
  ·refine Runs.of_enter Yk (run_call h hok a w e1) (by
    have e2:(args.toList.map a.eval).toArray=args.map a.eval:=by apply Array.ext';simp
    rw[e2] at hcall;exact hcall.mono conv)
  ·have e2:(args.toList.map a.eval).toArray=args.map a.eval:=by apply Array.ext';simp
   rw[e2] at hy;exact Runs.of_round Yk (run_callYield h a w e1 hy) (hR.mono conv)
 refine key K Q ?_ ?_
 ·rintro v w' ⟨I',H',x,hw',he',hh',hx,hΦ⟩;refine hK _ _ (next x H' hΦ _ _ ⟨YE,YA,I',hw',he.trans he',hh',?_⟩);exact (henv.keep he'.keeps).put YZ hx
 ·rintro ch w' ⟨I',H',v,x,hw',he',hh',rfl,hx,hE⟩;exact pan x H' hE a w' ⟨s.ds,s.size,I',hw',he.trans he',hh',henv.keep he'.keeps⟩ I' v hx
theorem HeapOk.perm{B:Nat}{I:Imm}{w:World}{H H':List Ent}(h:HeapOk B I w H)(hp:H.Perm H'):HeapOk B I w H':=
 ⟨λe he=>h.ok e (hp.mem_iff.2 he),(hp.pairwise_iff (λ{x y} hxy b hb hx=>hxy b hx hb)).1 h.apart⟩
theorem Sat.perm{a:Act}{w:World}{H':List Ent}(s:Sat c st a w)(hp:st.H.Perm H'):Sat c ⟨st.env,H'⟩ a w:=
 ⟨s.ds,s.size,let ⟨I,hw,hx,hh,hv⟩:=s.mem;⟨I,hw,hx,hh.perm hp,hv⟩⟩
theorem OL.perm{H':List Ent}(hp:st.H.Perm H')(h:OL c r P ops l ⟨st.env,H'⟩ Q):OL c r P ops l st Q:=λa w s=>h a w (s.perm hp)
theorem CW.perm{p:Code}{H':List Ent}(hp:st.H.Perm H')(h:CW c r P p ⟨st.env,H'⟩ Q):CW c r P p st Q:=λa w s=>h a w (s.perm hp)
theorem Done.perm{e:Exit}{H':List Ent}(hp:st.H.Perm H')(h:Done c ⟨st.env,H'⟩ e Q):Done c st e Q:=λa w s=>h a w (s.perm hp)
theorem OL.eqH{H':List Ent}(hp:st.H=H')(h:OL c r P ops l ⟨st.env,H'⟩ Q):OL c r P ops l st Q:=λa w s=>h a w (hp▸s)
end
def CbOk{α:Type}(B:Nat)(P:Program)(g:AV)(enc:α->AV)(L:List α)(F:List Ent->Prop)(J Jx:List α->List Ent->Prop):Prop:=
 ∀pre x H Hx,pre++[x]<+:L->F Hx->J pre H->VCall B P g [enc x] (H++Hx) (λy H'=>∃b H1,y= .b b/\H'=H1++Hx/\(b=true->J (pre++[x]) H1)/\(b=false->Jx (pre++[x]) H1)) (λ_ _=>False)
def SeqOk{α:Type}(B:Nat)(P:Program)(gv:AV)(enc:α->AV)(L:List α):Prop:=
 ∀(J Jx:List α->List Ent->Prop) (f:Fn) (fs cs:List AV),CbOk B P (.fn f fs cs) enc L (λ_=>True) J Jx->∀H Hx,J [] H->
  VCall B P gv [.fn f fs cs] (H++Hx) (λ_ H'=>∃H1,H'=H1++Hx/\(J L H1\/∃pre,pre<+:L/\Jx pre H1)) (λ_ _=>False)
theorem HeapOk.newObj{B:Nat}{I:Imm}{w:World}{H:List Ent}(h:HeapOk B I w H)(hw:WOk B I w)(o:Obj):HeapOk B I (w.alloc o) (.obj w.heap.size o::H):=by
 have h':=h.alloc hw o;refine⟨λe he=>?_,List.pairwise_cons.2 ⟨λf hf b hb=>?_,h'.apart⟩⟩
 ·rcases List.mem_cons.1 he with rfl | he
  ·exact⟨hw.base,World.alloc_heap_new w o,λo' ho=>absurd (hw.lt ho) (Nat.lt_irrefl _)⟩
  ·exact h'.ok e he
 ·simp[Ent.foot] at hb;subst hb;intro e;exact absurd (Ent.foot_lt (h.ok f hf) e).2 (Nat.lt_irrefl _)
theorem putObj_keeps{B:Nat}{I:Imm}{w:World}{b:Nat}{o':Obj}(hni:∀o,¬I b o):Keeps I w I (w.putObj b o'):=
 ⟨λ_ _ x=>x,λb' o x=>World.cell?_of_block (a:=⟨b',o,none⟩) (World.putObj_heap_other (λe=>hni o (e▸x)))⟩
theorem WOk.putObj{B:Nat}{I:Imm}{w:World}(h:WOk B I w){b:Nat}{o':Obj}(hni:∀o,¬I b o):WOk B I (w.putObj b o'):=
 ⟨by simpa using h.base,λb' o x=>by rw[(putObj_keeps (B:=B) (o':=o') hni).cell b' o x];exact h.there b' o x⟩
theorem below_putObj{B b:Nat}{w:World}{o:Obj}(h:B<=b):Below B w (w.putObj b o):=
 ⟨rfl,rfl,rfl,Yn,λj hj=>World.putObj_heap_other Yb⟩
theorem HeapOk.putLoop{B:Nat}{I:Imm}{w:World}{H H':List Ent}{b:Nat}{lp lp':Loop}{ρ:Nat->Option AV}(h:HeapOk B I w H)(hu:Upd H (.loop b lp ρ) (.loop b lp' ρ) H')(ht:lp'.tmps=lp.tmps):HeapOk B I (w.putObj b (.loop lp')) H':=by
 obtain⟨hB,hb,hv,hni⟩:=h.ok _ hu.mem;refine h.upd hu (putObj_keeps (B:=B) hni) (λk hk hne=>World.putObj_heap_other (λe=>hne (by rw[e];rfl))) (λ_ _ x=>.inl x) ⟨hB,World.putObj_heap_same (Array.getElem?_eq_some_iff.1 hb).1,λt x hx=>?_,hni⟩ (λk hk=>.inl hk);rw[ht];exact (hv t x hx).keep (putObj_keeps (B:=B) hni)
theorem HeapOk.newLoop{B:Nat}{I:Imm}{w:World}{H:List Ent}(h:HeapOk B I w H)(hw:WOk B I w)(lp:Loop)(ρ:Nat->Option AV)(hρ:∀t x,ρ t=some x->Rel I w x (lp.tmps.getD t undef)):HeapOk B I (w.alloc (.loop lp)) (.loop w.heap.size lp ρ::H):=by
 have h':=h.alloc hw (.loop lp);refine⟨λe he=>?_,List.pairwise_cons.2 ⟨λf hf b hb=>?_,h'.apart⟩⟩
 ·rcases List.mem_cons.1 he with rfl | he
  ·exact⟨hw.base,World.alloc_heap_new w _,λt x hx=>(hρ t x hx).keep (keeps_alloc hw _),λo' ho=>absurd (hw.lt ho) (Nat.lt_irrefl _)⟩
  ·exact h'.ok e he
 ·simp[Ent.foot] at hb;subst hb;intro e;exact absurd (Ent.foot_lt (h.ok f hf) e).2 (Nat.lt_irrefl _)
theorem Ext.putObj{B:Nat}{I:Imm}{w:World}{b:Nat}{o':Obj}(hB:B<=b)(hni:∀o,¬I b o):Ext B I w I (w.putObj b o'):=
 ⟨λ_ _ x=>x,(putObj_keeps (B:=B) hni).cell,below_putObj hB⟩
def roundEnd{α:Type}(B:Nat)(I0:Imm)(w0:World)(l D:Nat)(lp:Loop)(ρ:Nat->Option AV)(J:List α->List Ent->Prop)(Jx:Code->List α->List Ent->Prop)(pre:List α)(Hx:List Ent):Exit->Act->World->Prop:=λe _ w=>
 ∃I H,WOk B I w/\Ext B I0 w0 I w/\HeapOk B I w (.loop l lp ρ::.obj D (.deferred (some []))::(H++Hx))/\
  match e with
  | .normal=>J pre H
  | .ret=>Jx .ret pre H
  | .exit id=>Jx (.exit id) pre H
  | _=>False
def FindOk{α:Type}(B:Nat)(P:Program)(g:AV)(enc:α->AV)(L:List α)(F:List Ent->Prop)(J Jx:List α->List Ent->Prop):Prop:=
 ∀pre x H Hx,pre++[x]<+:L->F Hx->J pre H->VCall B P g [enc x] (H++Hx) (λy H'=>∃b H1,y= .b b/\H'=H1++Hx/\(b=false->J (pre++[x]) H1)/\(b=true->Jx (pre++[x]) H1)) (λ_ _=>False)
def PredOn{α:Type}(P:Program)(Hm:List Ent)(g:AV)(enc:α->AV)(l:List α)(p:α->Bool):Prop:=∀x∈l,∀B H,(∀e∈Hm,e∈H)->VCall B P g [enc x] H (λy H'=>y= .b (p x)/\H'=H) (λ_ _=>False)
def PredOk{α:Type}(P:Program)(g:AV)(enc:α->AV)(p:α->Bool):Prop:=∀B x H,VCall B P g [enc x] H (λy H'=>y= .b (p x)/\H'=H) (λ_ _=>False)
theorem PredOk.on{α:Type}{P:Program}{g:AV}{enc:α->AV}{p:α->Bool}(h:PredOk P g enc p)(l:List α):PredOn P [] g enc l p:=λx _ B H _=>h B x H
theorem PredOn.find{α:Type}{B:Nat}{P:Program}{Hm:List Ent}{g:AV}{enc:α->AV}{l:List α}{p:α->Bool}(h:PredOn P Hm g enc l p):FindOk B P g enc l (λHx=>∀e∈Hm,e∈Hx) (λpre H=>H= []/\∀x∈pre,p x=false) (λpre H=>H= []/\∃q x,pre=q++[x]/\(∀y∈q,p y=false)/\p x=true):=by
 rintro pre x H Hx hpx hF ⟨rfl,hp⟩ I w v vs hw hh hv hvs;have:=h x (hpx.subset Yn) B Hx hF I w v vs hw hh hv hvs;have conv:∀e w',RetP B I w (λy H'=>y= .b (p x)/\H'=Hx) (λ_ _=>False) e w'->RetP B I w (λy H'=>∃b H1,y= .b b/\H'=H1++Hx/\(b=false->H1= []/\∀y∈pre++[x],p y=false)/\(b=true->H1= []/\∃q z,pre++[x]=q++[z]/\(∀y∈q,p y=false)/\p z=true)) (λ_ _=>False) e w':=by
  rintro e w' ⟨I',H',a,b,d,hr⟩;refine⟨I',H',a,b,d,hr.elim (λ⟨v,y,e1,e2,e3,e4⟩=>.inl ⟨v,y,e1,e2,p x,[],e3,by simp[e4],λhb=>⟨rfl,λy hy=>?_⟩,λhb=>⟨rfl,pre,x,rfl,hp,hb⟩⟩) (λ⟨_,_,_,_,h⟩=>h.elim)⟩;rcases List.mem_append.1 hy with hy | hy
  ·exact hp y hy
  ·simp at hy;subst hy;exact hb
 exact this.elim (λ⟨f,vf,vc,e,hok,hc⟩=>.inl ⟨f,vf,vc,e,hok,hc.mono conv⟩) (λ⟨l,e,hy⟩=>.inr ⟨l,e,hy.mono conv⟩)
section
variable{c:Ctx}{r:Option Nat}{P:Program}{ops:Array Oper}{rest:List Oper}{o:Oper}{st:St}{Q:Exit->Act->World->Prop}{x:AV}
theorem Done.roundN{α:Type}{B:Nat}{I0:Imm}{w0:World}{n l D:Nat}{lp:Loop}{ρ:Nat->Option AV}{J:List α->List Ent->Prop}{Jx:Code->List α->List Ent->Prop}{pre:List α}{H Hx:List Ent}{ds:List Deferred}
  (hH:(.loop l lp ρ::.obj D (.deferred (some []))::(H++Hx)).Sublist st.H) (hJ:J pre H):Done ⟨B,I0,w0,n,ds⟩ st .normal (roundEnd B I0 w0 l D lp ρ J Jx pre Hx):=λa w s=>
 let ⟨I,hw,he,hh,hv⟩:=s.mem;⟨I,H,hw,he,hh.sub hH,hJ⟩
theorem VCall.perm{B:Nat}{g:AV}{xs:List AV}{H H':List Ent}{Φ:AV->List Ent->Prop}{E:AV->List Ent->Prop}(h:VCall B P g xs H Φ E)(hp:H'.Perm H):VCall B P g xs H' Φ E:=
 λI w v vs hw hh hv hvs=>h I w v vs hw (hh.perm hp) hv hvs
theorem RetP.mono{B:Nat}{I:Imm}{w:World}{Φ Φ':AV->List Ent->Prop}{E E':AV->List Ent->Prop}{e:Ending}{w':World}(h:RetP B I w Φ E e w')(h1:∀y H,Φ y H->Φ' y H)(h2:∀y H,E y H->E' y H):RetP B I w Φ' E' e w':=by
 obtain⟨I',H',a,b,d,hr⟩:=h;exact⟨I',H',a,b,d,hr.elim (λ⟨v,x,e1,e2,e3⟩=>.inl ⟨v,x,e1,e2,h1 _ _ e3⟩) (λ⟨v,x,e1,e2,e3⟩=>.inr ⟨v,x,e1,e2,h2 _ _ e3⟩)⟩
theorem FCall.mono{v:Value}{vs:List Value}{w:World}{R R':Ending->World->Prop}(h:FCall P v vs w R)(hr:∀e w,R e w->R' e w):FCall P v vs w R':=
 h.elim (λ⟨f,vf,vc,e,hok,hc⟩=>.inl ⟨f,vf,vc,e,hok,hc.mono hr⟩) (λ⟨l,e,hy⟩=>.inr ⟨l,e,hy.mono hr⟩)
theorem VCall.mono{B:Nat}{g:AV}{xs:List AV}{H:List Ent}{Φ Φ':AV->List Ent->Prop}{E E':AV->List Ent->Prop}(h:VCall B P g xs H Φ E)(h1:∀y H,Φ y H->Φ' y H)(h2:∀y H,E y H->E' y H):VCall B P g xs H Φ' E':=
 λI w v vs hw hh hv hvs=>(h I w v vs hw hh hv hvs).mono λ_ _ hr=>hr.mono h1 h2
theorem envGet_zip{I:Imm}{w:World}{env:List (Nat×AV)}{a:Act}{p:Nat}{v:Value}{y:AV}(h:EnvOk I w (envGet env) a)(hp:p<a.tmps.size)(hy:Rel I w y v)(ds:List Deferred):EnvOk I w (envGet ((p,y)::env)) {tmps:=a.tmps.setIfInBounds p v,defers:=ds}:=by
 intro t z hz;rw[envGet_cons] at hz;show Rel I w z ((a.tmps.setIfInBounds p v).getD t undef);split at hz
 ·rename_i e;subst e;simp at hz;subst hz;simp[Array.getD,hp];exact hy
 ·rename_i e;have:=h t z hz;simp only[Array.getD_eq_getD_getElem?] at this ⊢;rwa [Array.getElem?_setIfInBounds_ne (Ne.symm e)]
def CbOkB{α:Type}(B:Nat)(P:Program)(g:AV)(enc:Nat->α->AV)(own:Nat->α->List Ent)(L:List α)(J Jx:List α->List Ent->Prop):Prop:=
 ∀b pre x H Hx,pre++[x]<+:L->J pre H->VCall B P g [enc b x] (H++(own b x++Hx)) (λy H'=>∃r H1,y= .b r/\H'=H1++(own b x++Hx)/\(r=true->J (pre++[x]) H1)/\(r=false->Jx (pre++[x]) H1)) (λ_ _=>False)
def SeqB{α:Type}(B:Nat)(P:Program)(gv:AV)(enc:Nat->α->AV)(own:Nat->α->List Ent)(L:List α):Prop:=
 ∀(J Jx:List α->List Ent->Prop) (f:Fn) (fs cs:List AV),CbOkB B P (.fn f fs cs) enc own L J Jx->∀H Hx,J [] H->
  VCall B P gv [.fn f fs cs] (H++Hx) (λ_ H'=>∃H1,H'=H1++Hx/\(J L H1\/∃pre,pre<+:L/\Jx pre H1)) (λ_ _=>False)
theorem CW.rangeFuncB{α:Type}{t p:Nat}{assign body:Code}{f:FuncId}{caps:List AV}(enc:Nat->α->AV)(own:Nat->α->List Ent)(L:List α)(J:List α->List Ent->Prop)(Jx:Code->List α->List Ent->Prop)(H Hx:List Ent)(env':Nat->α->List (Nat×AV))
  (hr:r=none) (hH:st.H=H++Hx) (hg:envGet st.env t=some (.fn (.func f) [] caps)) (hp:Nat.blt p c.n=true) (hseq:SeqB c.B P (.fn (.func f) [] caps) enc own L) (hJ:J [] H)
  (assignOk:∀(l:Nat) (I:Imm) (w:World) (k:Nat) (x:α) (Hy:List Ent),CW ⟨c.B,I,w,c.n,[]⟩ (some l) P assign ⟨(p,enc k x)::st.env,Hy⟩ (Exit.then (λa w'=>∃st',st'=(⟨env' k x,Hy⟩:St)/\Sat ⟨c.B,I,w,c.n,[]⟩ st' a w') (λ_ _ _=>False)))
  (round:∀(l D:Nat) (lp:Loop) (pre:List α) (k:Nat) (x:α) (H1 Hy:List Ent) (I:Imm) (w:World),pre++[x]<+:L->J pre H1->
   CW ⟨c.B,I,w,c.n,[]⟩ (some l) P body ⟨env' k x,.loop l lp (envGet st.env)::.obj D (.deferred (some []))::(H1++(own k x++Hy))⟩ (roundEnd c.B I w l D lp (envGet st.env) J Jx (pre++[x]) (own k x++Hy)))
  (done:∀(D:Nat) (H1:List Ent),J L H1->Done ⟨c.B,c.I0,c.w0,c.n,{target:=.collected D,args:=#[]}::c.ds⟩ ⟨st.env,.obj D (.deferred (some []))::(H1++Hx)⟩ .normal Q)
  (jump:∀(D:Nat) (code:Code) (pre:List α) (H1:List Ent),pre<+:L->Jx code pre H1->CW ⟨c.B,c.I0,c.w0,c.n,{target:=.collected D,args:=#[]}::c.ds⟩ r P code ⟨st.env,.obj D (.deferred (some []))::(H1++Hx)⟩ Q):
  CW c r P (.rangeFunc (.tmp t) #[p] assign body) st Q:=by
 intro a w s;subst hr;obtain⟨I,hw,he,hh,hv⟩:=s.mem;rw[hH] at hh;refine wpIn_rangeFunc λfn hfn=>?_;obtain⟨lr,hlr⟩:∃lr:Loop,lr={state:=.ready,pending:=none,fn,tmps:=a.tmps,params:=#[p],assign,body,defers:=w.heap.size}:=⟨_,rfl⟩;have hgv:=hv t _ hg;generalize hu:a.tmps.getD t undef=u at hgv;cases hgv with
 | fn _ _ _ vf vc hf hc=>
 have hvf:vf= #[]:=by cases vf with | mk l=>cases hf;rfl
 subst hvf;have hh1:=hh.newObj hw (.deferred (some []));have hw1:=hw.alloc (.deferred (some []));have hv1:=hv.keep (keeps_alloc hw (.deferred (some [])));have hh2:=hh1.newLoop hw1 lr (envGet st.env) (by rw[hlr];exact hv1);have hw2:=hw1.alloc (.loop lr);rw[World.size_alloc] at hh2;have k2:Ext c.B I w I ((w.alloc (.deferred (some []))).alloc (.loop lr)):=(ext_alloc hw _).trans (ext_alloc hw1 _)
 let J':List α->List Ent->Prop:=λpre Hf=>∃H1,J pre H1/\Hf= .loop (w.heap.size+1) lr (envGet st.env)::.obj w.heap.size (.deferred (some []))::(H1++Hx)
 let Jx':List α->List Ent->Prop:=λpre Hf=>∃code H1,Jx code pre H1/\Hf= .loop (w.heap.size+1) {lr with state:=.done,pending:=some code} (envGet st.env)::.obj w.heap.size (.deferred (some []))::(H1++Hx)
 have hsz:a.tmps.size=c.n:=s.size;have hpn:p<c.n:=Nat.lt_of_succ_le (by simpa [Nat.blt] using hp);have hcb:CbOkB c.B P (.fn (.yield (w.heap.size+1)) [] []) enc own L J' Jx':=by
  rintro k pre x Hf Hy hpx ⟨H1,hJ1,rfl⟩ I2 W v vs hwW hhW hvW hvs;obtain rfl:v= .func (.yield (w.heap.size+1)) #[] #[]:=by
   cases hvW with
   | fn _ _ _ vf vc hf hc=>
    cases vf with
    | mk lf=>cases vc with
     | mk lc=>cases hf;cases hc;rfl
  cases hvs with
  | cons _ v1 _ vs' hx1 ht=>
  cases ht;obtain⟨hBl,hbl,hρ,hnil⟩:=hhW.ok (.loop (w.heap.size+1) lr (envGet st.env)) Yn;have hy:=run_yield (P:=P) (args:=#[v1]) hbl (by rw[hlr];rfl);refine .inr ⟨_,rfl,fn,a.tmps.setIfInBounds p v1,assign,body,?_,?_⟩
  ·rw[hlr] at hy;simpa using hy
  ·refine roundIn_of_wpIn (F:=FW none) (n:=0) trivial ?_;have hhW':HeapOk c.B I2 W (.loop (w.heap.size+1) lr (envGet st.env)::.obj w.heap.size (.deferred (some []))::(H1++(own k x++(Hx++Hy)))):=
    hhW.perm YU
   have hst:Sat ⟨c.B,I2,W,c.n,[]⟩ ⟨(p,enc k x)::st.env,.loop (w.heap.size+1) lr (envGet st.env)::.obj w.heap.size (.deferred (some []))::(H1++(own k x++(Hx++Hy)))⟩ {tmps:=a.tmps.setIfInBounds p v1,defers:=[]} W:=by
    refine⟨rfl,by simpa using hsz,I2,hwW,Ext.refl _ _ _,hhW',?_⟩;refine envGet_zip (a:=a) (λt y hty=>?_) (by rw[hsz];exact hpn) hx1 [];have:=hρ t y hty;rw[hlr] at this;exact this
   refine wpIn_mono (assignOk (w.heap.size+1) I2 W k x _ _ W hst) λe a3 W3 hp3=>?_;cases e with
   | normal=>
    obtain⟨st',rfl,s3⟩:=hp3;obtain⟨I3,hw3,he3,hh3,hv3⟩:=s3.mem;obtain⟨hBl3,hbl3,_,hni3⟩:=hh3.ok _ (.head _);refine⟨_,run_beginRound hbl3 (by rw[hlr]),?_⟩;have hh4:=hh3.putLoop (lp':={lr with state:=.busy}) (.head _ _ _) rfl;have he4:Ext c.B I3 W3 I3 (W3.putObj (w.heap.size+1) (.loop {lr with state:=.busy})):=Ext.putObj hBl3 hni3;have s4:Sat ⟨c.B,I2,W,c.n,[]⟩ ⟨env' k x,.loop (w.heap.size+1) {lr with state:=.busy} (envGet st.env)::.obj w.heap.size (.deferred (some []))::(H1++(own k x++(Hx++Hy)))⟩ a3 (W3.putObj (w.heap.size+1) (.loop {lr with state:=.busy})):=
     ⟨s3.ds,s3.size,I3,hw3.putObj hni3,he3.trans he4,hh4,hv3.keep he4.keeps⟩
    refine wpIn_mono (round _ _ _ pre k x H1 (Hx++Hy) I2 W hpx hJ1 a3 _ s4) λe a5 W5 hp5=>?_;obtain⟨I5,H5,hw5,he5,hh5,hcase⟩:=hp5;obtain⟨hBl5,hbl5,_,hni5⟩:=hh5.ok _ (.head _);have fin:∀jp:Option Code,(Instr.endRound (w.heap.size+1) jp).run P W5= .ok (.bool jp.isNone) (W5.putObj (w.heap.size+1) (.loop {lr with state:=if jp.isNone then .ready else .done,pending:=jp}))/\
      ∀(b:Bool) (Hn:List Ent),b=jp.isNone->Hn= .loop (w.heap.size+1) {lr with state:=if jp.isNone then .ready else .done,pending:=jp} (envGet st.env)::.obj w.heap.size (.deferred (some []))::(H5++Hx)->(b=true->J' (pre++[x]) Hn)->(b=false->Jx' (pre++[x]) Hn)->
       RetP c.B I2 W (λy H'=>∃b H1,y= .b b/\H'=H1++(own k x++Hy)/\(b=true->J' (pre++[x]) H1)/\(b=false->Jx' (pre++[x]) H1)) (λ_ _=>False) (.returned (.bool jp.isNone)) (W5.putObj (w.heap.size+1) (.loop {lr with state:=if jp.isNone then .ready else .done,pending:=jp})):=by
     intro jp;refine⟨by have h9:=run_endRound (P:=P) jp hbl5;exact h9,λb Hn hb hHn h1 h2=>?_⟩;have hh6:=hh5.putLoop (lp':={lr with state:=if jp.isNone then .ready else .done,pending:=jp}) (.head _ _ _) rfl;refine⟨I5,Hn++(own k x++Hy),hw5.putObj hni5,he5.trans (Ext.putObj hBl5 hni5),?_,.inl ⟨_,.b b,rfl,by rw[hb];exact .val _,b,Hn,rfl,rfl,h1,h2⟩⟩;rw[hHn];exact hh6.perm YU
    cases e with
    | normal=>
     obtain⟨e1,e2⟩:=fin none;exact⟨_,_,e1,e2 true _ rfl rfl (λ_=>⟨H5,hcase,by rw[hlr];rfl⟩) (λh=>by cases h)⟩
    | ret=>
     obtain⟨e1,e2⟩:=fin (some .ret);exact⟨_,_,e1,e2 false _ rfl rfl (λh=>by cases h) (λ_=>⟨.ret,H5,hcase,rfl⟩)⟩
    | exit id=>
     obtain⟨e1,e2⟩:=fin (some (.exit id));exact⟨_,_,e1,e2 false _ rfl rfl (λh=>by cases h) (λ_=>⟨.exit id,H5,hcase,rfl⟩)⟩
    | goto t=>exact hcase.elim
    | panic ch=>exact hcase.elim
    | outgrown=>exact hcase.elim
   | exit id=>exact hp3.elim
   | goto t=>exact hp3.elim
   | ret=>exact hp3.elim
   | panic ch=>exact hp3.elim
   | outgrown=>exact hp3.elim
 have hcall:=hseq J' Jx' _ _ _ hcb _ [] ⟨H,hJ,rfl⟩ I _ (.func (.func f) #[] vc) [.func (.yield (w.heap.size+1)) #[] #[]] hw2 (by simpa using hh2) (.fn _ _ _ _ _ .nil (hc.keep k2.keeps)) (.cons _ _ _ _ (.fn _ _ _ _ _ .nil .nil) .nil);rcases hcall with⟨f',vf',vc',e1,hok,hcalls⟩ | ⟨l,e1,_⟩
 ·simp only[Value.func.injEq,Fn.func.injEq] at e1;obtain⟨rfl,rfl,rfl⟩:=e1;refine⟨w.heap.size+1,[{target:=.collected w.heap.size,args:=#[]}],(w.alloc (.deferred (some []))).alloc (.loop lr),{target:=.fn (.func f) vc,args:=#[.func (.yield (w.heap.size+1)) #[] #[]]},(w.alloc (.deferred (some []))).alloc (.loop lr),f,
   #[.func (.yield (w.heap.size+1)) #[] #[]]++vc,(w.alloc (.deferred (some []))).alloc (.loop lr),?_,?_,λ_ _=>trivial,?_,by simp[FW],?_⟩
  ·rw[hlr];exact run_enterLoop_outer fn a.tmps #[p] assign body
  ·have hev:a.eval (.tmp t)= .func (.func f) #[] vc:=hu;simp only[resolve,rangeCall,hev];simp[Deferred.ofValue,Act.eval]
  ·simp[invoke,run_callFunc hok]
  ·have e0:(#[]++[Value.func (Fn.yield (w.heap.size+1)) #[] #[]].toArray++vc)= #[Value.func (Fn.yield (w.heap.size+1)) #[] #[]]++vc:=by simp
   rw[e0] at hcalls;refine callsIn_FW (hcalls.mono λe W hR=>?_);obtain⟨I6,H6,hw6,he6,hh6,hor⟩:=hR;rcases hor with hor | hor
   ·obtain⟨v,y,rfl,_,hor⟩:=hor;obtain⟨Hn,hHn,hJn⟩:=hor;rw[List.append_nil] at hHn;subst hHn;rcases hJn with⟨H1,hJL,rfl⟩ | ⟨pre,hpre,code,H1,hJX,rfl⟩
    ·obtain⟨hB6,hb6,_,hni6⟩:=hh6.ok _ (.head _);have hpn6:lr.pending=none:=by rw[hlr]
     have hrun6:=run_endLoop (P:=P) hb6 (by rw[hlr];simp);rw[hpn6] at hrun6;refine⟨none,_,hrun6,?_⟩;have hh7:=(hh6.putLoop (lp':={lr with state:=.exhausted}) (.head _ _ _) rfl).tail;have he7:Ext c.B I6 W I6 (W.putObj (w.heap.size+1) (.loop {lr with state:=.exhausted})):=Ext.putObj hB6 hni6;rw[hpn6] at he7 hh7;refine done w.heap.size H1 hJL _ _ ⟨?_,s.size,I6,hw6.putObj hni6,(he.trans (k2.trans he6)).trans he7,hh7,(hv.keep (k2.trans he6).keeps).keep he7.keeps⟩;show _::a.defers=_;rw[s.ds]
    ·obtain⟨hB6,hb6,_,hni6⟩:=hh6.ok _ (.head _);refine⟨some code,_,run_endLoop (P:=P) hb6 Yn,?_⟩;have hh7:=(hh6.putLoop (lp':={lr with state:=.exhausted,pending:=some code}) (.head _ _ _) rfl).tail;have he7:Ext c.B I6 W I6 (W.putObj (w.heap.size+1) (.loop {lr with state:=.exhausted,pending:=some code})):=Ext.putObj hB6 hni6;refine jump w.heap.size code pre H1 hpre hJX _ _ ⟨?_,s.size,I6,hw6.putObj hni6,(he.trans (k2.trans he6)).trans he7,hh7,(hv.keep (k2.trans he6).keeps).keep he7.keeps⟩;show _::a.defers=_;rw[s.ds]
   ·obtain⟨_,_,_,_,hF⟩:=hor;exact hF.elim
 ·simp at e1
theorem SeqOk.b{α:Type}{B:Nat}{P:Program}{gv:AV}{enc:α->AV}{L:List α}(h:SeqOk B P gv enc L):SeqB B P gv (λ_=>enc) (λ_ _=>[]) L:=
 λJ Jx f fs cs hc H Hx hJ=>h J Jx f fs cs (λpre x H Hx hp _ hJ=>hc 0 pre x H Hx hp hJ) H Hx hJ
theorem CW.rangeFunc{α:Type}{t p:Nat}{assign body:Code}{f:FuncId}{caps:List AV}(enc:α->AV)(L:List α)(J:List α->List Ent->Prop)(Jx:Code->List α->List Ent->Prop)(H Hx:List Ent)(env':α->List (Nat×AV))
  (hr:r=none) (hH:st.H=H++Hx) (hg:envGet st.env t=some (.fn (.func f) [] caps)) (hp:Nat.blt p c.n=true) (hseq:SeqOk c.B P (.fn (.func f) [] caps) enc L) (hJ:J [] H)
  (assignOk:∀(l:Nat) (I:Imm) (w:World) (x:α) (Hy:List Ent),CW ⟨c.B,I,w,c.n,[]⟩ (some l) P assign ⟨(p,enc x)::st.env,Hy⟩ (Exit.then (λa w'=>∃st',st'=(⟨env' x,Hy⟩:St)/\Sat ⟨c.B,I,w,c.n,[]⟩ st' a w') (λ_ _ _=>False)))
  (round:∀(l D:Nat) (lp:Loop) (pre:List α) (x:α) (H1 Hy:List Ent) (I:Imm) (w:World),pre++[x]<+:L->J pre H1->
   CW ⟨c.B,I,w,c.n,[]⟩ (some l) P body ⟨env' x,.loop l lp (envGet st.env)::.obj D (.deferred (some []))::(H1++Hy)⟩ (roundEnd c.B I w l D lp (envGet st.env) J Jx (pre++[x]) Hy))
  (done:∀(D:Nat) (H1:List Ent),J L H1->Done ⟨c.B,c.I0,c.w0,c.n,{target:=.collected D,args:=#[]}::c.ds⟩ ⟨st.env,.obj D (.deferred (some []))::(H1++Hx)⟩ .normal Q)
  (jump:∀(D:Nat) (code:Code) (pre:List α) (H1:List Ent),pre<+:L->Jx code pre H1->CW ⟨c.B,c.I0,c.w0,c.n,{target:=.collected D,args:=#[]}::c.ds⟩ r P code ⟨st.env,.obj D (.deferred (some []))::(H1++Hx)⟩ Q):
  CW c r P (.rangeFunc (.tmp t) #[p] assign body) st Q:=
 CW.rangeFuncB (λ_=>enc) (λ_ _=>[]) L J Jx H Hx (λ_=>env') hr hH hg hp hseq.b hJ (λl I w _=>assignOk l I w) (λl D lp pre _=>round l D lp pre) done jump
end
section
variable{c:Ctx}{r:Option Nat}{P:Program}{ops:Array Oper}{l rest:List Oper}{o:Oper}{st:St}{Q:Exit->Act->World->Prop}{x:AV}
abbrev mark(D:Nat):Deferred:={target:=.collected D,args:=#[]}
theorem AVleL.tupOf{ys zs:List AV}(h:AVleL ys zs):AVle (tupOf ys) (tupOf zs):=by
 cases h with
 | nil=>exact AVle.refl _
 | cons hx ht=>
  cases ht with
  | nil=>exact hx
  | cons hy ht=>exact AVle.tup (.cons hx (.cons hy ht))
theorem Done.retM1{fn:Func}{B D:Nat}{I0:Imm}{w0:World}{n:Nat}{Φ:AV->List Ent->Prop}{E:AV->List Ent->Prop}{rs:List ResultVar}{ys zs:List AV}{H' H'':List Ent}(hr:fn.results=rs.toArray)(hD:Del st.H (.obj D (.deferred (some []))) H'')(h:ResOk P ⟨st.env,H''⟩ rs ys)(hle:AVleL ys zs)
  (hH:H'.Sublist H'') (hΦ:Φ (tupOf zs) H'):Done ⟨B,I0,w0,n,[mark D]⟩ st .ret (bodyPostM (FW none) 0 P fn (RetP B I0 w0 Φ E)):=by
 intro a w s;obtain⟨I,hw,he,hh,hv⟩:=s.mem;obtain⟨hB,hb,hni⟩:=hh.ok _ hD.mem;show LeavesInM _ _ _ _ _ _ a.defers _ _;rw[show a.defers= [mark D] from s.ds];have hk:Keeps I w I (w.putObj D (.deferred none)):=putObj_keeps (B:=B) hni;have hh':HeapOk B I (w.putObj D (.deferred none)) H'':=by
  refine (hh.sub hD.sub).keep hk (λf hf b hfb=>World.putObj_heap_other (λe=>?_)) (λ_ _ _ _ _ x=>x);subst e;exact hD.apart hh.apart f hf _ rfl hfb
 obtain⟨v,h1,h2⟩:=h.res (c:=⟨B,I0,w0,n,[]⟩) (st:=⟨st.env,H''⟩) hh' (hv.keep hk) hr;exact⟨Yn,.inl ⟨D,_,rfl,run_takeDeferred hb,v,h1,I,H',hw.putObj hni,he.trans (Ext.putObj hB hni),hh'.sub hH,.inl ⟨v,_,rfl,hle.tupOf _ _ _ h2,hΦ⟩⟩⟩
theorem OL.bcall{f:FuncId}{xs:List AV}{Φ:AV->List Ent->Prop}{E:AV->List Ent->Prop}(hg:o.guard=none)(hd:dstOk c.n o.dst=true)(hc:CallOk P (envGet st.env) o f xs)(h:BCall c.B P f xs st.H Φ E)
  (next:∀y H',Φ y H'->OL c r P ops rest ⟨putEnv o.dst y st.env,H'⟩ Q)
  (pan:∀y H',E y H'->∀a w,Sat c ⟨st.env,H'⟩ a w->∀I v,Rel I w y v->Q (.panic [{v,recovered:=false}]) a w):OL c r P ops (o::rest) st Q:=by
 intro a w s;refine wpListIn_plain hg λK hK=>?_;obtain⟨I,hw,he,hh,hv⟩:=s.mem;obtain⟨vs,h1,h2⟩:=hc.run I w a (hv.ops o);obtain⟨hok,hcall⟩:=h;refine Runs.of_enter (R:=λv w'=>∃I' H' x,WOk c.B I' w'/\Ext c.B I w I' w'/\HeapOk c.B I' w' H'/\Rel I' w' x v/\Φ x H')
  (E:=λch w'=>∃I' H' v x,WOk c.B I' w'/\Ext c.B I w I' w'/\HeapOk c.B I' w' H'/\ch= [{v,recovered:=false}]/\Rel I' w' x v/\E x H') hc.nodefer (h2 hok) ((hcall I w vs hw hh h1).mono λe w' hr=>?_) K Q ?_ ?_
 ·obtain⟨I',H',hw',he',hh',hr⟩:=hr;rcases hr with⟨v,x,rfl,hx,hΦ⟩ | ⟨v,x,rfl,hx,hE⟩
  ·exact⟨I',H',x,hw',he',hh',hx,hΦ⟩
  ·exact⟨I',H',v,x,hw',he',hh',rfl,hx,hE⟩
 ·rintro v w' ⟨I',H',x,hw',he',hh',hx,hΦ⟩;refine hK _ _ (next x H' hΦ _ _ ⟨YE,YA,I',hw',he.trans he',hh',?_⟩);exact (hv.keep he'.keeps).put YZ hx
 ·rintro ch w' ⟨I',H',v,x,hw',he',hh',rfl,hx,hE⟩;exact pan x H' hE a w' ⟨s.ds,s.size,I',hw',he.trans he',hh',hv.keep he'.keeps⟩ I' v hx
theorem Rel.slLen{I:Imm}{w:World}{k:Nat}{els:List (List AV)}{v:Value}(h:Rel I w (.sl k els) v):els.length<=maxLen:=by
 cases h with
 | sl0=>simp
 | sl _ _ b off len cap hl hc hm he=>omega
theorem CW.boundP{α:Type}{F:List α->List (List AV)}{enc:α->List AV}[hF:MapLike F enc]{xs:List α}{p:Code}{t k i:Nat}{cs:List AV}(ht:envGet st.env t=some (.ptr cs))(hi:cs[i]? =some (.sl k (F xs)))(h:xs.length<=9223372036854775807->CW c r P p st Q):CW c r P p st Q:=by
 intro a w s;refine h ?_ a w s;obtain⟨I,hw,he,hh,hv⟩:=s.mem;have h0:=hv t _ ht;generalize a.tmps.getD t undef=u at h0;cases h0 with
 | ptr _ b o hc=>
  obtain⟨v,_,_,h2⟩:=hc.get hi;have:=h2.slLen;rw[hF.h,List.length_map] at this;simpa [maxLen] using this
theorem CW.boundA{α:Type}{F:List α->List (List AV)}{enc:α->List AV}[hF:MapLike F enc]{xs:List α}{p:Code}{t k i:Nat}{cs:List AV}(ht:envGet st.env t=some (.agg cs))(hi:cs[i]? =some (.sl k (F xs)))(h:xs.length<=9223372036854775807->CW c r P p st Q):CW c r P p st Q:=by
 intro a w s;refine h ?_ a w s;obtain⟨I,hw,he,hh,hv⟩:=s.mem;have h0:=hv t _ ht;generalize a.tmps.getD t undef=u at h0;cases h0 with
 | agg _ vs hc=>
  obtain⟨v,_,h2⟩:=hc.get hi;have:=h2.slLen;rw[hF.h,List.length_map] at this;simpa [maxLen] using this
theorem PredOk.of{α:Type}{fid:FuncId}{fs cs:List AV}{enc:α->AV}{p:α->Bool}(h:∀x,PCall P fid (fs++[enc x]++cs) (.b (p x))):PredOk P (.fn (.func fid) fs cs) enc p:=λB x H=>VCall.fn (h x H)
theorem PredOk.cb{α:Type}{B:Nat}{g:AV}{enc:α->AV}{p:α->Bool}(h:PredOk P g enc p)(L:List α):CbOk B P g enc L (λ_=>True) (λpre H=>H= []/\∀x∈pre,p x=true) (λpre H=>H= []/\∃q x,pre=q++[x]/\p x=false):=by
 rintro pre x H Hx _ _ ⟨rfl,hp⟩;refine VCall.mono (h B x Hx) ?_ (λ_ _ h=>h);rintro _ _ ⟨rfl,rfl⟩;refine⟨p x,[],rfl,rfl,λhb=>⟨rfl,λy hy=>?_⟩,λhb=>⟨rfl,pre,x,rfl,hb⟩⟩;rcases List.mem_append.1 hy with hy | hy
 ·exact hp y hy
 ·simp at hy;subst hy;exact hb
theorem AVle.ite1{c:Prop}[Decidable c]{x:AV}(hb:bOk x=true)(hx:∀cs,x≠ .agg cs):AVle x (if c then x else .one):=by
 split
 ·exact .refl _
 ·exact .one hb hx
def FoundAt{α:Type}(J Jx:List α->List Ent->Prop)(l:List α)(Hx:List Ent)(y:AV)(H':List Ent):Prop:=
 ∃H1,H'=H1++Hx/\((y= .i (-1)/\J l H1)\/∃pre x rest,l=pre++x::rest/\y= .i pre.length/\Jx (pre++[x]) H1)
def PCallIn(P:Program)(Hm:List Ent)(f:FuncId)(xs:List AV)(y:AV):Prop:=∀H,(∀e∈Hm,e∈H)->ACall P f xs H (λx H'=>x=y/\H'=H) (λ_ _=>False)
def QCallIn(P:Program)(Hm:List Ent)(f:FuncId)(xs:List AV)(Φ:AV->Prop):Prop:=∀H,(∀e∈Hm,e∈H)->ACall P f xs H (λx H'=>Φ x/\H'=H) (λ_ _=>False)
theorem PCallIn.pure{P:Program}{f:FuncId}{xs:List AV}{y:AV}(h:PCallIn P [] f xs y):PCall P f xs y:=λH=>h H Yn
theorem QCallIn.pure{P:Program}{f:FuncId}{xs:List AV}{Φ:AV->Prop}(h:QCallIn P [] f xs Φ):QCall P f xs Φ:=λH=>h H Yn
theorem PredOn.of{α:Type}{Hm:List Ent}{fid:FuncId}{fs cs:List AV}{enc:α->AV}{l:List α}{p:α->Bool}(h:∀x∈l,PCallIn P Hm fid (fs++[enc x]++cs) (.b (p x))):PredOn P Hm (.fn (.func fid) fs cs) enc l p:=λx hx B H hH=>VCall.fn (h x hx H hH)
theorem find_pure{α:Type}{fid:FuncId}{xs:List AV}{g:AV}{enc:α->AV}{Hm:List Ent}{p:α->Bool}{l:List α}(hok:fnOk P fid=true)(hb:∀(B:Nat) (F:List Ent->Prop) (J Jx:List α->List Ent->Prop),FindOk B P g enc l F J Jx->∀H Hx,F Hx->J [] H->BCall B P fid xs (H++Hx) (FoundAt J Jx l Hx) (λ_ _=>False))
  (hp:PredOn P Hm g enc l p):QCallIn P Hm fid xs (λy=>∃n:Int,y= .i n/\decide (n>=0)=l.any p):=by
 intro Hx hHx;refine⟨hok,λB I w vs hw hh hvs=>((hb B _ _ _ hp.find [] Hx hHx ⟨rfl,Yn⟩).2 I w vs hw hh hvs).mono λe w' hr=>hr.mono (λy H hy=>?_) λ_ _ h=>h⟩;obtain⟨H1,rfl,hy⟩:=hy;rcases hy with⟨rfl,rfl,hall⟩ | ⟨pre,x,rest,rfl,rfl,rfl,q,z,hq,hqq,hz⟩
 ·refine⟨⟨-1,rfl,?_⟩,rfl⟩;rw[show decide ((-1:Int)>=0)=false from rfl];symm;rw[List.any_eq_false];intro x hx;simp[hall x hx]
 ·refine⟨⟨pre.length,rfl,?_⟩,rfl⟩;have h2:=List.append_inj' hq rfl;obtain⟨rfl,h3⟩:=h2;simp at h3;subst h3;rw[show decide (((pre.length:Nat):Int)>=0)=true from by simp];symm;rw[List.any_eq_true];exact⟨x,Yn,hz⟩
theorem OL.isNil{t t':TypeId}{x y:Operand}{k:Nat}{els:List (List AV)}{g gy:Bool}{u:AV}(hgd:o.guard=none)(hd:dstOk c.n o.dst=true)(h:o.op= .binOp .eql t x y t')(ht:isSl P t=true)(hx:aev (envGet st.env) x=some (g,u))(hg:g=true)(hu:AVle u (.sl k els))
  (hy:aev (envGet st.env) y=some (gy,.val (.slice none 0 0))) (hgy:gy=true) (next:∀b:Bool,(b=true->els= [])->OL c r P ops rest ⟨putEnv o.dst (.b b) st.env,st.H⟩ Q):OL c r P ops (o::rest) st Q:=by
 intro a w s;refine wpListIn_plain hgd λK hK=>?_;obtain⟨I,hw,he,hh,hv⟩:=s.mem;have h0:=hu _ _ _ ((hv.ops o).get Yh hx hg);have h1:=rel_val ((hv.ops o).get Yh hy hgy);obtain⟨ad,n,cap,hv',hnil⟩:∃ad n cap,a.eval x= .slice ad n cap/\(ad=none->els= []):=by
  generalize a.eval x=v at h0;cases h0 with
  | sl0=>exact⟨_,_,_,rfl,λ_=>rfl⟩
  | sl=>exact⟨_,_,_,rfl,λe=>by cases e⟩
 refine Runs.of_value (R:=λv w'=>v= .bool ad.isNone/\w'=w) (E:=λ_ _=>False) Yk (v:=.bool ad.isNone) (w':=w) ?_ ⟨rfl,rfl⟩ K Q ?_ (λ_ _ h=>h.elim)
 ·have hsl:=isSl_elem ht;have:=run_equal_slice_nil (P:=P) w t _ ad n cap hsl;simp[execOp,h,hv',h1,eqGuard,binOp,this]
 rintro v w' ⟨rfl,rfl⟩;refine hK _ _ (next ad.isNone (λe=>hnil (by simpa using e)) _ _ ⟨YE,YA,I,hw,he,hh,?_⟩);exact hv.put YZ (.val _)
end
section
variable{c:Ctx}{r:Option Nat}{P:Program}{ops:Array Oper}{l rest:List Oper}{o:Oper}{env:List (Nat×AV)}{H:List Ent}{Q:Exit->Act->World->Prop}{x:AV}{d n:Nat}
theorem dstOk_of(hd:o.dst=some d)(hn:Nat.blt d n=true):dstOk n o.dst=true:=by rw[hd];exact hn
theorem OL.popC(hg:o.guard=none)(hd:o.dst=some d)(hn:Nat.blt d c.n=true)(h:POp P H (envGet env) o x)(next:OL c r P ops rest ⟨(d,x)::env,H⟩ Q):OL c r P ops (o::rest) ⟨env,H⟩ Q:=
 OL.pop hg (dstOk_of hd hn) h Yz
theorem OL.guardC{j k:Nat}{want G:Bool}(hg:o.guard=some (j,want))(hj:(ops[j]?).bind (·.dst)=some k)(hdj:Nat.blt k c.n=true)(hG:mkG (envGet env k) want=some G)
  (hd:o.dst=some d) (hn:Nat.blt d c.n=true) (h:G=true->POp P H (envGet env) o x) (next:OL c r P ops rest ⟨(d,.opt G x)::env,H⟩ Q):OL c r P ops (o::rest) ⟨env,H⟩ Q:=
 OL.guarded hg hj hdj hG (dstOk_of hd hn) h Yz
theorem OL.alC{t:TypeId}{zs:List Value}[hz:HasZero P t zs](hgd:o.guard=none)(hd:o.dst=some d)(hn:Nat.blt d c.n=true)(h:o.op= .alloc t)
  (next:∀b,OL c r P ops rest ⟨(d,.p b 0)::env,.blk b t (zs.map .val)::H⟩ Q):OL c r P ops (o::rest) ⟨env,H⟩ Q:=OL.al hgd (dstOk_of hd hn) h Yz
theorem OL.boxC{t:TypeId}{z:Operand}{y:AV}{g:Bool}(hgd:o.guard=none)(hd:o.dst=some d)(hn:Nat.blt d c.n=true)(h:o.op= .box t z)(hz:aev (envGet env) z=some (g,y))(hg:g=true)(hb:bOk y=true)
  (next:∀b,OL c r P ops rest ⟨(d,.p b 0)::env,.blk b t (bcells y)::H⟩ Q):OL c r P ops (o::rest) ⟨env,H⟩ Q:=OL.box hgd (dstOk_of hd hn) h hz hg hb Yz
theorem OL.stoC{t tb:TypeId}{p z:Operand}{y:AV}{gp g:Bool}{b off n:Nat}{cs ds:List AV}{H':List Ent}{agg:Bool}[ht:HasTy P t (agg,n)](hgd:o.guard=none)(hd:o.dst=none)(h:o.op= .store t p z)
  (hp:aev (envGet env) p=some (gp,.p b off)) (hgp:gp=true) (hz:aev (envGet env) z=some (g,y)) (hg:g=true) (hb:bOk y=true) (h1:allOne (bcells y)=true)
  (hn:Nat.beq (bcells y).length n=true) (hu:Upd H (.blk b tb cs) (.blk b tb ds) H') (hfit:Nat.ble (off+n) cs.length=true) (hds:cs.take off++bcells y++cs.drop (off+n)=ds)
  (next:OL c r P ops rest ⟨env,H'⟩ Q):OL c r P ops (o::rest) ⟨env,H⟩ Q:=OL.sto hgd (by rw[hd];rfl) h hp hgp hz hg hb h1 hn hu hfit hds Yz
theorem OL.bcallC{f:FuncId}{xs:List AV}{Φ:AV->List Ent->Prop}(hg:o.guard=none)(hd:o.dst=some d)(hn:Nat.blt d c.n=true)(hc:CallOk P (envGet env) o f xs)(h:BCall c.B P f xs H Φ (λ_ _=>False))
  (next:∀y H',Φ y H'->OL c r P ops rest ⟨(d,y)::env,H'⟩ Q):OL c r P ops (o::rest) ⟨env,H⟩ Q:=OL.bcall hg (dstOk_of hd hn) hc h Yz (λ_ _ h=>h.elim)
theorem OL.vcallC{x:Operand}{args:Array Operand}{ts:Array TypeId}{gv:AV}{ys:List (Bool×AV)}{xs:List AV}{g:Bool}{Φ:AV->List Ent->Prop}(hgd:o.guard=none)(hd:o.dst=some d)(hn:Nat.blt d c.n=true)
  (h:o.op= .call {callee:=.value x,args:=args,argTypes:=ts}) (hx:aev (envGet env) x=some (g,gv)) (hg:g=true) (ha:aevs (envGet env) args.toList=some ys) (hys:ys.all (·.1)=true) (hle:AVleL (ys.map (·.2)) xs)
  (hv:VCall c.B P gv xs H Φ (λ_ _=>False)) (next:∀y H',Φ y H'->OL c r P ops rest ⟨(d,y)::env,H'⟩ Q):OL c r P ops (o::rest) ⟨env,H⟩ Q:=OL.vcall hgd (dstOk_of hd hn) h hx hg ha hys hle hv Yz (λ_ _ h=>h.elim)
theorem OL.appendC{s z:Operand}{t tx e k by_ k':Nat}{els news:List (List AV)}{v:Value}{y:AV}{g1 g2:Bool}{H':Value->List Ent}[hA:HasApp P t (e,k,by_)][hX:HasSl P tx k'](hgd:o.guard=none)(hd:o.dst=some d)(hn:Nat.blt d c.n=true)
  (h:o.op= .call {callee:=.builtin .append,args:=#[s,z],argTypes:=#[t,tx]}) (hs:aev (envGet env) s=some (g1,.as (.sl k els) v)) (hg1:g1=true) (hz:aev (envGet env) z=some (g2,y)) (hg2:g2=true) (hy:AVle y (.sl k news))
  (h1:news.all allOne=true) (hu:∀v',Upd H (.own e k v) (.own e k v') (H' v')) (hb:(els.length+news.length)*by_<=140737488355328) (hb':els.length+news.length<=9223372036854775807)
  (next:∀v',OL c r P ops rest ⟨(d,.as (.sl k (els++news)) v')::env,H' v'⟩ Q):OL c r P ops (o::rest) ⟨env,H⟩ Q:=OL.appendOwn hgd (dstOk_of hd hn) h hs hg1 hz hg2 hy h1 hu hb hb' Yz
theorem OL.isNilC{t t':TypeId}{x y:Operand}{k:Nat}{els:List (List AV)}{g gy:Bool}{u:AV}(hgd:o.guard=none)(hd:o.dst=some d)(hn:Nat.blt d c.n=true)(h:o.op= .binOp .eql t x y t')(ht:isSl P t=true)(hx:aev (envGet env) x=some (g,u))(hg:g=true)(hu:AVle u (.sl k els))
  (hy:aev (envGet env) y=some (gy,.val (.slice none 0 0))) (hgy:gy=true) (next:∀b:Bool,(b=true->els= [])->OL c r P ops rest ⟨(d,.b b)::env,H⟩ Q):OL c r P ops (o::rest) ⟨env,H⟩ Q:=OL.isNil hgd (dstOk_of hd hn) h ht hx hg hu hy hgy Yz
theorem AD.popC{L:List Oper}{K:List (Nat×AV)->Prop}(hg:o.guard=none)(hd:o.dst=some d)(hn:Nat.blt d n=true)(h:POp P H (envGet env) o x)(next:AD P H L n rest ((d,x)::env) K):AD P H L n (o::rest) env K:=
 AD.pop hg (dstOk_of hd hn) h Yz
theorem AD.guardC{L:List Oper}{K:List (Nat×AV)->Prop}{j k:Nat}{want G:Bool}(hg:o.guard=some (j,want))(hj:(L[j]?).bind (·.dst)=some k)(hG:mkG (envGet env k) want=some G)
  (hd:o.dst=some d) (hn:Nat.blt d n=true) (h:G=true->POp P H (envGet env) o x) (next:AD P H L n rest ((d,.opt G x)::env) K):AD P H L n (o::rest) env K:=
 AD.guarded hg hj hG (dstOk_of hd hn) h Yz
theorem Sat.ownNilB{c:Ctx}{st:St}{a:Act}{w:World}{b t e k i:Nat}{cs ds:List AV}{H':List Ent}(s:Sat c st a w)(hu:Upd st.H (.blk b t cs) (.blk b t ds) H')(hi:cs[i]? =some (.val (.slice none 0 0)))(hds:cs.set i (.as (.sl k []) (.slice none 0 0))=ds):
  Sat c ⟨st.env,.own e k (.slice none 0 0)::H'⟩ a w:=by
 obtain⟨I,hw,he,hh,hv⟩:=s.mem;subst hds;have hk:Keeps I w I w:=⟨λ_ _ x=>x,λ_ _ _=>rfl⟩;obtain⟨hB,vs,hb,hr,hni⟩:=hh.ok _ hu.mem;have hr':RelL I w (cs.set i (.as (.sl k []) (.slice none 0 0))) vs.toList:=by
  have key:∀(xs:List AV) (us:List Value) (i:Nat),RelL I w xs us->xs[i]? =some (.val (.slice none 0 0))->RelL I w (xs.set i (.as (.sl k []) (.slice none 0 0))) us:=by
   intro xs
   induction xs with
   | nil=>intro us i _ h;simp at h
   | cons x xs ih=>
    intro us i hr h;cases hr with
    | cons _ v _ us' hx ht=>
     cases i with
     | zero=>
      simp at h;subst h;cases hx;exact .cons _ _ _ _ (.as _ _ (.sl0 _ _ _)) ht
     | succ i=>exact .cons _ _ _ _ hx (ih us' i ht YN)
  exact key _ _ _ hr hi
 have h2:HeapOk c.B I w H':=hh.upd hu hk (λ_ _ _=>rfl) (λ_ _ x=>.inl x) ⟨hB,vs,hb,hr',hni⟩ (λ_ hb=>.inl hb);refine⟨s.ds,s.size,I,hw,he,⟨λf hf=>?_,List.pairwise_cons.2 ⟨λf hf b hb=>by simp[Ent.foot,Value.ownBlock] at hb,h2.apart⟩⟩,hv⟩;rcases List.mem_cons.1 hf with rfl | hf
 ·exact⟨0,[],World.ownsRow_nil _ _ _ _,λg hg=>by simp[Value.ownBlock] at hg⟩
 ·exact h2.ok f hf
theorem CW.ownNilB{p:Code}{b t:Nat}(e k i:Nat){cs ds:List AV}{H':List Ent}(hu:Upd H (.blk b t cs) (.blk b t ds) H')(hi:cs[i]? =some (.val (.slice none 0 0)))(hds:cs.set i (.as (.sl k []) (.slice none 0 0))=ds)(h:CW c r P p ⟨env,.own e k (.slice none 0 0)::H'⟩ Q):CW c r P p ⟨env,H⟩ Q:=
 λa w s=>h a w (s.ownNilB hu hi hds)
theorem Done.ownNil{st:St}{ex:Exit}(d e k:Nat)(hd:envGet st.env d=some (.val (.slice none 0 0)))(h:Done c ⟨(d,.as (.sl k []) (.slice none 0 0))::st.env,.own e k (.slice none 0 0)::st.H⟩ ex Q):Done c st ex Q:=
 λa w s=>h a w (s.ownNil hd)
theorem POp.slM{α:Type}{F:List α->List (List AV)}{enc:α->List AV}{xs:List α}{ρ:Nat->Option AV}{t:TypeId}{x:Operand}{lo hi:Option Operand}{k:Nat}{l n:Nat}{gx gl gh:Bool}{kl kh:IntKind}[ht:HasSl P t k][hF:MapLike F enc](h:o.op= .slice t x lo hi none)(hx:aev ρ x=some (gx,.sl k (F xs)))(hgx:gx=true)
  (hlo:match lo with | none=>l=0 | some y=>aev ρ y=some (gl,.val (.int kl (l:Int)))) (hgl:gl=true) (hhi:match hi with | none=>n=xs.length | some y=>aev ρ y=some (gh,.val (.int kh (n:Int)))) (hgh:gh=true)
  (h1:l<=n/\n<=xs.length):POp P H ρ o (.sl k (F ((xs.take n).drop l))):=by
 rw[hF.h] at hx;have:=POp.sl' (H:=H) (ht:=ht) h hx hgx hlo hgl (n:=n) (by cases hi <;> simpa using hhi) hgh Y7;rw[hF.h,List.map_drop,List.map_take];exact this
theorem POp.slTo{α:Type}{F:List α->List (List AV)}{enc:α->List AV}{xs:List α}{ρ:Nat->Option AV}{t:TypeId}{x y:Operand}{k:Nat}{n:Nat}{gx gh:Bool}{kh:IntKind}[ht:HasSl P t k][hF:MapLike F enc](h:o.op= .slice t x none (some y) none)(hx:aev ρ x=some (gx,.sl k (F xs)))(hgx:gx=true)
  (hhi:aev ρ y=some (gh,.val (.int kh (n:Int)))) (hgh:gh=true) (h1:n<=xs.length):POp P H ρ o (.sl k (F (xs.take n))):=by
 have:=POp.slM (H:=H) (kl:=.i64) (gl:=true) (l:=0) (ht:=ht) (hF:=hF) h hx hgx rfl rfl hhi hgh ⟨Nat.zero_le _,h1⟩;simpa using this
theorem POp.slFrom{α:Type}{F:List α->List (List AV)}{enc:α->List AV}{xs:List α}{ρ:Nat->Option AV}{t:TypeId}{x y:Operand}{k:Nat}{n:Nat}{gx gh:Bool}{kh:IntKind}[ht:HasSl P t k][hF:MapLike F enc](h:o.op= .slice t x (some y) none none)(hx:aev ρ x=some (gx,.sl k (F xs)))(hgx:gx=true)
  (hhi:aev ρ y=some (gh,.val (.int kh (n:Int)))) (hgh:gh=true) (h1:n<=xs.length):POp P H ρ o (.sl k (F (xs.drop n))):=by
 have:=POp.slM (H:=H) (kh:=.i64) (gh:=true) (n:=xs.length) (ht:=ht) (hF:=hF) h hx hgx hhi hgh rfl rfl ⟨h1,Nat.le_refl _⟩;simpa using this
end
end Go.Eng
