/- Part 5 of the proof: contracts of functions of the program and what they need. No condition beyond those that each theorem names. -/
import Derived.Test.YtpgnjlngepfanaaGreatImageReadsP4
import Derived.Laws.CopyRow
set_option maxHeartbeats 1000000
set_option linter.unusedVariables false
set_option linter.unusedSimpArgs false
namespace Go.Eng
open Go.RowKit (Below)
open Go.ChangeShapes Go.WideShapes
def CWF(f:FuncId)(c:Ctx)(r:Option Nat)(P:Program)(code:Code)(st:St)(Q:Exit->Act->World->Prop):Prop:=∀a w,Sat c st a w->wpF f (FW r) 0 P code Q a w
section
variable{f:FuncId}{c:Ctx}{r:Option Nat}{P:Program}{st:St}{Q:Exit->Act->World->Prop}
theorem CW.atF{code:Code}(h:CW c r P code st Q):CWF f c r P code st Q:=λa w s=>.of (h a w s)
theorem CWF.seq{p q:Code}(h:CWF f c r P p st (Exit.then (wpF f (FW r) 0 P q Q) Q)):CWF f c r P (.seq p q) st Q:=λa w s=>.seq (h a w s)
theorem CWF.block{id:Nat}{p:Code}(h:CWF f c r P p st (Exit.inBlock id Q)):CWF f c r P (.block id p) st Q:=λa w s=>.block (h a w s)
theorem CWF.done{q:Code}(h:CWF f c r P q st Q):Done c st .normal (Exit.then (wpF f (FW r) 0 P q Q) Q):=λa w s=>h a w s
theorem ACall.mkF{fn:Func}{code:Code}{xs:List AV}{H:List Ent}{Φ:AV->List Ent->Prop}{E:AV->List Ent->Prop}{n:Nat}(hf:P.funcs[f]? =some fn)(hb:fn.body=some code)(hnm:(fn.name== "runtime.NumGoroutine")=false)
  (hn:fn.ntmps=n) (hl:Nat.ble xs.length n=true) (h:∀B I w,CWF f ⟨B,I,w,n,[]⟩ none P code ⟨envOf 0 xs,H⟩ (bodyPostM (FW none) 0 P fn (RetP B I w Φ E))):ACall P f xs H Φ E:=by
 refine⟨Ybl,λB I w vs hw hh hv=>calls_of_FW (n:=0) (callsIn_of_wpF hf hb trivial ?_ rfl)⟩;refine h B I w _ w ⟨rfl,?_,I,hw,Ext.refl _ _ _,hh,λt y hy=>?_⟩
 ·have:=hv.length;have:=Nat.le_of_ble_eq_true hl;simp;omega
 ·obtain⟨v,h1,h2⟩:=hv.get YaO;have:(vs.toArray++Array.replicate (fn.ntmps - vs.toArray.size) undef).getD t undef=v:=by
   have hlt:=(List.getElem?_eq_some_iff.1 h1).1;simp only[Array.getD_eq_getD_getElem?];rw[Array.getElem?_append_left (by simpa using hlt)];simp[h1]
  rw[this];exact h2
def CbP{α:Type}(B:Nat)(P:Program)(g:AV)(e1 e2:α->AV)(L:List α)(fails:Bool)(J:List α->List Ent->Prop)(Jp:AV->List Ent->Prop):Prop:=
 ∀pre x H Hx,pre++[x]<+:L->J pre H->VCall B P g [e1 x,e2 x] (H++Hx) (λy H'=>∃H1,y= .b true/\H'=H1++Hx/\(pre++[x]=L->fails=false)/\J (pre++[x]) H1) (λy H'=>∃H1,H'=H1++Hx/\pre++[x]=L/\fails=true/\Jp y H1)
def SeqP{α:Type}(B:Nat)(P:Program)(gv:AV)(e1 e2:α->AV)(L:List α)(fails:Bool)(Hs:List Ent)(Hn:List Ent->Prop):Prop:=
 ∀(J:List α->List Ent->Prop) (Jp:AV->List Ent->Prop) (g:Fn) (fs cs:List AV),(∀y H,Jp y H->∃v,y.Const v)->CbP B P (.fn g fs cs) e1 e2 L fails J Jp->∀H Hx,J [] H->
  VCall B P gv [.fn g fs cs] (H++(Hs++Hx)) (λ_ H'=>fails=false/\∃H1 Hs',H'=H1++(Hs'++Hx)/\Hn Hs'/\J L H1)
   (λy H'=>fails=true/\∃H1 Hs',H'=H1++(Hs'++Hx)/\Jp y H1)
def roundEndP{α:Type}(B:Nat)(I0:Imm)(w0:World)(l D:Nat)(lp:Loop)(ρ:Nat->Option AV)(L:List α)(fails:Bool)(J:List α->List Ent->Prop)(Jp:AV->List Ent->Prop)(pre:List α)(Hx:List Ent):Exit->Act->World->Prop:=λe a w=>
 ∃I H,WOk B I w/\Ext B I0 w0 I w/\HeapOk B I w (.loop l lp ρ::.obj D (.deferred (some []))::(H++Hx))/\
  match e with
  | .normal=>(pre=L->fails=false)/\J pre H
  | .panic ch=>a.defers= []/\pre=L/\fails=true/\∃v y,ch= [{v:=v,recovered:=false}]/\Rel I w y v/\Jp y H
  | _=>False
end
section
variable{f0:FuncId}{fn0:Func}{P:Program}{c:Ctx}{r:Option Nat}{st:St}{Q:Exit->Act->World->Prop}
theorem CWF.rangeFuncP{α:Type}{t p q:Nat}{assign body:Code}{f:FuncId}{caps:List AV}(hf0:P.funcs[f0]? =some fn0)(e1 e2:α->AV)(L:List α)(fails:Bool)(J:List α->List Ent->Prop)(Jp:AV->List Ent->Prop)(H Hs Hx:List Ent)(Hn:List Ent->Prop)(env':α->List (Nat×AV))
  (hr:r=none) (hH:st.H=H++(Hs++Hx)) (hg:envGet st.env t=some (.fn (.func f) [] caps)) (hp:Nat.blt p c.n=true) (hq:Nat.blt q c.n=true) (hseq:SeqP c.B P (.fn (.func f) [] caps) e1 e2 L fails Hs Hn) (hJ:J [] H) (hcon:∀y H,Jp y H->∃v,y.Const v)
  (assignOk:∀(l:Nat) (I:Imm) (w:World) (x:α) (Hy:List Ent),CW ⟨c.B,I,w,c.n,[]⟩ (some l) P assign ⟨(q,e2 x)::(p,e1 x)::st.env,Hy⟩ (Exit.then (λa w'=>∃st',st'=(⟨env' x,Hy⟩:St)/\Sat ⟨c.B,I,w,c.n,[]⟩ st' a w') (λ_ _ _=>False)))
  (round:∀(l D:Nat) (lp:Loop) (pre:List α) (x:α) (H1 Hy:List Ent) (I:Imm) (w:World),pre++[x]<+:L->J pre H1->
   CW ⟨c.B,I,w,c.n,[]⟩ (some l) P body ⟨env' x,.loop l lp (envGet st.env)::.obj D (.deferred (some []))::(H1++Hy)⟩ (roundEndP c.B I w l D lp (envGet st.env) L fails J Jp (pre++[x]) Hy))
  (done:∀(D:Nat) (H1 Hs':List Ent),fails=false->Hn Hs'->J L H1->Done ⟨c.B,c.I0,c.w0,c.n,{target:=.collected D,args:=#[]}::c.ds⟩ ⟨st.env,.obj D (.deferred (some []))::(H1++(Hs'++Hx))⟩ .normal Q)
  (pan:∀(D:Nat) (y:AV) (H1 Hs':List Ent),fails=true->Jp y H1->∀(I:Imm) (v:Value) (a:Act) (w:World),Sat ⟨c.B,c.I0,c.w0,c.n,{target:=.collected D,args:=#[]}::c.ds⟩ ⟨st.env,.obj D (.deferred (some []))::(H1++(Hs'++Hx))⟩ a w->Rel I w y v->Q (.panic [{v:=v,recovered:=false}]) a w):
  CWF f0 c r P (.rangeFunc (.tmp t) #[p,q] assign body) st Q:=by
 intro a w s;subst hr;obtain⟨I,hw,he,hh,hv⟩:=s.mem;rw[hH] at hh;refine wpF.rangeFunc ?_;obtain⟨lr,hlr⟩:∃lr:Loop,lr={state:=.ready,pending:=none,fn:=f0,tmps:=a.tmps,params:=#[p,q],assign,body,defers:=w.heap.size}:=⟨_,rfl⟩;have hgv:=hv t _ hg;generalize hu:a.tmps.getD t undef=u at hgv;cases hgv with
 | fn _ _ _ vf vc hf hc=>
 have hvf:vf= #[]:=by cases vf with | mk l=>cases hf;rfl
 subst hvf;have hh1:=hh.newObj hw (.deferred (some []));have hw1:=hw.alloc (.deferred (some []));have hv1:=hv.keep (keeps_alloc hw (.deferred (some [])));have hh2:=hh1.newLoop hw1 lr (envGet st.env) (by rw[hlr];exact hv1);have hw2:=hw1.alloc (.loop lr);rw[World.size_alloc] at hh2;have k2:Ext c.B I w I ((w.alloc (.deferred (some []))).alloc (.loop lr)):=(ext_alloc hw _).trans (ext_alloc hw1 _)
 let J':List α->List Ent->Prop:=λpre Hf=>∃H1,J pre H1/\Hf= .loop (w.heap.size+1) lr (envGet st.env)::.obj w.heap.size (.deferred (some []))::H1
 let Jp':AV->List Ent->Prop:=λy Hf=>∃H1,Jp y H1/\Hf= .loop (w.heap.size+1) {lr with state:=.busy} (envGet st.env)::.obj w.heap.size (.deferred (some []))::H1
 have hsz:a.tmps.size=c.n:=s.size;have hpn:p<c.n:=Nat.lt_of_succ_le (by simpa [Nat.blt] using hp);have hqn:q<c.n:=Nat.lt_of_succ_le (by simpa [Nat.blt] using hq);have hcb:CbP c.B P (.fn (.yield (w.heap.size+1)) [] []) e1 e2 L fails J' Jp':=by
  rintro pre x Hf Hy hpx ⟨H1,hJ1,rfl⟩ I2 W v vs hwW hhW hvW hvs;obtain rfl:v= .func (.yield (w.heap.size+1)) #[] #[]:=by
   cases hvW with
   | fn _ _ _ vf vc hf hc=>
    cases vf with
    | mk lf=>cases vc with
     | mk lc=>cases hf;cases hc;rfl
  cases hvs with
  | cons _ v1 _ vs' hx1 ht=>
  cases ht with
  | cons _ v2 _ vs'' hx2 ht=>
  cases ht;obtain⟨hBl,hbl,hρ,hnil⟩:=hhW.ok (.loop (w.heap.size+1) lr (envGet st.env)) Yx;have hy:=run_yield (P:=P) (args:=#[v1,v2]) hbl (by rw[hlr];rfl);refine .inr ⟨_,rfl,f0,(a.tmps.setIfInBounds p v1).setIfInBounds q v2,assign,body,?_,?_⟩
  ·rw[hlr] at hy;simpa using hy
  ·refine roundIn_of_wpInP (F:=FW none) (n:=0) trivial hf0 ?_;have hhW':HeapOk c.B I2 W (.loop (w.heap.size+1) lr (envGet st.env)::.obj w.heap.size (.deferred (some []))::(H1++Hy)):=by
    simpa [List.append_assoc] using hhW
   have hst:Sat ⟨c.B,I2,W,c.n,[]⟩ ⟨(q,e2 x)::(p,e1 x)::st.env,.loop (w.heap.size+1) lr (envGet st.env)::.obj w.heap.size (.deferred (some []))::(H1++Hy)⟩ {tmps:=(a.tmps.setIfInBounds p v1).setIfInBounds q v2,defers:=[]} W:=by
    refine⟨rfl,by simpa using hsz,I2,hwW,Ext.refl _ _ _,hhW',?_⟩;refine envGet_zip (a:={tmps:=a.tmps.setIfInBounds p v1,defers:=[]}) ?_ (by simp only[Array.size_setIfInBounds];rw[hsz];exact hqn) hx2 [];refine envGet_zip (a:=a) (λt y hty=>?_) (by rw[hsz];exact hpn) hx1 [];have:=hρ t y hty;rw[hlr] at this;exact this
   refine wpIn_mono (assignOk (w.heap.size+1) I2 W x _ _ W hst) λe a3 W3 hp3=>?_;cases e with
   | normal=>
    obtain⟨st',rfl,s3⟩:=hp3;obtain⟨I3,hw3,he3,hh3,hv3⟩:=s3.mem;obtain⟨hBl3,hbl3,_,hni3⟩:=hh3.ok _ (.head _);refine⟨_,run_beginRound hbl3 (by rw[hlr]),?_⟩;have hh4:=hh3.putLoop (lp':={lr with state:=.busy}) (.head _ _ _) rfl;have he4:Ext c.B I3 W3 I3 (W3.putObj (w.heap.size+1) (.loop {lr with state:=.busy})):=Ext.putObj hBl3 hni3;have s4:Sat ⟨c.B,I2,W,c.n,[]⟩ ⟨env' x,.loop (w.heap.size+1) {lr with state:=.busy} (envGet st.env)::.obj w.heap.size (.deferred (some []))::(H1++Hy)⟩ a3 (W3.putObj (w.heap.size+1) (.loop {lr with state:=.busy})):=
     ⟨s3.ds,s3.size,I3,hw3.putObj hni3,he3.trans he4,hh4,hv3.keep he4.keeps⟩
    refine wpIn_mono (round _ _ _ pre x H1 Hy I2 W hpx hJ1 a3 _ s4) λe a5 W5 hp5=>?_;obtain⟨I5,H5,hw5,he5,hh5,hcase⟩:=hp5;obtain⟨hBl5,hbl5,_,hni5⟩:=hh5.ok _ (.head _);cases e with
    | normal=>
     have h9:=run_endRound (P:=P) none hbl5;refine⟨_,_,h9,?_⟩;have hh6:=hh5.putLoop (lp':={lr with state:=.ready,pending:=none}) (.head _ _ _) rfl;refine⟨I5,(.loop (w.heap.size+1) lr (envGet st.env)::.obj w.heap.size (.deferred (some []))::H5)++Hy,hw5.putObj hni5,he5.trans (Ext.putObj hBl5 hni5),?_,.inl ⟨_,.b true,rfl,.val _,_,rfl,rfl,hcase.1,H5,hcase.2,rfl⟩⟩;have e9:lr={lr with state:=.ready,pending:=none}:=by rw[hlr]
     rw[e9];simpa [List.append_assoc] using hh6
    | panic ch=>
     obtain⟨hd,hpre,hfl,v,y,rfl,hrel,hjp⟩:=hcase;refine⟨hd,I5,(.loop (w.heap.size+1) {lr with state:=.busy} (envGet st.env)::.obj w.heap.size (.deferred (some []))::H5)++Hy,hw5,he5,?_,.inr ⟨v,y,rfl,hrel,_,rfl,hpre,hfl,H5,hjp,rfl⟩⟩;simpa [List.append_assoc] using hh5
    | ret=>exact hcase.elim
    | exit id=>exact hcase.elim
    | goto t=>exact hcase.elim
    | outgrown=>exact hcase.elim
   | exit id=>exact hp3.elim
   | goto t=>exact hp3.elim
   | ret=>exact hp3.elim
   | panic ch=>exact hp3.elim
   | outgrown=>exact hp3.elim
 have hcall:=hseq J' Jp' _ _ _ (λy Hf ⟨H1,h,_⟩=>hcon y H1 h) hcb _ Hx ⟨H,hJ,rfl⟩ I _ (.func (.func f) #[] vc) [.func (.yield (w.heap.size+1)) #[] #[]] hw2 (by simpa using hh2) (.fn _ _ _ _ _ .nil (hc.keep k2.keeps)) (.cons _ _ _ _ (.fn _ _ _ _ _ .nil .nil) .nil);rcases hcall with⟨f',vf',vc',e1,hok,hcalls⟩ | ⟨l,e1,_⟩
 ·simp only[Value.func.injEq,Fn.func.injEq] at e1;obtain⟨rfl,rfl,rfl⟩:=e1;refine⟨w.heap.size+1,[{target:=.collected w.heap.size,args:=#[]}],(w.alloc (.deferred (some []))).alloc (.loop lr),{target:=.fn (.func f) vc,args:=#[.func (.yield (w.heap.size+1)) #[] #[]]},(w.alloc (.deferred (some []))).alloc (.loop lr),f,
   #[.func (.yield (w.heap.size+1)) #[] #[]]++vc,(w.alloc (.deferred (some []))).alloc (.loop lr),?_,?_,λ_ _=>trivial,?_,by simp[FW],?_⟩
  ·rw[hlr];exact run_enterLoop_outer f0 a.tmps #[p,q] assign body
  ·have hev:a.eval (.tmp t)= .func (.func f) #[] vc:=hu;simp only[resolve,rangeCall,hev];simp[Deferred.ofValue,Act.eval]
  ·simp[invoke,run_callFunc hok]
  ·have e0:(#[]++[Value.func (Fn.yield (w.heap.size+1)) #[] #[]].toArray++vc)= #[Value.func (Fn.yield (w.heap.size+1)) #[] #[]]++vc:=by simp
   rw[e0] at hcalls;refine callsIn_FW (hcalls.mono λe W hR=>?_);obtain⟨I6,H6,hw6,he6,hh6,hor⟩:=hR;rcases hor with hor | hor
   ·obtain⟨v,y,rfl,_,hor⟩:=hor;obtain⟨hfl,Hn',Hs',rfl,hns,H1,hJL,rfl⟩:=hor;obtain⟨hB6,hb6,_,hni6⟩:=hh6.ok _ (.head _);have hpn6:lr.pending=none:=by rw[hlr]
    have hrun6:=run_endLoop (P:=P) hb6 (by rw[hlr];simp);rw[hpn6] at hrun6;refine⟨none,_,hrun6,?_⟩;have hh7:=(hh6.putLoop (lp':={lr with state:=.exhausted}) (.head _ _ _) rfl).tail;have he7:Ext c.B I6 W I6 (W.putObj (w.heap.size+1) (.loop {lr with state:=.exhausted})):=Ext.putObj hB6 hni6;rw[hpn6] at he7 hh7;refine done w.heap.size H1 Hs' hfl hns hJL _ _ ⟨?_,s.size,I6,hw6.putObj hni6,(he.trans (k2.trans he6)).trans he7,hh7,(hv.keep (k2.trans he6).keeps).keep he7.keeps⟩;show _::a.defers=_;rw[s.ds]
   ·obtain⟨v,y,rfl,hy,hfl,Hn',Hs',rfl,H1,hjp,rfl⟩:=hor;refine pan w.heap.size y H1 Hs' hfl hjp I6 v _ _ ⟨?_,s.size,I6,hw6,he.trans (k2.trans he6),hh6.tail,hv.keep (k2.trans he6).keeps⟩ hy;show _::a.defers=_;rw[s.ds]
 ·simp at e1
end
def methE(P:Program)(t:TypeId)(name:String):Option FuncId:=
 match P.info? t with
 | some i=>match i.methods.find? (·.name==name) with
  | some m=>match m.path.toList,m.func,P.underlying t with
   | [],some (f,true),some (.pointer _)=>some f
   | [],some (f,false),some (.pointer _)=>none
   | [],some (f,false),some _=>some f
   | _,_,_=>none
  | none=>none
 | none=>none
section
variable{P:Program}{o:Oper}{ρ:Nat->Option AV}
theorem methE_spec{t:TypeId}{name:String}{f:FuncId}(h:methE P t name=some f)(v:Value)(w:World)(fuel:Nat):(method (fuel+1) t v name).run P w= .ok (f,v) w:=by
 unfold methE at h;split at h
 ·rename_i i hi;split at h
  ·rename_i m hm;split at h
   ·rename_i f' e hpath hfunc hu;cases h;simp[method,typeInfo,hi,hm,hpath,follow,hfunc,receiverAt,run_underlying hu,Place.get]
   ·cases h
   ·rename_i f' d hnp hpath hfunc hu;cases h;cases d <;> first | (exact absurd rfl (hnp _)) | simp[method,typeInfo,hi,hm,hpath,follow,hfunc,receiverAt,run_underlying hu,Place.get]
   ·cases h
  ·cases h
 ·cases h
theorem CallOk.inv{x:Operand}{name:String}{args:Array Operand}{ts:Array TypeId}{t:TypeId}{y:AV}{f:FuncId}{ys:List (Bool×AV)}{g:Bool}(h:o.op= .call {callee:=.invoke x name,args:=args,argTypes:=ts})
  (hx:aev ρ x=some (g,.iface t y)) (hg:g=true) (hm:methE P t name=some f) (ha:aevs ρ args.toList=some ys) (hys:ys.all (·.1)=true):CallOk P ρ o f (y::ys.map (·.2)):=by
 refine⟨λI w a ho=>?_,YC⟩;have h1:=ho.get YB hx hg;have h2:=aevs_rel ho args.toList ys (λz hz=>by simp[h,Op.operands,Call.operands];right;simpa using hz) ha (by simpa using hys);generalize hv:a.eval x=u at h1;cases h1 with
 | iface _ _ v hr=>
  refine⟨v::args.toList.map a.eval,.cons _ _ _ _ hr h2,λhok=>?_⟩;have hm2:=methE_spec (P:=P) hm v w (P.types.size+Made.depth - 1);have hd:P.types.size+Made.depth - 1+1=P.types.size+Made.depth:=by simp[Made.depth]
  rw[hd] at hm2;have e3:(v::args.toList.map a.eval).toArray= #[v]++args.map a.eval:=by apply Array.ext';simp
  simp only[e3];have e4:(#[Value.iface t v]++args.map a.eval).extract 1 (#[Value.iface t v]++args.map a.eval).size=args.map a.eval:=by apply Array.ext';simp;rw[List.take_of_length_le];simp
  have e5:(#[Value.iface t v]++args.map a.eval)[0]? =some (Value.iface t v):=by rw[Array.getElem?_append_left (Nat.zero_lt_one)];rfl
  simp only[execOp,h,resolve,hv,Sem.run_bind,Sem.run_pure,Result.andThen_ok,invoke,e5,e4,callMethod,run_program,hm2,run_callFunc hok]
end
section
variable{P:Program}{H:List Ent}{ρ:Nat->Option AV}{o:Oper}
theorem POp.slClip{t:TypeId}{x y z:Operand}{k:Nat}{els:List (List AV)}{gx gy gz:Bool}{ky kz:IntKind}[ht:HasSl P t k](h:o.op= .slice t x none (some y) (some z))(hx:aev ρ x=some (gx,.sl k els))(hgx:gx=true)
  (hy:aev ρ y=some (gy,.val (.int ky (els.length:Int)))) (hgy:gy=true) (hz:aev ρ z=some (gz,.val (.int kz (els.length:Int)))) (hgz:gz=true):POp P H ρ o (.sl k els):=by
 refine .same YC λI w a ho=>?_;have h1:=ho.get Ym hx hgx;have q2:=rel_val (ho.get Ym hy hgy);have q3:=rel_val (ho.get Ym hz hgz);obtain⟨e,inf,hut,hi',hk⟩:=slSize_spec ht.h;generalize hu:a.eval x=u at h1;have run:∀(ad:Option Addr) (n cap:Nat),n=els.length->n<=cap->(Instr.sliceAt t (.slice ad n cap) none (some (.int ky (els.length:Int))) (some (.int kz (els.length:Int)))).run P w= .ok (.slice (if n=0 then ad else ad.map (·.add (0*k))) n n) w:=by
  intro ad n cap hn hc;subst hn;have h0:(0:Int)<=(els.length:Int):=Int.natCast_nonneg _;simp[Instr.sliceAt,Instr.slice,run_underlying hut,Instr.sliceBounds,Instr.sliceBound,asIntOf,sizeOf,typeInfo,hi',hk,hc]
 cases h1 with
 | sl _ _ b off len cap hl hc hm hE=>
  refine⟨.slice (some ⟨b,off,none⟩) len len,?_,.sl _ _ _ _ _ _ hl (Nat.le_refl _) (Nat.le_trans hc hm) hE⟩;have:=run (some ⟨b,off,none⟩) len cap hl.symm hc;have e0:(if len=0 then some (⟨b,off,none⟩:Addr) else (some (⟨b,off,none⟩:Addr)).map (·.add (0*k)))=some ⟨b,off,none⟩:=by split <;> simp[Addr.add]
  rw[e0] at this;simp[execOp,h,hu,q2,q3,this]
 | sl0 _ ad cap=>
  have:=run ad 0 cap rfl (Nat.zero_le _);refine⟨.slice ad 0 0,?_,.sl0 _ _ _⟩;rw[if_pos rfl] at this;simp only[execOp,h,hu,q2,q3,Option.map_none,Option.map_some,Sem.run_bind,this,Result.andThen_ok,Sem.run_pure]
end
section
variable{P:Program}{c:Ctx}{r:Option Nat}{ops:Array Oper}{l rest:List Oper}{env:List (Nat×AV)}{H:List Ent}{Q:Exit->Act->World->Prop}{o:Oper}{d:Nat}
theorem OL.mkSlL{x y:Operand}{t e by_:Nat}(m n:Nat){v:Value}{kx ky:IntKind}{mi ni:Int}{g1 g2:Bool}[hM:HasMk P t (e,by_,v)](hgd:o.guard=none)(hd:o.dst=some d)(hn:Nat.blt d c.n=true)(h:o.op= .makeSlice t x y)
  (hx:aev (envGet env) x=some (g1,.val (.int kx mi))) (hg1:g1=true) (hy:aev (envGet env) y=some (g2,.val (.int ky ni))) (hg2:g2=true) (hmi:mi=(m:Int)) (hni:ni=(n:Int)) (hmn:m<=n) (hb:by_*n<=281474976710656) (hm:n<=maxLen)
  (next:∀b,OL c r P ops rest ⟨(d,.val (.slice (some ⟨b,0,none⟩) m n))::env,.blk b e (List.replicate n (.val v))::H⟩ Q):OL c r P ops (o::rest) ⟨env,H⟩ Q:=by
 subst hmi;subst hni;intro a w s;refine wpListIn_plain hgd λK hK=>?_;obtain⟨I,hw,he,hh,hv⟩:=s.mem;obtain⟨i,z,hu,hi,hz,hk,hby,hzs⟩:=mkInfo_spec hM.h;have e1:a.eval x= .int kx (m:Int):=rel_val ((hv.ops o).get Ym hx hg1);have e2:a.eval y= .int ky (n:Int):=rel_val ((hv.ops o).get Ym hy hg2);have hrun:=run_make (P:=P) w t e i z hu hi hz kx ky (m:Int) (n:Int) Yd Yd YaG (by simp[maxLen] at hm;omega);rw[hzs,hk,Nat.mul_one,Int.toNat_natCast,Int.toNat_natCast,madeCells_one] at hrun;refine Runs.of_value (R:=λu w'=>u= .slice (some ⟨w.heap.size,0,none⟩) m n/\w'=w.alloc (.cells (List.replicate n v).toArray e)) (E:=λ_ _=>False) YC (v:=.slice (some ⟨w.heap.size,0,none⟩) m n) (w':=w.alloc (.cells (List.replicate n v).toArray e)) (by simp[execOp,h,e1,e2,hrun]) ⟨rfl,rfl⟩ K Q ?_ (λ_ _ h=>h.elim);rintro u w' ⟨rfl,rfl⟩;have h1:RelL I w (List.replicate n (.val v)) (List.replicate n v):=by have:=relL_val (I:=I) (w:=w) (List.replicate n v);rwa [List.map_replicate] at this
 refine hK _ _ (next w.heap.size _ _ ⟨YZ,YS,I,hw.alloc _,he.trans (ext_alloc hw _),hh.new hw e _ _ YaF,?_⟩);rw[hd];exact (hv.keep (keeps_alloc hw _)).put (dst:=some d) Ybs (.val _)
theorem OL.appendRoomX{s z:Operand}{t tx e k by_ k' b off n1 c1 tb:Nat}{cs:List AV}{news:List (List AV)}{y:AV}{g1 g2:Bool}{H':List Ent}[hA:HasApp P t (e,k,by_)][hX:HasSl P tx k'](hgd:o.guard=none)(hd:o.dst=some d)(hn:Nat.blt d c.n=true)
  (h:o.op= .call {callee:=.builtin .append,args:=#[s,z],argTypes:=#[t,tx]}) (hs:aev (envGet env) s=some (g1,.val (.slice (some ⟨b,off,none⟩) n1 c1))) (hg1:g1=true) (hz:aev (envGet env) z=some (g2,y)) (hg2:g2=true) (hy:AVle y (.sl k news))
  (hroom:n1+news.length<=c1) (h1:news.all allOne=true) (hf1:off+n1*k+news.flatten.length<=cs.length)
  (hu:Upd H (.blk b tb cs) (.blk b tb (cs.take (off+n1*k)++news.flatten++cs.drop (off+n1*k+news.flatten.length))) H')
  (next:OL c r P ops rest ⟨(d,.val (.slice (some ⟨b,off,none⟩) (n1+news.length) c1))::env,H'⟩ Q):OL c r P ops (o::rest) ⟨env,H⟩ Q:=by
 intro a w sat;refine wpListIn_plain hgd λK hK=>?_;obtain⟨I,hw,he,hh,hv⟩:=sat.mem;have ho:=hv.ops o;obtain⟨i,zv,hut,hi,hzz,hsz,hby,hzs,hk0⟩:=appInfo_spec hA.h;obtain⟨e',_,hu',_⟩:=slSize_spec hX.h;have hsv:=rel_val (ho.get YB hs hg1);obtain⟨us,r1,hsrc⟩:=src_of (P:=P) (tx:=tx) hu' (hy _ _ _ (ho.get YB hz hg2)) h1;rw[<-hsz] at hsrc;obtain⟨hB,vs,hblk,hrel,hni⟩:=hh.ok _ hu.mem;have hcl:vs.size=cs.length:=by have:=hrel.length;simpa using this
 have hnl:us.length=news.flatten.length:=r1.length;have hst:=run_storeCells_at P b (off+n1*k) tb us 0 vs w hblk (by rw[hnl];omega) hsrc.one;simp only[Nat.add_zero,hnl] at hst;generalize hcur:(vs.toList.take (off+n1*k)++us++vs.toList.drop (off+n1*k+news.flatten.length)).toArray=cur at hst;have hr:(Builtin.append_ #[t,tx] o.type #[a.eval s,a.eval z]).run P w= .ok (.slice (some ⟨b,off,none⟩) (n1+news.length) c1) (w.setRow b cur):=by
  have hfc:=hsrc.cells;rw[hsz] at hfc;rw[hsv];rcases hsrc.kind with⟨e2,hk2⟩ | hk2 <;> simp[Builtin.append_,run_underlying hut,run_underlying hk2,sizeOf,typeInfo,hi,hsrc.len,hroom,hfc,Addr.add_lit,hsz,hst]
 have hkeep:Keeps I w I (w.setRow b cur):=⟨λ_ _ x=>x,λb' o' hI=>by
  have hne:b'≠b:=λe=>by subst e;exact hni o' hI
  exact World.cell?_of_block (a:=⟨b',o',none⟩) (setRow_other w b b' cur hne)⟩
 have hext:Ext c.B I w I (w.setRow b cur):=⟨hkeep.imm,hkeep.cell,⟨rfl,rfl,rfl,Yx,λk hk=>setRow_other w b k cur Yd⟩⟩;have hw':WOk c.B I (w.setRow b cur):=⟨Ybm,λb' o' hI=>by rw[hkeep.cell b' o' hI];exact hw.there b' o' hI⟩;have hrel':RelL I w (cs.take (off+n1*k)++news.flatten++cs.drop (off+n1*k+news.flatten.length)) cur.toList:=by
  rw[<-hcur];exact ((hrel.take _).append r1).append (hrel.drop _)
 have hh':HeapOk c.B I (w.setRow b cur) H':=by
  refine hh.upd hu hkeep (λk hk hne=>setRow_other w b k cur (λe=>hne (by subst e;rfl))) (λ_ _ x=>.inl x) ?_ (λk hk=>.inl hk);exact⟨hB,cur,setRow_heap w b vs cur tb (0,0) hblk,hrel'.keep hkeep,hni⟩
 refine Runs.of_value (R:=λv w'=>v= .slice (some ⟨b,off,none⟩) (n1+news.length) c1/\w'=w.setRow b cur) (E:=λ_ _=>False) YC (run_appendOp h a w hr) ⟨rfl,rfl⟩ K Q ?_ (λ_ _ h=>h.elim);rintro v w' ⟨rfl,rfl⟩;refine hK _ _ (next _ _ ⟨Ybb,YaZ,I,hw',he.trans hext,hh',?_⟩);have:=(hv.keep hkeep).put (dst:=some d) (x:=.val (.slice (some ⟨b,off,none⟩) (n1+news.length) c1)) (v:=.slice (some ⟨b,off,none⟩) (n1+news.length) c1) (by rw[sat.size];exact hn) (.val _);rw[hd];exact this
theorem OL.freezeS{st:St}{d b n cap k:Nat}{t:TypeId}{els:List (List AV)}{more:List AV}{H':List Ent}(hd:envGet st.env d=some (.val (.slice (some ⟨b,0,none⟩) n cap)))(hD:Del st.H (.blk b t (els.flatten++more)) H')
  (hn:els.length=n) (hk:∀e∈els,e.length=k) (hc:n<=cap) (hm:cap<=maxLen) (h:OL c r P ops l ⟨(d,.sl k els)::st.env,H'⟩ Q):OL c r P ops l st Q:=
 λa w s=>h a w (s.freezeS hd hD hn hk hc hm)
end
theorem RetP.imp{B:Nat}{I0:Imm}{w0:World}{Φ Φ' E E':AV->List Ent->Prop}(h1:∀y H,Φ y H->Φ' y H)(h2:∀y H,E y H->E' y H):∀e w,RetP B I0 w0 Φ E e w->RetP B I0 w0 Φ' E' e w:=by
 rintro e w ⟨I',H',a,b,c,d⟩;refine⟨I',H',a,b,c,?_⟩;rcases d with⟨v,x,e1,e2,e3⟩ | ⟨v,x,e1,e2,e3⟩
 ·exact .inl ⟨v,x,e1,e2,h1 _ _ e3⟩
 ·exact .inr ⟨v,x,e1,e2,h2 _ _ e3⟩
theorem BCall.imp{B:Nat}{P:Program}{f:FuncId}{xs:List AV}{H:List Ent}{Φ Φ' E E':AV->List Ent->Prop}(h:BCall B P f xs H Φ E)(h1:∀y H,Φ y H->Φ' y H)(h2:∀y H,E y H->E' y H):BCall B P f xs H Φ' E':=
 ⟨h.1,λI w vs hw hh hr=>(h.2 I w vs hw hh hr).mono (RetP.imp h1 h2)⟩
theorem ACall.imp{P:Program}{f:FuncId}{xs:List AV}{H:List Ent}{Φ Φ' E E':AV->List Ent->Prop}(h:ACall P f xs H Φ E)(h1:∀y H,Φ y H->Φ' y H)(h2:∀y H,E y H->E' y H):ACall P f xs H Φ' E':=
 ⟨h.1,λB I w vs hw hh hr=>(h.2 B I w vs hw hh hr).mono (RetP.imp h1 h2)⟩
section
variable{c:Ctx}{r:Option Nat}{P:Program}{st:St}{Q:Exit->Act->World->Prop}
theorem CW.condKF{p q:Code}(h:CW c r P q st Q):CW c r P (.cond (.const (.bool false)) p q) st Q:=λa w s=>by
 have:=h a w s;exact wpIn_cond_false rfl this
end
theorem Done.roundNP{α:Type}{st:St}{B:Nat}{I0:Imm}{w0:World}{n l D:Nat}{lp:Loop}{ρ:Nat->Option AV}{L:List α}{fails:Bool}{J:List α->List Ent->Prop}{Jp:AV->List Ent->Prop}{pre:List α}{H Hx:List Ent}{ds:List Deferred}
  (hH:(.loop l lp ρ::.obj D (.deferred (some []))::(H++Hx)).Sublist st.H) (hl:pre=L->fails=false) (hJ:J pre H):Done ⟨B,I0,w0,n,ds⟩ st .normal (roundEndP B I0 w0 l D lp ρ L fails J Jp pre Hx):=λa w s=>
 let ⟨I,hw,he,hh,_⟩:=s.mem;⟨I,H,hw,he,hh.sub hH,hl,hJ⟩
theorem Done.roundPP{α:Type}{st:St}{B:Nat}{I0:Imm}{w0:World}{n l D:Nat}{lp:Loop}{ρ:Nat->Option AV}{L:List α}{fails:Bool}{J:List α->List Ent->Prop}{Jp:AV->List Ent->Prop}{pre:List α}{H Hx:List Ent}{y:AV}{v:Value}
  (hH:(.loop l lp ρ::.obj D (.deferred (some []))::(H++Hx)).Sublist st.H) (hy:y.Const v) (hp:pre=L) (hf:fails=true) (hJ:Jp y H):Done ⟨B,I0,w0,n,[]⟩ st (.panic [{v:=v,recovered:=false}]) (roundEndP B I0 w0 l D lp ρ L fails J Jp pre Hx):=λa w s=>
 let ⟨I,hw,he,hh,_⟩:=s.mem;⟨I,H,hw,he,hh.sub hH,s.ds,hp,hf,v,y,rfl,hy.rel _ _,hJ⟩
section
variable{P:Program}{H:List Ent}{ρ:Nat->Option AV}{o:Oper}{G:Type}
def SlReads(H:List Ent)(ρ:Nat->Option AV)(o:Oper)(y:Operand)(k n2:Nat)(ncs:List AV):Prop:=∀(B:Nat) (I:Imm) (w:World) (a:Act),HeapOk B I w H->OpsOk I w ρ a o->
 ∃b2 o2 c2 us,a.eval y= .slice (some ⟨b2,o2,none⟩) n2 c2/\RelL I w ncs us/\us.length=n2*k/\∀j v,us[j]? =some v->w.cell? ⟨b2,o2+j,none⟩=some v
theorem SlReads.sl{y:Operand}{k:Nat}{els:List (List AV)}{g:Bool}{z:AV}(hm:y∈o.op.operands)(hx:aev ρ y=some (g,z))(hg:g=true)(hle:AVle z (.sl k els))(hne:els≠ []):SlReads H ρ o y k els.length els.flatten:=by
 intro B I w a hh ho;have h0:=hle _ _ _ (ho.get hm hx hg);generalize a.eval y=u at h0;cases h0 with
 | sl0 _ a cp=>exact absurd rfl hne
 | sl _ _ b off len cap hl hc hcm he=>
  subst hl;obtain⟨us,r1,r2,r3⟩:=he.values;exact⟨b,off,cap,us,rfl,r1,r2,λj v hj=>by have:=r3 j v hj;rwa [Addr.add_lit] at this⟩
theorem SlReads.blk{y:Operand}{k b2 o2 n2 c2 tb:Nat}{cs:List AV}{g:Bool}(hm:y∈o.op.operands)(hx:aev ρ y=some (g,.val (.slice (some ⟨b2,o2,none⟩) n2 c2)))(hg:g=true)(he:Ent.blk b2 tb cs∈H)(hfit:o2+n2*k<=cs.length):
  SlReads H ρ o y k n2 ((cs.drop o2).take (n2*k)):=by
 intro B I w a hh ho;have h0:=rel_val (ho.get hm hx hg);obtain⟨hB,vs,hblk,hrel,hni⟩:=hh.ok _ he;have hl:vs.size=cs.length:=by have:=hrel.length;simpa using this
 refine⟨b2,o2,c2,(vs.toList.drop o2).take (n2*k),h0,(hrel.drop _).take _,?_,λj v hj=>?_⟩
 ·rw[List.length_take,List.length_drop,Array.length_toList];omega
 ·rw[List.getElem?_take] at hj;split at hj
  ·rw[List.getElem?_drop] at hj;rw[cell_of_blk hblk];simpa using hj
  ·cases hj
theorem allOne_take{l:List AV}{n:Nat}(h:allOne l=true):allOne (l.take n)=true:=List.all_eq_true.2 λx hx=>List.all_eq_true.1 h x (List.mem_of_mem_take hx)
theorem copy_runs{x y:Operand}{t t':TypeId}{k b o1 n1 c1 n2 m tb:Nat}{cs ncs:List AV}{H':List Ent}{g1:Bool}[ht:HasSl P t k](h:o.op= .call {callee:=.builtin .copy,args:=#[x,y],argTypes:=#[t,t']})
  (hx:aev ρ x=some (g1,.val (.slice (some ⟨b,o1,none⟩) n1 c1))) (hg1:g1=true) (hy:SlReads H ρ o y k n2 ncs) (h1:allOne (ncs.take (m*k))=true) (hm:min n2 n1=m) (hfit:o1+m*k<=cs.length)
  (hu:Upd H (.blk b tb cs) (.blk b tb (cs.take o1++ncs.take (m*k)++cs.drop (o1+m*k))) H') {B:Nat} {I:Imm} {w:World} {r:Option Nat} {a:Act} (hw:WOk B I w) (hh:HeapOk B I w H) (ho:OpsOk I w ρ a o):
  Runs P r o a w (λv w'=>WOk B I w'/\Ext B I w I w'/\HeapOk B I w' H'/\Rel I w' (.i m) v) (λ_ _=>False):=by
 have hxv:=rel_val (ho.get YB hx hg1);obtain⟨b2,o2,c2,us,hyv,r1,r2,r3⟩:=hy B I w a hh ho;obtain⟨hB,vs,hblk,hrel,hni⟩:=hh.ok _ hu.mem;have hcl:vs.size=cs.length:=by have:=hrel.length;simpa using this
 have hmn:m*k<=us.length:=by rw[r2];exact Nat.mul_le_mul_right k Yd
 have hlen:(us.take (m*k)).length=m*k:=by rw[List.length_take];omega
 obtain⟨el,i,hut,hi,hk⟩:=slSize_spec ht.h;have hone:=relL_one (r1.take (m*k)) h1;have hf:=run_firstCells_some (P:=P) w i.size m ⟨b2,o2,none⟩ n2 c2 (us.take (m*k)) (by rw[hk];exact hlen) (λj v hj=>by
  rw[List.getElem?_take] at hj;split at hj
  ·rw[Addr.add_lit];exact r3 j v hj
  ·cases hj)
 have hst:=run_storeCells_at P b o1 tb (us.take (m*k)) 0 vs w hblk (by rw[hlen];omega) hone;simp only[Nat.add_zero,hlen] at hst;generalize hcur:(vs.toList.take o1++us.take (m*k)++vs.toList.drop (o1+m*k)).toArray=cur at hst;have hr:(Builtin.copy_ #[t,t'] o.type #[a.eval x,a.eval y]).run P w= .ok (.int .i64 (m:Nat)) (w.setRow b cur):=by
  rw[hxv,hyv];simp[Builtin.copy_,run_underlying hut,sizeOf,typeInfo,hi,Builtin.lenOf,hm,hf,hst,goInt]
 have hkeep:Keeps I w I (w.setRow b cur):=⟨λ_ _ x=>x,λb' o' hI=>by
  have hne:b'≠b:=λe=>by subst e;exact hni o' hI
  exact World.cell?_of_block (a:=⟨b',o',none⟩) (setRow_other w b b' cur hne)⟩
 have hext:Ext B I w I (w.setRow b cur):=⟨hkeep.imm,hkeep.cell,⟨rfl,rfl,rfl,Yx,λk hk=>setRow_other w b k cur Yd⟩⟩;have hw':WOk B I (w.setRow b cur):=⟨Ybm,λb' o' hI=>by rw[hkeep.cell b' o' hI];exact hw.there b' o' hI⟩;have hrel':RelL I w (cs.take o1++ncs.take (m*k)++cs.drop (o1+m*k)) cur.toList:=by
  rw[<-hcur];exact ((hrel.take _).append (r1.take _)).append (hrel.drop _)
 have hh':HeapOk B I (w.setRow b cur) H':=by
  refine hh.upd hu hkeep (λk hk hne=>setRow_other w b k cur (λe=>hne (by subst e;rfl))) (λ_ _ x=>.inl x) ?_ (λk hk=>.inl hk);exact⟨hB,cur,setRow_heap w b vs cur tb (0,0) hblk,hrel'.keep hkeep,hni⟩
 exact Runs.of_value (R:=λv w'=>WOk B I w'/\Ext B I w I w'/\HeapOk B I w' H'/\Rel I w' (.i m) v) (E:=λ_ _=>False) YC (v:=.int .i64 (m:Nat)) (w':=w.setRow b cur) (by simp[execOp,h,resolve,invoke,builtin,hr]) ⟨hw',hext,hh',.val _⟩
theorem FOk.copy{x y:Operand}{t t':TypeId}{k b o1 n1 c1 n2 tb:Nat}{cs ncs:List AV}{H':G->Value->List Ent}{g1:Bool}(g:G)(m:Nat)[ht:HasSl P t k](h:o.op= .call {callee:=.builtin .copy,args:=#[x,y],argTypes:=#[t,t']})
  (hx:aev ρ x=some (g1,.val (.slice (some ⟨b,o1,none⟩) n1 c1))) (hg1:g1=true) (hy:SlReads H ρ o y k n2 ncs) (h1:allOne ncs=true) (hm:min n2 n1=m) (hfit:o1+m*k<=cs.length)
  (hu:∀v,Upd H (.blk b tb cs) (.blk b tb (cs.take o1++ncs.take (m*k)++cs.drop (o1+m*k))) (H' g v)):FOk P H H' ρ o (.i m):=λB I w r a hw hh ho=>
 (copy_runs h hx hg1 hy (allOne_take h1) hm hfit (hu (.int .i64 m)) hw hh ho).mono (λv w' ⟨a1,a2,a3,a4⟩=>⟨I,g,a1,a2,(by have e:=rel_val a4;rw[e];exact a3),a4⟩) (λ_ _ h=>h)
section
variable{c:Ctx}{r:Option Nat}{ops:Array Oper}{l rest:List Oper}{env:List (Nat×AV)}{Q:Exit->Act->World->Prop}{d:Nat}
theorem OL.copyT{x y:Operand}{t t':TypeId}{k b o1 n1 c1 n2 tb:Nat}{cs ncs:List AV}{H':List Ent}{g1:Bool}(m:Nat)[ht:HasSl P t k](hgd:o.guard=none)(hd:o.dst=some d)(hn:Nat.blt d c.n=true)(h:o.op= .call {callee:=.builtin .copy,args:=#[x,y],argTypes:=#[t,t']})
  (hx:aev (envGet env) x=some (g1,.val (.slice (some ⟨b,o1,none⟩) n1 c1))) (hg1:g1=true) (hy:SlReads H (envGet env) o y k n2 ncs) (h1:allOne (ncs.take (m*k))=true) (hm:min n2 n1=m) (hfit:o1+m*k<=cs.length)
  (hu:Upd H (.blk b tb cs) (.blk b tb (cs.take o1++ncs.take (m*k)++cs.drop (o1+m*k))) H') (next:OL c r P ops rest ⟨(d,.i m)::env,H'⟩ Q):OL c r P ops (o::rest) ⟨env,H⟩ Q:=by
 intro a w sat;refine wpListIn_plain hgd λK hK=>?_;obtain⟨I,hw,he,hh,hv⟩:=sat.mem;have:=copy_runs (P:=P) (r:=r) (a:=a) h hx hg1 hy h1 hm hfit hu hw hh (hv.ops o);refine this K Q ?_ (λ_ _ h=>h.elim);rintro v w' ⟨a1,a2,a3,a4⟩;refine hK _ _ (next _ _ ⟨Ybb,YaZ,I,a1,he.trans a2,a3,?_⟩);have:=(hv.keep a2.keeps).put (dst:=some d) (by rw[sat.size];exact hn) a4;rw[hd];exact this
theorem OL.copyC{x y:Operand}{t t':TypeId}{k b o1 n1 c1 n2 tb:Nat}{cs ncs:List AV}{H':List Ent}{g1:Bool}(m:Nat)[ht:HasSl P t k](hgd:o.guard=none)(hd:o.dst=some d)(hn:Nat.blt d c.n=true)(h:o.op= .call {callee:=.builtin .copy,args:=#[x,y],argTypes:=#[t,t']})
  (hx:aev (envGet env) x=some (g1,.val (.slice (some ⟨b,o1,none⟩) n1 c1))) (hg1:g1=true) (hy:SlReads H (envGet env) o y k n2 ncs) (h1:allOne ncs=true) (hm:min n2 n1=m) (hfit:o1+m*k<=cs.length)
  (hu:Upd H (.blk b tb cs) (.blk b tb (cs.take o1++ncs.take (m*k)++cs.drop (o1+m*k))) H') (next:OL c r P ops rest ⟨(d,.i m)::env,H'⟩ Q):OL c r P ops (o::rest) ⟨env,H⟩ Q:=OL.copyT m hgd hd hn h hx hg1 hy (allOne_take h1) hm hfit hu next
end
end
def taT(P:Program)(t:TypeId):Bool:=match P.underlying t with
 | some (.interface _)=>false
 | some _=>(match P.info? t with | some i=>i.zero.isSome | none=>false)
 | none=>false
class HasTa (P:Program) (t:Nat):Prop where h:taT P t=true
theorem taT_spec{P:Program}{t:TypeId}(h:taT P t=true):∃d i z,P.underlying t=some d/\(∀l,d≠ .interface l)/\P.info? t=some i/\i.zero=some z:=by
 unfold taT at h;split at h
 ·cases h
 ·rename_i d hd hu;split at h
  ·rename_i i hi;obtain⟨z,hz⟩:=Option.isSome_iff_exists.1 h;exact⟨d,i,z,hu,λl e=>hd l (by rw[<-e]),hi,hz⟩
  ·cases h
 ·cases h
section
variable{P:Program}{H:List Ent}{ρ:Nat->Option AV}{o:Oper}
theorem POp.taYes{x:Operand}{xt t:TypeId}{y:AV}{g:Bool}[hT:HasTa P t](h:o.op= .typeAssert x xt t true)(hx:aev ρ x=some (g,.iface t y))(hg:g=true):POp P H ρ o (.tup [y,.b true]):=by
 obtain⟨d,i,z,hu,hd,hi,hz⟩:=taT_spec hT.h;refine .same YC λI w f ho=>?_;have h1:=ho.get Ym hx hg;generalize hv:f.eval x=u at h1;cases h1 with
 | iface _ _ v hr=>
  refine⟨.tuple #[v,.bool true],?_,.tup _ _ (.cons _ _ _ _ hr (.cons _ _ _ _ (.val _) .nil))⟩;cases d <;> first | (exact absurd rfl (hd _)) | simp[execOp,h,hv,Instr.typeAssert,run_underlying hu]
theorem POp.taNo{x:Operand}{xt t t2:TypeId}{y:AV}{g:Bool}[hT:HasTa P t](h:o.op= .typeAssert x xt t true)(hx:aev ρ x=some (g,.iface t2 y))(hg:g=true)(hne:Nat.beq t2 t=false):POp P H ρ o (.tup [.any,.b false]):=by
 obtain⟨d,i,z,hu,hd,hi,hz⟩:=taT_spec hT.h;have hn:t2≠t:=λe=>by subst e;simp at hne
 refine .same YC λI w f ho=>?_;have h1:=ho.get Ym hx hg;generalize hv:f.eval x=u at h1;have hzv:(zeroValue t).run P w= .ok z w:=by simp[zeroValue,typeInfo,hi,hz]
 cases h1 with
 | iface _ _ v hr=>
  refine⟨.tuple #[z,.bool false],?_,.tup _ _ (.cons _ _ _ _ (.any _) (.cons _ _ _ _ (.val _) .nil))⟩;cases d <;> first | (exact absurd rfl (hd _)) | simp[execOp,h,hv,Instr.typeAssert,run_underlying hu,hn,hzv]
theorem POp.taNil{x:Operand}{xt t:TypeId}{g:Bool}[hT:HasTa P t](h:o.op= .typeAssert x xt t true)(hx:aev ρ x=some (g,.val .nilIface))(hg:g=true):POp P H ρ o (.tup [.any,.b false]):=by
 obtain⟨d,i,z,hu,hd,hi,hz⟩:=taT_spec hT.h;refine .same YC λI w f ho=>?_;have hv:=rel_val (ho.get Ym hx hg);have hzv:(zeroValue t).run P w= .ok z w:=by simp[zeroValue,typeInfo,hi,hz]
 refine⟨.tuple #[z,.bool false],?_,.tup _ _ (.cons _ _ _ _ (.any _) (.cons _ _ _ _ (.val _) .nil))⟩;cases d <;> first | (exact absurd rfl (hd _)) | simp[execOp,h,hv,Instr.typeAssert,run_underlying hu,hzv]
end
abbrev imapE(b:Nat)(l:List (Int×AV)):Ent:=.map b (l.map λp=>(.int .i64 p.1,p.2))
def smallKey(k:Int):Prop:=-9223372036854775808<=k/\k<=9223372036854775807
structure IMapOk(l:List (Int×AV)):Prop where
 small:∀p∈l,smallKey p.1
 nodup:(l.map (·.1)).Nodup
def getI:List (Int×AV)->Int->Option AV
 | [],_=>none
 | p::r,k=>if p.1=k then some p.2 else getI r k
def putI:List (Int×AV)->Int->AV->List (Int×AV)
 | [],k,v=>[(k,v)]
 | p::r,k,v=>if p.1=k then (k,v)::r else p::putI r k v
theorem getI_put:∀(l:List (Int×AV)) (k:Int) (v:AV) (k':Int),getI (putI l k v) k'=if k'=k then some v else getI l k'
 | [],k,v,k'=>by
  simp only[putI,getI];by_cases h:k=k'
  ·rw[if_pos h,if_pos h.symm]
  ·rw[if_neg h,if_neg (λe=>h e.symm)]
 | p::r,k,v,k'=>by
  by_cases h:p.1=k
  ·simp only[putI,if_pos h,getI];by_cases h2:k'=k
   ·rw[if_pos h2.symm,if_pos h2]
   ·rw[if_neg (λe=>h2 e.symm),if_neg h2,if_neg (λe=>h2 (by rw[<-e,h]))]
  ·simp only[putI,if_neg h,getI,getI_put r k v k'];by_cases h2:p.1=k'
   ·rw[if_pos h2,if_pos h2,if_neg (λe=>h (h2.trans e))]
   ·rw[if_neg h2,if_neg h2]
theorem putI_keys:∀(l:List (Int×AV)) (k:Int) (v:AV),(putI l k v).map (·.1)=if k∈l.map (·.1) then l.map (·.1) else l.map (·.1)++[k]
 | [],k,v=>by simp[putI]
 | p::r,k,v=>by
  by_cases h:p.1=k
  ·simp[putI,h]
  ·have ih:=putI_keys r k v;simp only[putI,if_neg h,List.map_cons,ih];by_cases h2:k∈r.map (·.1)
   ·rw[if_pos h2,if_pos (List.mem_cons_of_mem _ h2)]
   ·rw[if_neg h2,if_neg (by simp only[List.mem_cons,not_or];exact⟨λe=>h e.symm,h2⟩)];rfl
theorem IMapOk.nil:IMapOk []:=⟨λp hp=>(by cases hp),Yx⟩
theorem IMapOk.put{l:List (Int×AV)}(h:IMapOk l){k:Int}(hk:smallKey k)(v:AV):IMapOk (putI l k v):=by
 refine⟨λp hp=>?_,?_⟩
 ·have h1:p.1∈(putI l k v).map (·.1):=List.mem_map_of_mem hp;rw[putI_keys] at h1;have key:∀x∈l.map (·.1),smallKey x:=λx hx=>by
   obtain⟨q,hq,rfl⟩:=List.mem_map.1 hx;exact h.small q hq
  split at h1
  ·exact key _ h1
  ·rcases List.mem_append.1 h1 with h1 | h1
   ·exact key _ h1
   ·simp at h1;rw[h1];exact hk
 ·rw[putI_keys];split
  ·exact h.nodup
  ·rename_i hn;refine List.nodup_append.2 ⟨h.nodup,Yx,λa ha b hb=>?_⟩;simp at hb;subst hb;exact λe=>hn (e▸ha)
theorem putI_new:∀(l:List (Int×AV)) (k:Int) (v:AV),(∀p∈l,p.1≠k)->putI l k v=l++[(k,v)]
 | [],k,v,_=>rfl
 | p::r,k,v,h=>by rw[putI,if_neg (h p (.head _)),putI_new r k v (λq hq=>h q (.tail _ hq))];rfl
theorem getI_new:∀(l:List (Int×AV)) (k:Int),(∀p∈l,p.1≠k)->getI l k=none
 | [],k,_=>rfl
 | p::r,k,h=>by rw[getI,if_neg (h p (.head _)),getI_new r k (λq hq=>h q (.tail _ hq))]
theorem putI_at:∀(l:List (Int×AV)) (k:Int) (v:AV) (j:Nat) (u:AV),(l.map (·.1)).Nodup->l[j]? =some (k,u)->putI l k v=l.set j (k,v)/\getI l k=some u
 | [],k,v,j,u,_,h=>by simp at h
 | p::r,k,v,0,u,hn,h=>by
  simp at h;subst h;simp[putI,getI]
 | p::r,k,v,j+1,u,hn,h=>by
  have h':r[j]? =some (k,u):=by simpa using h
  have hne:p.1≠k:=by
   rw[List.map_cons,List.nodup_cons] at hn;intro e;exact hn.1 (by rw[e];exact List.mem_map.2 ⟨(k,u),List.mem_of_getElem? h',rfl⟩)
  obtain⟨h1,h2⟩:=putI_at r k v j u (by rw[List.map_cons,List.nodup_cons] at hn;exact hn.2) h';rw[putI,getI,if_neg hne,if_neg hne,h1,h2];exact⟨rfl,rfl⟩
class HasMapI (P:Program) (t:Nat) (x:outParam (Nat×Nat)):Prop where
 h:P.underlying t=some (.map x.1 x.2)
 int:P.underlying x.1=some (.int .i64)
class HasZ (P:Program) (t:Nat) (z:outParam Value):Prop where
 h:((P.info? t).bind (·.zero))=some z
theorem relL_set{I:Imm}{w:World}:∀{xs:List AV} {vs:List Value},RelL I w xs vs->∀{x:AV} {v:Value},Rel I w x v->∀{j:Nat},RelL I w (xs.set j x) (vs.set j v)
 | _,_,.nil,x,v,h,j=>.nil
 | _,_,.cons x0 v0 xs vs hx ht,x,v,h,0=>.cons _ _ _ _ h ht
 | _,_,.cons x0 v0 xs vs hx ht,x,v,h,j+1=>.cons _ _ _ _ hx (relL_set ht h)
theorem goodKey_int{P:Program}{k:TypeId}(hk:P.underlying k=some (.int .i64)){n:Int}(hn:smallKey n):goodKey P k (.int .i64 n):=by
 refine⟨.int .i64 n,?_⟩;have:(Go.Lit.int .i64 n).wf=true:=by
  simp only[Go.Lit.wf];rw[Bool.and_eq_true,decide_eq_true_eq,decide_eq_true_eq];exact hn
 simp[keyOf,hk,mapKey,this]
section
variable{P:Program}{H:List Ent}{ρ:Nat->Option AV}{o:Oper}
theorem zero_of{t:TypeId}{z:Value}(h:((P.info? t).bind (·.zero))=some z)(w:World):(zeroValue t).run P w= .ok z w:=by
 cases hi:P.info? t with
 | none=>simp[hi] at h
 | some inf=>simp[hi] at h;simp[zeroValue,typeInfo,hi,h]
theorem POp.lookupI{t:TypeId}{x kx:Operand}{b:Nat}{ke:Nat×Nat}{l:List (Int×AV)}{k:Int}{g1 g2:Bool}{zv:Value}[hM:HasMapI P t ke][hZ:HasZ P ke.2 zv](h:o.op= .lookup t x kx false)
  (hx:aev ρ x=some (g1,.val (.map (some b)))) (hg1:g1=true) (hk:aev ρ kx=some (g2,.i k)) (hg2:g2=true) (hm:imapE b l∈H) (hl:IMapOk l) (hsm:smallKey k):POp P H ρ o ((getI l k).getD (.val zv)):=by
 intro B I w r a Hc hw hh hs ho;have hxv:=rel_val (ho.get Ym hx hg1);have hkv:=rel_val (ho.get Ym hk hg2);obtain⟨hB,⟨en,cl,hb,hkeys,hvals⟩,hni⟩:=hh.ok _ (hs _ hm);have K:=Go.Maps.int_keyed hM.int;obtain⟨lx,hlx⟩:=goodKey_int hM.int hsm;have hall:∀e∈en.toList,∃l,keyOf P ke.1 e.key=some l:=λe he=>by
  have:e.key∈(l.map λp=>((Value.int .i64 p.1,p.2):Value×AV)).map (·.1):=by rw[<-hkeys];exact List.mem_map_of_mem he
  rw[List.map_map] at this;obtain⟨p,hp,hpe⟩:=List.mem_map.1 this;rw[<-hpe];exact goodKey_int hM.int (hl.small p hp)
 have hchk:=K.check w en.isEmpty hlx;have hget:(getObj b).run P w= .ok (.map en cl) w:=by simp[getObj,Sem.run,hb]
 rcases K.find w hlx en.toList hall with⟨hf,hne⟩ | ⟨j,e,hf,hj,hke⟩
 ·have hz:=zero_of hZ.h w;have hrun:(execOp a.eval o).run P w= .ok (.value zv) w:=by
   simp[execOp,h,Instr.lookup,run_underlying hM.h,hxv,hkv,hget,hchk,hf,hz]
  have hg:getI l k=none:=getI_new l k λp hp e=>by
   have:(Value.int .i64 p.1)∈en.toList.map (·.key):=by rw[hkeys,List.map_map];exact List.mem_map.2 ⟨p,hp,rfl⟩
   obtain⟨e',he',hee⟩:=List.mem_map.1 this;exact hne e' he' (by rw[hee,e])
  refine Runs.of_value YC hrun ⟨I,hw,Ext.refl _ _ _,hh,?_⟩;rw[hg];exact .val _
 ·have hrun:(execOp a.eval o).run P w= .ok (.value e.val) w:=by
   simp[execOp,h,Instr.lookup,run_underlying hM.h,hxv,hkv,hget,hchk,hf]
  obtain⟨u,hu1,hu2⟩:=relL_get hvals (i:=j) (v:=e.val) (by rw[List.getElem?_map,hj];rfl);have hlj:l[j]? =some (k,u):=by
   rw[List.map_map,List.getElem?_map] at hu1;cases hp:l[j]? with
   | none=>rw[hp] at hu1;cases hu1
   | some p=>
    rw[hp] at hu1;have h2:((l.map λp=>((Value.int .i64 p.1,p.2):Value×AV)).map (·.1))[j]? =some e.key:=by rw[<-hkeys,List.getElem?_map,hj];rfl
    rw[List.map_map,List.getElem?_map,hp] at h2;simp at hu1 h2;rw[hke] at h2;simp at h2;rw[show p=(k,u) from Prod.ext h2 hu1]
  refine Runs.of_value YC hrun ⟨I,hw,Ext.refl _ _ _,hh,?_⟩;rw[(putI_at l k .any j u hl.nodup hlj).2];exact hu2
theorem mapPut_runs{t:TypeId}{x kx z:Operand}{b:Nat}{ke:Nat×Nat}{l:List (Int×AV)}{k:Int}{u u':AV}{g1 g2 g3:Bool}{H':List Ent}[hM:HasMapI P t ke](h:o.op= .mapUpdate t x kx z\/o.op= .insert t x kx z)
  (hx:aev ρ x=some (g1,.val (.map (some b)))) (hg1:g1=true) (hk:aev ρ kx=some (g2,.i k)) (hg2:g2=true) (hz:aev ρ z=some (g3,u)) (hg3:g3=true) (hle:AVle u u')
  (hu:Upd H (imapE b l) (imapE b (putI l k u')) H') (hl:IMapOk l) (hsm:smallKey k):SOk P H H' ρ o:=by
 intro B I w r a hw hh ho;have hops:x∈o.op.operands/\kx∈o.op.operands/\z∈o.op.operands:=by rcases h with h | h <;> simp[h,Op.operands]
 have hnd:∀c,o.op≠ .defer c:=by rcases h with h | h <;> simp[h]
 have hxv:=rel_val (ho.get hops.1 hx hg1);have hkv:=rel_val (ho.get hops.2.1 hk hg2);have hzv:=hle _ _ _ (ho.get hops.2.2 hz hg3);obtain⟨hB,⟨en,cl,hb,hkeys,hvals⟩,hni⟩:=hh.ok _ hu.mem;have K:=Go.Maps.int_keyed hM.int;obtain⟨lx,hlx⟩:=goodKey_int hM.int hsm;have hall:∀e∈en.toList,∃l,keyOf P ke.1 e.key=some l:=λe he=>by
  have:e.key∈(l.map λp=>((Value.int .i64 p.1,p.2):Value×AV)).map (·.1):=by rw[<-hkeys];exact List.mem_map_of_mem he
  rw[List.map_map] at this;obtain⟨p,hp,hpe⟩:=List.mem_map.1 this;rw[<-hpe];exact goodKey_int hM.int (hl.small p hp)
 have hchk:=K.check w false hlx;have hget:(getObj b).run P w= .ok (.map en cl) w:=by simp[getObj,Sem.run,hb]
 have hset:∀o':Obj,(setObj b o').run P w= .ok () (w.putObj b o'):=λo'=>by simp[setObj,Sem.run,hb,World.putObj]
 have hlt:b<w.heap.size:=(Array.getElem?_eq_some_iff.1 hb).1;have fin:∀(en':Array MapEntry) (cl':Nat),en'.toList.map (·.key)=(putI l k u').map (λp=>Value.int .i64 p.1)->RelL I w ((putI l k u').map (·.2)) (en'.toList.map (·.val))->
   (execOp a.eval o).run P w= .ok .skip (w.putObj b (.map en' cl'))->Runs P r o a w (λv w'=>∃I',WOk B I' w'/\Ext B I w I' w'/\HeapOk B I' w' H') (λ_ _=>False):=by
  intro en' cl' h1 h2 hrun;have hkp:Keeps I w I (w.putObj b (.map en' cl')):=putObj_keeps (B:=B) hni;refine Runs.of_skip hnd hrun ⟨I,hw.putObj hni,Ext.putObj hB hni,?_⟩;refine hh.upd hu hkp (λb' _ hne=>World.putObj_heap_other (λe=>hne Ybw)) (λ_ _ x=>.inl x) ⟨hB,⟨en',cl',World.putObj_heap_same hlt,?_,?_⟩,hni⟩ (λ_ hb=>.inl hb)
  ·rw[h1,List.map_map];rfl
  ·rw[List.map_map];exact h2.keep hkp
 have hkeys':en.toList.map (·.key)=l.map λp=>Value.int .i64 p.1:=by rw[hkeys,List.map_map];rfl
 have hvals':RelL I w (l.map (·.2)) (en.toList.map (·.val)):=by rw[List.map_map] at hvals;exact hvals
 rcases K.find w hlx en.toList hall with⟨hf,hne⟩ | ⟨j,e,hf,hj,hke⟩
 ·have hnew:∀p∈l,p.1≠k:=λp hp e=>by
   have:(Value.int .i64 p.1)∈en.toList.map (·.key):=by rw[hkeys'];exact List.mem_map.2 ⟨p,hp,rfl⟩
   obtain⟨e',he',hee⟩:=List.mem_map.1 this;exact hne e' he' (by rw[hee,e])
  refine fin (en.push {key:=.int .i64 k,val:=a.eval z,born:=cl}) (cl+1) ?_ ?_ ?_
  ·rw[putI_new l k u' hnew];simp[hkeys']
  ·rw[putI_new l k u' hnew];simp only[Array.toList_push,List.map_append,List.map_cons,List.map_nil];exact hvals'.append (.cons _ _ _ _ hzv .nil)
  ·rcases h with h | h <;> simp[execOp,h,Instr.mapUpdate,run_underlying hM.h,hxv,hkv,hget,hchk,hf,hset]
 ·have hej:en[j]? =some e:=by simpa using hj
  have hstay:=K.stays w hlx;obtain⟨u0,hu1,hu2⟩:=relL_get hvals' (i:=j) (v:=e.val) (by rw[List.getElem?_map,hj];rfl);have hlj:l[j]? =some (k,u0):=by
   rw[List.getElem?_map] at hu1;cases hp:l[j]? with
   | none=>rw[hp] at hu1;cases hu1
   | some p=>
    rw[hp] at hu1;have h2:(l.map λp=>Value.int .i64 p.1)[j]? =some e.key:=by rw[<-hkeys',List.getElem?_map,hj];rfl
    rw[List.getElem?_map,hp] at h2;simp at hu1 h2;rw[hke] at h2;simp at h2;rw[show p=(k,u0) from Prod.ext h2 hu1]
  have hset2:=(putI_at l k u' j u0 hl.nodup hlj).1;have hmod:(en.modify j λe=>{e with key:=.int .i64 k,val:=a.eval z}).toList=en.toList.set j {e with key:=.int .i64 k,val:=a.eval z}:=by
   apply List.ext_getElem?;intro i;rw[Array.getElem?_toList,Array.getElem?_modify,List.getElem?_set];by_cases hij:j=i
   ·subst hij;rw[if_pos rfl,if_pos rfl,hej,if_pos (by have:=(List.getElem?_eq_some_iff.1 hj).1;exact this)];rfl
   ·rw[if_neg hij,if_neg hij];simp
  refine fin (en.modify j λe=>{e with key:=.int .i64 k,val:=a.eval z}) cl ?_ ?_ ?_
  ·rw[hmod,hset2,List.map_set,List.map_set,hkeys']
  ·rw[hmod,hset2,List.map_set,List.map_set];exact relL_set hvals' hzv
  ·rcases h with h | h <;> simp[execOp,h,Instr.mapUpdate,run_underlying hM.h,hxv,hkv,hget,hchk,hf,hset,hej,hke,hstay]
end
section
variable{c:Ctx}{r:Option Nat}{P:Program}{ops:Array Oper}{l rest:List Oper}{env:List (Nat×AV)}{H:List Ent}{Q:Exit->Act->World->Prop}{d:Nat}{o:Oper}
theorem OL.mapPut{t:TypeId}{x kx z:Operand}{b:Nat}{ke:Nat×Nat}{l:List (Int×AV)}{k:Int}{u u':AV}{g1 g2 g3:Bool}{H':List Ent}[hM:HasMapI P t ke](hgd:o.guard=none)(hd:o.dst=none)(h:o.op= .mapUpdate t x kx z\/o.op= .insert t x kx z)
  (hx:aev (envGet env) x=some (g1,.val (.map (some b)))) (hg1:g1=true) (hk:aev (envGet env) kx=some (g2,.i k)) (hg2:g2=true) (hz:aev (envGet env) z=some (g3,u)) (hg3:g3=true) (hle:AVle u u')
  (hu:Upd H (imapE b l) (imapE b (putI l k u')) H') (hl:IMapOk l) (hsm:smallKey k) (next:OL c r P ops rest ⟨env,H'⟩ Q):OL c r P ops (o::rest) ⟨env,H⟩ Q:=by
 intro a w s;refine wpListIn_plain hgd λK hK=>?_;obtain⟨I,hw,he,hh,hv⟩:=s.mem;refine (mapPut_runs h hx hg1 hk hg2 hz hg3 hle hu hl hsm) c.B I w r a hw hh (hv.ops o) K Q ?_ (λ_ _ h=>h.elim);rintro v w' ⟨I',a1,a2,a3⟩;refine hK _ _ ?_;rw[hd];exact next _ _ ⟨s.ds,s.size,I',a1,he.trans a2,a3,hv.keep a2.keeps⟩
end
section
variable{P:Program}{H:List Ent}{ρ:Nat->Option AV}{o:Oper}{X:PX}
theorem appendOwn_runs{y0:AV}{s z:Operand}{t tx e k by_ k':Nat}{els news:List (List AV)}{v:Value}{y:AV}{g1 g2:Bool}{H':Value->List Ent}[hA:HasApp P t (e,k,by_)][hX:HasSl P tx k']
  (h:o.op= .call {callee:=.builtin .append,args:=#[s,z],argTypes:=#[t,tx]}) (hs:aev ρ s=some (g1,y0)) (hg1:g1=true) (hy0:AVle y0 (.as (.sl k els) v)) (hz:aev ρ z=some (g2,y)) (hg2:g2=true) (hy:AVle y (.sl k news))
  (h1:news.all allOne=true) (hu:∀v',Upd H (.own e k v) (.own e k v') (H' v')) (hb:(els.length+news.length)*by_<=140737488355328) (hb':els.length+news.length<=9223372036854775807)
  {B:Nat} {I:Imm} {w:World} {r:Option Nat} {a:Act} (hw:WOk B I w) (hh:HeapOk B I w H) (hv:OpsOk I w ρ a o):
  Runs P r o a w (λx w'=>∃I',WOk B I' w'/\Ext B I w I' w'/\HeapOk B I' w' (H' x)/\Rel I' w' (.as (.sl k (els++news)) x) x) (λ_ _=>False):=by
 obtain⟨i,zv,hut,hi,hzz,hsz,hby,hzs,hk0⟩:=appInfo_spec hA.h;obtain⟨e',_,hu',_⟩:=slSize_spec hX.h;have hsv0:=hy0 _ _ _ (hv.get YB hs hg1);obtain⟨hsv,hold⟩:a.eval s=v/\Rel I w (.sl k els) v:=by
  generalize a.eval s=u at hsv0;cases hsv0 with
  | as _ _ hx=>exact⟨rfl,hx⟩
 have hzr:=hy _ _ _ (hv.get YB hz hg2);obtain⟨us,r1,r2⟩:=src_of (P:=P) (tx:=tx) hu' hzr h1;rw[<-hsz] at r2;obtain⟨n,xs,hrow,hni⟩:=hh.ok _ (hu v).mem
 suffices hmain:∃v' I' w',(Builtin.append_ #[t,tx] o.type #[v,a.eval z]).run P w= .ok v' w'/\WOk B I' w'/\Ext B I w I' w'/\HeapOk B I' w' (H' v')/\Rel I' w' (.sl k (els++news)) v' by
  obtain⟨v',I',w',e1,e2,e3,e4,e5⟩:=hmain;exact Runs.of_value (R:=λx w'=>∃I',WOk B I' w'/\Ext B I w I' w'/\HeapOk B I' w' (H' x)/\Rel I' w' (.as (.sl k (els++news)) x) x) (E:=λ_ _=>False) YC (run_appendOp h a w (by rw[hsv];exact e1)) ⟨I',e2,e3,e4,.as _ _ e5⟩
 have hnl:=hzr.elsLen;have hol:=hold.elsLen;by_cases hn:news.length=0
 ·have hel:news= []:=List.eq_nil_of_length_eq_zero hn;subst hel;have hus:us= []:=by cases r1;rfl
  subst hus;obtain⟨ad,m,cp,hvv,hle⟩:∃ad m cp,v= .slice ad m cp/\m<=cp:=by
   rcases hrow.2 with⟨rfl,_⟩ | ⟨g,cap,cur,rfl,_,_,hc,_⟩
   ·exact⟨_,_,_,rfl,Nat.le_refl _⟩
   ·exact⟨_,_,_,rfl,hc⟩
  have hr:=run_append_nothing (P:=P) w t tx o.type e i hut hi ad m cp hle (a.eval z) r2;rw[<-hvv] at hr;exact⟨v,I,w,hr,hw,Ext.refl _ _ _,hh.upd (hu v) ⟨λ_ _ x=>x,λ_ _ _=>rfl⟩ (λ_ _ _=>rfl) (λ_ _ x=>.inl x) ⟨n,xs,hrow,hni⟩ (λ_ hb=>.inl hb),by simpa using hold⟩
 have grown:∀(ad:Option Addr) (m old:Nat) (olds:List Value),m=els.length->RelL I w els.flatten olds->(Builtin.firstCells i.size m (.slice ad m old)).run P w.drew= .ok olds.toArray w.drew->old<m+news.length->v= .slice ad m old->
   ∃v' I' w',(Builtin.append_ #[t,tx] o.type #[v,a.eval z]).run P w= .ok v' w'/\WOk B I' w'/\Ext B I w I' w'/\HeapOk B I' w' (H' v')/\Rel I' w' (.sl k (els++news)) v':=by
  intro ad m old olds hm hrel hfc hlt hveq;subst hm;have hnc:Builtin.nextslicecap (els.length+news.length) old*i.bytes<=281474976710656:=growslice_fits hlt (by rw[hby];exact hb);have hr:=run_append_grow_src (P:=P) w t tx o.type e i zv hut hi hzz ad els.length old olds hfc (a.eval z) news.length us r2 hlt Yd hnc;rw[<-hveq] at hr;generalize hG:grownCap w (els.length+news.length) old e=G at hr;have hge:els.length+news.length<=G:=by rw[<-hG];exact grownCap_ge w _ old e
  have hcm:G<=maxLen:=by rw[<-hG];exact grownCap_le_maxLen w _ old e Y0
  generalize hcur:(olds++us).toArray++Builtin.zeroCells zv.cells (G - (els.length+news.length))=cur at hr;have hlo:olds.length=els.length*k:=by rw[hrel.length,flatten_len hol]
  have hlu:us.length=news.length*k:=by rw[r1.length,flatten_len hnl]
  have hcs:cur.size=G*k:=by
   rw[<-hcur];simp only[Array.size_append,List.size_toArray,List.length_append,size_zeroCells,hzs,hlo,hlu, <-Nat.add_mul];congr 1;omega
  have hxlen:(olds++us).length=(els.length+news.length)*k:=by rw[List.length_append,hlo,hlu,Nat.add_mul]
  have htk:cur.toList.take ((els.length+news.length)*k)=olds++us:=by
   rw[<-hcur, <-hxlen,Array.toList_append];exact List.take_left
  have hwd:=hw.drew
  let I':Imm:=λb o=>I b o\/(b=w.heap.size/\o<(els.length+news.length)*k)
  have hkk:Keeps I w I' (w.drew.alloc (.cells cur e)):=⟨λ_ _ x=>.inl x,λb o x=>(keeps_alloc hwd _).cell b o x⟩;have hnew:(w.drew.alloc (.cells cur e)).heap[w.heap.size]? =some (.cells cur e (0,0)):=heap_alloc_new w.drew _;refine⟨.slice (some ⟨w.heap.size,0,none⟩) (els.length+news.length) G,I',_,hr,⟨(hwd.alloc _).base,λb o hx=>?_⟩,⟨hkk.imm,hkk.cell,(ext_drew.trans (ext_alloc hwd (.cells cur e))).below⟩,?_,?_⟩
  ·rcases hx with hx | ⟨rfl,hx⟩
   ·exact (hwd.alloc _).there b o hx
   ·have:o<cur.size:=by rw[hcs];exact Nat.lt_of_lt_of_le hx (Nat.mul_le_mul_right k hge)
    exact⟨cur[o],by rw[cell_of_blk hnew];exact Array.getElem?_eq_getElem this⟩
  ·refine hh.upd (hu _) hkk (λb hlt _=>Below.heap_alloc w.drew _ b hlt) (λb o hx=>hx.elim .inl (λhx=>.inr (.inr (by rw[hx.1];exact Nat.le_refl _)))) ?_ (λb hb=>.inr ?_)
   ·refine⟨els.length+news.length,olds++us,⟨hxlen,.inr ⟨w.heap.size,G,cur,rfl,hw.base,hnew,hge,hcm,hcs,htk⟩⟩,λg hg o ho hI=>?_⟩;simp[Value.ownBlock] at hg;subst hg;rcases hI with hI | ⟨_,hI⟩
    ·exact absurd (hw.lt hI) (Nat.lt_irrefl _)
    ·omega
   ·simp[Ent.foot,Value.ownBlock] at hb;omega
  ·refine .sl _ _ _ _ _ _ Yx hge hcm (els_of_cells _ _ (λx hx=>(List.mem_append.1 hx).elim (hol x) (hnl x)) ?_);rw[List.flatten_append];refine cells_of hnew _ (olds++us) 0 ((hrel.append r1).keep hkk) (λj u hu=>?_) (λj hj=>.inr ⟨rfl,?_⟩)
   ·rw[<-htk,List.getElem?_take] at hu;split at hu
    ·simpa using hu
    ·cases hu
   ·rw[<-List.flatten_append,flatten_len (λx hx=>(List.mem_append.1 hx).elim (hol x) (hnl x)),List.length_append] at hj;omega
 rcases hrow.2 with⟨hv0,hn0⟩ | ⟨g,cap,cur,hv1,hBg,hg,hnc,hcm,hcs,htake⟩
 ·-- from nil
  subst hv0;have hel:els= []:=by
   cases hold with
   | sl0=>rfl
  subst hel;exact grown none 0 0 [] rfl .nil (by simp[Builtin.firstCells]) YI rfl
 ·subst hv1;have hnels:n=els.length:=by cases hold with
   | sl0=>rfl
   | sl _ _ _ _ _ _ hl _ _ _=>exact hl.symm
  subst hnels;have hcells:Els I w k g 0 els:=by cases hold with
   | sl0=>exact .nil _ _ _
   | sl _ _ _ _ _ _ _ _ _ he=>exact he
  obtain⟨olds,q1,q2,q3⟩:=hcells.values;have hcl:∀j u,olds[j]? =some u->cur[j]? =some u:=λj u hu=>by
   have:=q3 j u hu;have e1:(⟨g,0,none⟩:Addr).add j=⟨g,j,none⟩:=by unfold Addr.add;split <;> simp_all
   rw[e1,cell_of_blk hg] at this;exact this
  have holds:olds=xs:=by
   rw[<-htake];apply List.ext_getElem?;intro j;rw[List.getElem?_take];by_cases hj:j<els.length*k
   ·rw[if_pos hj];have hlt:j<olds.length:=by omega
    rw[List.getElem?_eq_getElem hlt];have:=hcl j _ (List.getElem?_eq_getElem hlt);simpa using this.symm
   ·rw[if_neg hj,List.getElem?_eq_none Yd]
  by_cases hroom:els.length+news.length<=cap
  ·-- in place
   have hfit:els.length*i.size+us.length<=cur.size:=by rw[hcs,r2.newsLen,hsz, <-Nat.add_mul];exact Nat.mul_le_mul_right _ hroom
   have hlu:us.length=news.length*k:=by rw[r1.length,flatten_len hnl]
   have hst:=run_storeCells_at P g (els.length*i.size) e us 0 cur w hg (by simpa using hfit) r2.one;simp only[Nat.add_zero] at hst;have hr:(Builtin.append_ #[t,tx] o.type #[.slice (some ⟨g,0,none⟩) els.length cap,a.eval z]).run P w= .ok (.slice (some ⟨g,0,none⟩) (els.length+news.length) cap) (w.setRow g (cur.toList.take (els.length*i.size)++us++cur.toList.drop (els.length*i.size+us.length)).toArray):=by
    rcases r2.kind with⟨e'',hk⟩ | hk <;> simp[Builtin.append_,run_underlying hut,run_underlying hk,sizeOf,typeInfo,hi,r2.len,hroom,r2.cells,Addr.add_lit,hst]
   rw[hsz] at hr;generalize hcur':(cur.toList.take (els.length*k)++us++cur.toList.drop (els.length*k+us.length)).toArray=cur' at hr;have hblk:(w.setRow g cur').heap[g]? =some (.cells cur' e (0,0)):=setRow_heap w g cur cur' e (0,0) hg
   let I':Imm:=λb o=>I b o\/(b=g/\o<(els.length+news.length)*k)
   have hcs':cur'.size=cap*k:=by
    rw[<-hcur'];simp only[List.size_toArray,List.length_append,List.length_take,List.length_drop,Array.length_toList];rw[hsz] at hfit;omega
   have htk':cur'.toList.take ((els.length+news.length)*k)=xs++us:=by
    rw[<-hcur',htake];have:(els.length+news.length)*k=(xs++us).length:=by rw[List.length_append,hrow.1,hlu,Nat.add_mul]
    rw[this];exact List.take_left
   have hold':∀j,j<els.length*k->cur'[j]? =cur[j]? :=λj hj=>by
    rw[<-hcur'];have h0:j<cur.size:=by rw[hcs];exact Nat.lt_of_lt_of_le hj (Nat.mul_le_mul_right k hnc)
    simp only[List.getElem?_toArray];rw[List.append_assoc,List.getElem?_append_left YI,List.getElem?_take,if_pos hj];simp
   have hkk:Keeps I w I' (w.setRow g cur'):=⟨λ_ _ x=>.inl x,λb o x=>by
    by_cases hb:b=g
    ·subst hb;have ho:o<els.length*k:=Nat.lt_of_not_le λhle=>hni b rfl o hle x;rw[cell_of_blk hblk,cell_of_blk hg];exact hold' o ho
    ·exact World.cell?_of_block (a:=⟨b,o,none⟩) (setRow_other w g b cur' hb)⟩
   refine⟨_,I',_,hr,⟨Ybm,λb o hx=>?_⟩,⟨hkk.imm,hkk.cell,⟨rfl,rfl,rfl,Yx,λj hj=>setRow_other w g j cur' Yd⟩⟩,?_,?_⟩
   ·rcases hx with hx | ⟨rfl,hx⟩
    ·rw[hkk.cell b o hx];exact hw.there b o hx
    ·have:o<cur'.size:=by rw[hcs'];exact Nat.lt_of_lt_of_le hx (Nat.mul_le_mul_right k hroom)
     exact⟨cur'[o],by rw[cell_of_blk hblk];exact Array.getElem?_eq_getElem this⟩
   ·refine hh.upd (hu _) hkk (λb hlt hne=>setRow_other w g b cur' (λe=>hne (by subst e;rfl))) (λb o hx=>hx.elim .inl (λhx=>.inr (.inl (by rw[hx.1];rfl)))) ?_ (λb hb=>.inl hb);refine⟨els.length+news.length,xs++us,⟨by rw[List.length_append,hrow.1,hlu,Nat.add_mul],.inr ⟨g,cap,cur',rfl,hBg,hblk,hroom,hcm,hcs',htk'⟩⟩,λg' hg' o ho hI=>?_⟩;simp[Value.ownBlock] at hg';subst hg';rcases hI with hI | ⟨_,hI⟩
    ·exact hni g rfl o (Nat.le_trans (Nat.mul_le_mul_right k Yd) ho) hI
    ·omega
   ·refine .sl _ _ _ _ _ _ Yx hroom hcm (els_of_cells _ _ (λx hx=>(List.mem_append.1 hx).elim (hol x) (hnl x)) ?_);rw[List.flatten_append];rw[holds] at q1;refine cells_of hblk _ (xs++us) 0 ((q1.append r1).keep hkk) (λj u hu=>?_) (λj hj=>.inr ⟨rfl,?_⟩)
    ·rw[<-htk',List.getElem?_take] at hu;split at hu
     ·simpa using hu
     ·cases hu
    ·rw[<-List.flatten_append,flatten_len (λx hx=>(List.mem_append.1 hx).elim (hol x) (hnl x)),List.length_append] at hj;omega
  ·refine grown (some ⟨g,0,none⟩) els.length cap olds rfl q1 ?_ Yd rfl;rw[hsz];exact run_firstCells_some w.drew k els.length ⟨g,0,none⟩ els.length cap olds q2 (by simpa using q3)
theorem KOk.own{y0:AV}{s z:Operand}{t tx e k by_ k':Nat}{els news:List (List AV)}{v:Value}{y:AV}{g1 g2:Bool}{H':Value->List Ent}{x:Value->AV}[hA:HasApp P t (e,k,by_)][hX:HasSl P tx k']
  (h:o.op= .call {callee:=.builtin .append,args:=#[s,z],argTypes:=#[t,tx]}) (hs:aev ρ s=some (g1,y0)) (hg1:g1=true) (hy0:AVle y0 (.as (.sl k els) v)) (hz:aev ρ z=some (g2,y)) (hg2:g2=true) (hy:AVle y (.sl k news))
  (h1:news.all allOne=true) (hb:(els.length+news.length)*by_<=140737488355328) (hb':els.length+news.length<=9223372036854775807) (hu:∀v',Upd H (.own e k v) (.own e k v') (H' v')) (hx:∀v',x v'= .as (.sl k (els++news)) v'):KOk X P H H' x ρ o:=λB I w r a hw hh ho=>
 (appendOwn_runs h hs hg1 hy0 hz hg2 hy h1 hu hb hb' hw hh ho).mono (λv w' ⟨I',a1,a2,a3,a4⟩=>⟨I',a1,a2,a3,by rw[hx];exact a4⟩) (λ_ _ h=>h.elim)
theorem rowOwn_runs{t e by_:Nat}{n k:Nat}{ps:Array (Nat×Operand)}{zs:List Value}{ys:List (Bool×AV)}{els:List (List AV)}[hA:HasApp P t (e,k,by_)][hR:HasRow P t (k,zs)](h:o.op= .buildSlice t n ps)
  (hy:aevs ρ (ps.toList.map (·.2))=some ys) (hg:ys.all (·.1)=true) (hels:(partsOf ps.toList ys).map (λx=>bcells x.2)=els) (hlen:Nat.beq els.length n=true) (hk:els.all (λe=>Nat.beq e.length k)=true)
  (hsm:Nat.ble (n*k) 16777216=true) (hpos:Nat.blt 0 (n*k)=true)
  (hf:bfill (λi=>some (i*k,k)) ((rowZero n k zs).map .val) (partsOf ps.toList ys)=some els.flatten)
  {B:Nat} {I:Imm} {w:World} {r:Option Nat} {a:Act} (hw:WOk B I w) (hh:HeapOk B I w H) (ho:OpsOk I w ρ a o):
  Runs P r o a w (λv w'=>∃I',WOk B I' w'/\Ext B I w I' w'/\HeapOk B I' w' (.own e k v::H)/\Rel I' w' (.as (.sl k els) v) v) (λ_ _=>False):=by
 obtain⟨e1,e2⟩:=parts_rel ho ps Ym hy hg;obtain⟨us,h1,h2⟩:=bfill_rel _ _ ((rowZero n k zs).map .val) (rowZero n k zs).toArray els.flatten (by simpa using relL_val _) e1 e2 hf;have hsm:=Nat.le_of_ble_eq_true hsm;have hpos:0<n*k:=Nat.le_of_ble_eq_true hpos;obtain⟨i,z,hu,hi,hz,hki,hby,hzs,hk0⟩:=appInfo_spec hA.h;have hrun:=buildSlice_run' hu hR.h (ps.map λ(i,x)=>(i,a.eval x)) us hsm hpos h1 w;obtain⟨a1,a2,a3,a4⟩:=Imm.add_new hw e us;have hn':=Nat.eq_of_beq_eq_true hlen;have hnk:n<=n*k:=by
  rcases Nat.eq_zero_or_pos k with rfl | hk'
  ·simp at hpos
  ·exact Nat.le_mul_of_pos_right n hk'
 have hkl:∀x∈els,x.length=k:=λx hx=>Nat.eq_of_beq_eq_true (List.all_eq_true.1 hk x hx);have hus:us.size=n*k:=by
  have:=h2.length;rw[flatten_len hkl,hn'] at this;simpa using this
 have hrow:(w.alloc (.cells us e)).ownsRow B e k (.slice (some ⟨w.heap.size,0,none⟩) n n) n us.toList:=⟨by simpa using hus,.inr ⟨w.heap.size,n,us,rfl,hw.base,heap_alloc_new w _,Nat.le_refl _,Y0,hus,by rw[<-hus, <-Array.length_toList];exact List.take_length⟩⟩;have h3:=a3 _ hh;refine Runs.of_value YC (v:=.slice (some ⟨w.heap.size,0,none⟩) n n) (w':=w.alloc (.cells us e)) Ybo ⟨_,a1,a2,⟨λf hf=>?_,List.pairwise_cons.2 ⟨λf hf b hb e=>?_,h3.apart⟩⟩,?_⟩
 ·rcases List.mem_cons.1 hf with rfl | hf
  ·refine⟨n,us.toList,hrow,λg hg o hgo ho=>?_⟩;simp[Value.ownBlock] at hg;subst hg;rcases ho with ho | ⟨_,ho⟩
   ·exact absurd (hw.lt ho) (Nat.lt_irrefl _)
   ·omega
  ·exact h3.ok f hf
 ·simp[Ent.foot,Value.ownBlock] at hb;subst hb;exact absurd (Ent.foot_lt (hh.ok f hf) e).2 (Nat.lt_irrefl _)
 ·refine .as _ _ (.sl _ _ _ _ _ _ hn' (Nat.le_refl _) Y0 ?_);exact els_of_cells els 0 hkl (a4 _ h2)
theorem KOk.rowOwn{t e by_:Nat}{n k:Nat}{ps:Array (Nat×Operand)}{zs:List Value}{ys:List (Bool×AV)}{els:List (List AV)}{H':Value->List Ent}{x:Value->AV}[hA:HasApp P t (e,k,by_)][hR:HasRow P t (k,zs)](h:o.op= .buildSlice t n ps)
  (hy:aevs ρ (ps.toList.map (·.2))=some ys) (hg:ys.all (·.1)=true) (hels:(partsOf ps.toList ys).map (λx=>bcells x.2)=els) (hlen:Nat.beq els.length n=true) (hk:els.all (λe=>Nat.beq e.length k)=true)
  (hsm:Nat.ble (n*k) 16777216=true) (hpos:Nat.blt 0 (n*k)=true)
  (hf:bfill (λi=>some (i*k,k)) ((rowZero n k zs).map .val) (partsOf ps.toList ys)=some els.flatten) (hu:∀v',H' v'= .own e k v'::H) (hx:∀v',x v'= .as (.sl k els) v'):KOk X P H H' x ρ o:=λB I w r a hw hh ho=>
 (rowOwn_runs h hy hg hels hlen hk hsm hpos hf hw hh ho).mono (λv w' ⟨I',a1,a2,a3,a4⟩=>⟨I',a1,a2,by rw[hu];exact a3,by rw[hx];exact a4⟩) (λ_ _ h=>h.elim)
theorem POp.leC{env:List (Nat×AV)}(d:Nat){u u' z:AV}(hd:envGet env d=some u)(hle:AVle u u')(h:POp P H (envGet ((d,u')::env)) o z):POp P H (envGet env) o z:=λB I w r a Hc hw hh hs ho=>
 h B I w r a Hc hw hh hs (λx hx y hy=>by
  cases x with
  | tmp t=>
   simp only[aeval] at hy;rw[envGet_cons] at hy;split at hy
   ·rename_i e;cases hy;subst e;exact hle _ _ _ (ho _ hx _ hd)
   ·exact ho _ hx _ hy
  | _=>exact ho _ hx y hy)
end
theorem Upd.same'{H H':List Ent}{e e':Ent}(h:Upd H e e' H'):e=e'->H'=H:=by
 induction h with
 | head e e' H=>intro he;rw[he]
 | tail f a b H H' _ ih=>intro he;rw[ih he]
theorem Upd.same{H H':List Ent}{e:Ent}(h:Upd H e e H'):H'=H:=h.same' rfl
section
variable{c:Ctx}{r:Option Nat}{P:Program}{ops:Array Oper}{l rest:List Oper}{env:List (Nat×AV)}{H:List Ent}{Q:Exit->Act->World->Prop}{d:Nat}{o:Oper}
theorem OL.appendRowAny{s z:Operand}{t e k by_ n:Nat}{cs:List AV}(news:List (List AV)){v:Value}{y:AV}{g1 g2:Bool}{H':Value->List Ent}[hA:HasApp P t (e,k,by_)](hgd:o.guard=none)(hd:o.dst=some d)(hn:Nat.blt d c.n=true)
  (h:o.op= .call {callee:=.builtin .append,args:=#[s,z],argTypes:=#[t,t]}) (hs:aev (envGet env) s=some (g1,.val v)) (hg1:g1=true) (hz:aev (envGet env) z=some (g2,y)) (hg2:g2=true) (hy:AVle y (.sl k news))
  (h1:news.all allOne=true) (hu:∀v',Upd H (.row e k v n cs) (.row e k v' (n+news.length) (cs++news.flatten)) (H' v')) (hb:(n+news.length)*by_<=140737488355328) (hb':n+news.length<=9223372036854775807)
  (next:∀v',OL c r P ops rest ⟨(d,.val v')::env,H' v'⟩ Q):OL c r P ops (o::rest) ⟨env,H⟩ Q:=by
 cases news with
 | cons a r=>exact OL.appendRow hgd hd hn h hs hg1 hz hg2 hy Yx h1 hu hb hb' next
 | nil=>
  intro a w sat;refine wpListIn_plain hgd λK hK=>?_;obtain⟨I,hw,he,hh,hv⟩:=sat.mem;obtain⟨i,zv,hut,hi,hzz,hsz,hby,hzs,hk0⟩:=appInfo_spec hA.h;have hsv:=rel_val ((hv.ops o).get YB hs hg1);have hzr:=hy _ _ _ ((hv.ops o).get YB hz hg2);obtain⟨us,r1,r2⟩:=src_of (P:=P) (tx:=t) hut hzr h1;have hus:us= []:=by cases r1;rfl
  subst hus;rw[<-hsz] at r2;obtain⟨xs,hrow,_,_⟩:=hh.ok _ (hu v).mem;obtain⟨ad,m,cp,hvv,hle⟩:∃ad m cp,v= .slice ad m cp/\m<=cp:=by
   rcases hrow.2 with⟨rfl,_⟩ | ⟨g,cap,cur,rfl,_,_,hc,_⟩
   ·exact⟨_,_,_,rfl,Nat.le_refl _⟩
   ·exact⟨_,_,_,rfl,hc⟩
  have hr:=run_append_nothing (P:=P) w t t o.type e i hut hi ad m cp hle (a.eval z) r2;rw[<-hvv, <-hsv] at hr;have hH:H' v=H:=by
   have:=hu v;simp only[List.length_nil,Nat.add_zero,List.flatten_nil,List.append_nil] at this;exact this.same
  refine Runs.of_value (R:=λx w'=>x=a.eval s/\w'=w) (E:=λ_ _=>False) YC (run_appendOp h a w hr) ⟨rfl,rfl⟩ K Q ?_ (λ_ _ h=>h.elim);rintro x w' ⟨rfl,rfl⟩;refine hK _ _ (next v _ _ ⟨Ybb,YaZ,I,hw,he,by rw[hH];exact hh,?_⟩);rw[hsv];have:=hv.put (dst:=some d) (x:=.val v) (v:=v) (by rw[sat.size];exact hn) (.val _);rw[hd];exact this
end
structure Bulk{H:Type}(sz:DataW H->Nat):Prop where
 len:∀es sp,es.length<=sz (.slice es sp)
 el:∀es sp,∀e∈es,sz e<=sz (.slice es sp)
 ag:∀ps,∀e∈ps,sz e<=sz (.agg ps)
section
variable{H:Type}{enc:TypeId×Value->H}{P:Program}{w:World}{base:Nat}{spare:Nat->Bool}{held:Bool}
def ReadsB(enc:TypeId×Value->H)(P:Program)(w:World)(base:Nat)(spare:Nat->Bool)(held:Bool)(sz:DataW H->Nat)(n:Nat)(t:TypeId){α:Type}(e:α->List AV)(Q:α->Nat->Prop):Prop:=
 ∀fuel,fuel<=n->∀cs x,DataW.trod enc P w base spare held fuel t cs=some x->∃y:α,RelL (allI w) w (e y) cs/\Q y (sz x.1)
theorem Reads.b{sz:DataW H->Nat}{n:Nat}{t:TypeId}{α:Type}{e:α->List AV}(h:Reads enc P w base spare held n t e):ReadsB enc P w base spare held sz n t e (λ_ _=>True):=λf hf cs x hx=>
 let ⟨y,hy⟩:=h f hf cs x hx;⟨y,hy,trivial⟩
theorem ReadsB.le{sz:DataW H->Nat}{n m:Nat}{t:TypeId}{α:Type}{e:α->List AV}{Q:α->Nat->Prop}(h:ReadsB enc P w base spare held sz n t e Q)(hm:m<=n):ReadsB enc P w base spare held sz m t e Q:=λf hf=>h f (Nat.le_trans hf hm)
end
section
variable{P:Program}{H:List Ent}{ρ:Nat->Option AV}{o:Oper}
theorem bv64n(a:Int)(h: -9223372036854775808<=a/\a<=9223372036854775807):IntKind.i64.wrap (BitVec.ofInt 64 (-1)^^^BitVec.ofInt 64 a).toNat= -a - 1:=by
 have e:BitVec.ofInt 64 (-1)^^^BitVec.ofInt 64 a= ~~~ BitVec.ofInt 64 a:=by
  rw[show BitVec.ofInt 64 (-1)=BitVec.allOnes 64 by decide,BitVec.xor_comm,BitVec.xor_allOnes]
 rw[e,BitVec.toNat_not,BitVec.toNat_ofInt,show ((2^64:Nat):Int)=18446744073709551616 by rfl,show (2:Nat)^64=18446744073709551616 by rfl];have h3:((18446744073709551616 - 1 - (a%18446744073709551616).toNat:Nat):Int)=18446744073709551615 - a%18446744073709551616:=by omega
 rw[h3];show (if(true && decide ((18446744073709551615 - a%18446744073709551616)%18446744073709551616>=(9223372036854775808:Int)))=true then (18446744073709551615 - a%18446744073709551616)%18446744073709551616 - (18446744073709551616:Int) else (18446744073709551615 - a%18446744073709551616)%18446744073709551616)=_;rw[Bool.true_and];simp only[decide_eq_true_eq];split <;> omega
theorem POp.unX{t:TypeId}{x:Operand}{a d:Int}{g:Bool}(h:o.op= .unOp .xor t x)(hx:aev ρ x=some (g,.i a))(hg:g=true)(hr: -9223372036854775808<=a/\a<=9223372036854775807)(hd: -a - 1=d):POp P H ρ o (.i d):=by
 refine .same YC λI w f ho=>?_;have h1:=rel_val (ho.get Ym hx hg);subst hd;refine⟨.int .i64 (-a - 1),?_,.val _⟩;have h2:=bv64n a hr;simp[execOp,h,h1,Op.unary,Op.intBits,IntKind.signed,IntKind.bits] at h2 ⊢;exact h2
end
section
variable{P:Program}{H:List Ent}{ρ:Nat->Option AV}{o:Oper}
theorem POp.lookupI2{t:TypeId}{x kx:Operand}{b:Nat}{ke:Nat×Nat}{l:List (Int×AV)}{k:Int}{g1 g2:Bool}{zv:Value}[hM:HasMapI P t ke][hZ:HasZ P ke.2 zv](h:o.op= .lookup t x kx true)
  (hx:aev ρ x=some (g1,.val (.map (some b)))) (hg1:g1=true) (hk:aev ρ kx=some (g2,.i k)) (hg2:g2=true) (hm:imapE b l∈H) (hl:IMapOk l) (hsm:smallKey k):POp P H ρ o (.tup [(getI l k).getD (.val zv),.b (getI l k).isSome]):=by
 intro B I w r a Hc hw hh hs ho;have hxv:=rel_val (ho.get Ym hx hg1);have hkv:=rel_val (ho.get Ym hk hg2);obtain⟨hB,⟨en,cl,hb,hkeys,hvals⟩,hni⟩:=hh.ok _ (hs _ hm);have K:=Go.Maps.int_keyed hM.int;obtain⟨lx,hlx⟩:=goodKey_int hM.int hsm;have hall:∀e∈en.toList,∃l,keyOf P ke.1 e.key=some l:=λe he=>by
  have:e.key∈(l.map λp=>((Value.int .i64 p.1,p.2):Value×AV)).map (·.1):=by rw[<-hkeys];exact List.mem_map_of_mem he
  rw[List.map_map] at this;obtain⟨p,hp,hpe⟩:=List.mem_map.1 this;rw[<-hpe];exact goodKey_int hM.int (hl.small p hp)
 have hchk:=K.check w en.isEmpty hlx;have hget:(getObj b).run P w= .ok (.map en cl) w:=by simp[getObj,Sem.run,hb]
 rcases K.find w hlx en.toList hall with⟨hf,hne⟩ | ⟨j,e,hf,hj,hke⟩
 ·have hz:=zero_of hZ.h w;have hrun:(execOp a.eval o).run P w= .ok (.value (.tuple #[zv,.bool false])) w:=by
   simp[execOp,h,Instr.lookup,run_underlying hM.h,hxv,hkv,hget,hchk,hf,hz]
  have hg:getI l k=none:=getI_new l k λp hp e=>by
   have:(Value.int .i64 p.1)∈en.toList.map (·.key):=by rw[hkeys,List.map_map];exact List.mem_map.2 ⟨p,hp,rfl⟩
   obtain⟨e',he',hee⟩:=List.mem_map.1 this;exact hne e' he' (by rw[hee,e])
  refine Runs.of_value YC hrun ⟨I,hw,Ext.refl _ _ _,hh,?_⟩;rw[hg];exact .tup _ _ (.cons _ _ _ _ (.val _) (.cons _ _ _ _ (.val _) .nil))
 ·have hrun:(execOp a.eval o).run P w= .ok (.value (.tuple #[e.val,.bool true])) w:=by
   simp[execOp,h,Instr.lookup,run_underlying hM.h,hxv,hkv,hget,hchk,hf]
  obtain⟨u,hu1,hu2⟩:=relL_get hvals (i:=j) (v:=e.val) (by rw[List.getElem?_map,hj];rfl);have hlj:l[j]? =some (k,u):=by
   rw[List.map_map,List.getElem?_map] at hu1;cases hp:l[j]? with
   | none=>rw[hp] at hu1;cases hu1
   | some p=>
    rw[hp] at hu1;have h2:((l.map λp=>((Value.int .i64 p.1,p.2):Value×AV)).map (·.1))[j]? =some e.key:=by rw[<-hkeys,List.getElem?_map,hj];rfl
    rw[List.map_map,List.getElem?_map,hp] at h2;simp at hu1 h2;rw[hke] at h2;simp at h2;rw[show p=(k,u) from Prod.ext h2 hu1]
  refine Runs.of_value YC hrun ⟨I,hw,Ext.refl _ _ _,hh,?_⟩;rw[(putI_at l k .any j u hl.nodup hlj).2];exact .tup _ _ (.cons _ _ _ _ hu2 (.cons _ _ _ _ (.val _) .nil))
end
section
variable{c:Ctx}{r:Option Nat}{P:Program}{ops:Array Oper}{l rest:List Oper}{o:Oper}{env:List (Nat×AV)}{H:List Ent}{Q:Exit->Act->World->Prop}{d:Nat}
theorem OL.rowBlk{t e by_:Nat}{n k:Nat}{ps:Array (Nat×Operand)}{zs:List Value}{ys:List (Bool×AV)}(els:List (List AV))[hA:HasApp P t (e,k,by_)][hR:HasRow P t (k,zs)](hgd:o.guard=none)(hd:o.dst=some d)(hn:Nat.blt d c.n=true)(h:o.op= .buildSlice t n ps)
  (hy:aevs (envGet env) (ps.toList.map (·.2))=some ys) (hg:ys.all (·.1)=true) (hsm:Nat.ble (n*k) 16777216=true) (hpos:Nat.blt 0 (n*k)=true)
  (hf:bfill (λi=>some (i*k,k)) ((rowZero n k zs).map .val) (partsOf ps.toList ys)=some els.flatten)
  (next:∀b,OL c r P ops rest ⟨(d,.val (.slice (some ⟨b,0,none⟩) n n))::env,.blk b e els.flatten::H⟩ Q):OL c r P ops (o::rest) ⟨env,H⟩ Q:=by
 intro a w s;refine wpListIn_plain hgd λK hK=>?_;obtain⟨I,hw,he,hh,hv⟩:=s.mem;have ho:=hv.ops o;obtain⟨e1,e2⟩:=parts_rel ho ps Ym hy hg;obtain⟨us,h1,h2⟩:=bfill_rel _ _ ((rowZero n k zs).map .val) (rowZero n k zs).toArray els.flatten (by simpa using relL_val _) e1 e2 hf;have hsm:=Nat.le_of_ble_eq_true hsm;have hpos:0<n*k:=Nat.le_of_ble_eq_true hpos;obtain⟨i,z,hu,hi,hz,hki,hby,hzs,hk0⟩:=appInfo_spec hA.h;have hrun:=buildSlice_run' hu hR.h (ps.map λ(i,x)=>(i,a.eval x)) us hsm hpos h1 w;refine Runs.of_value (R:=λv w'=>v= .slice (some ⟨w.heap.size,0,none⟩) n n/\w'=w.alloc (.cells us e)) (E:=λ_ _=>False) (v:=.slice (some ⟨w.heap.size,0,none⟩) n n) (w':=w.alloc (.cells us e)) YC Ybo ⟨rfl,rfl⟩ K Q ?_ (λ_ _ h=>h.elim);rintro v w' ⟨rfl,rfl⟩;refine hK _ _ (next w.heap.size _ _ ⟨YZ,YS,I,hw.alloc _,he.trans (ext_alloc hw _),hh.new hw e _ us h2,?_⟩);rw[hd];exact (hv.keep (keeps_alloc hw _)).put (dst:=some d) Ybs (.val _)
end
section
variable{P:Program}{H:List Ent}{ρ:Nat->Option AV}{o:Oper}
theorem POp.neI{t t':TypeId}{x y:Operand}{n:Nat}(as bs:List Int){gx gy:Bool}[he:HasEq P t n](h:o.op= .binOp .neq t x y t')(hx:aev ρ x=some (gx,.agg (as.map AV.i)))(hy:aev ρ y=some (gy,.agg (bs.map AV.i)))(hgx:gx=true)(hgy:gy=true)
  (ha:Nat.beq as.length n=true) (hb:Nat.beq bs.length n=true):POp P H ρ o (.b (as !=bs)):=by
 have ha:=Nat.eq_of_beq_eq_true ha;have hb:=Nat.eq_of_beq_eq_true hb;have hh:=he.h;simp only[eqInts,Bool.and_eq_true,Bool.not_eq_true'] at hh;obtain⟨⟨h1,h2⟩,h3⟩:=hh;obtain⟨fs,hu⟩:∃fs,P.underlying t=some (.struct fs):=by
  split at h1
  ·rename_i fs e;exact⟨fs,e⟩
  ·cases h1
 rw[hu] at h1;simp only[Bool.and_eq_true,beq_iff_eq] at h1;have hfo:P.fieldsOf t=fs:=by rw[Program.fieldsOf,hu]
 refine .same YC λI w f ho=>?_;have q1:=ho.get Ym hx hgx;have q2:=ho.get Ym hy hgy;generalize hv:f.eval x=u at q1;generalize hz:f.eval y=z at q2;cases q1 with
 | agg _ vs hl1=>
  cases q2 with
  | agg _ us hl2=>
   have e1:vs=intsArr as:=Array.toList_inj.1 (by rw[aggInts_rel hl1]);have e2:us=intsArr bs:=Array.toList_inj.1 (by rw[aggInts_rel hl2]);subst e1;subst e2;refine⟨.bool (as !=bs),?_,.val _⟩;have hrun:=eqFields_ints (P:=P) (w:=w) 9998 ha hb fs.toList 0 Yd h1.2;rw[List.drop_zero,List.drop_zero] at hrun;simp only[execOp,h,hv,hz,Sem.run_bind];rw[run_eqGuard_agg w .neq t x y _ _ h3];simp only[Result.andThen_ok];rw[run_neq_struct,run_equalIn_agg w 9999 t _ _ (by rw[hfo];exact hu) h2,hfo,hrun];rfl
end
section
variable{c:Ctx}{r:Option Nat}{P:Program}{ops:Array Oper}{l L:List Oper}{st:St}{env:List (Nat×AV)}{H:List Ent}{Q:Exit->Act->World->Prop}{n k:Nat}{K:List (Nat×AV)->Prop}
theorem isOL(h:OL c r P ops l st Q):OL c r P ops l st Q:=h
theorem isAD(h:AD P H L n l env K):AD P H L n l env K:=h
theorem isDP(h:DP c r P l Q k st):DP c r P l Q k st:=h
end
def grp:Op->Nat
 | .move .. =>0
 | .assign .. =>0
 | .fieldAddr .. =>1
 | .load .. =>1
 | .binOp .. =>2
 | .call .. =>3
 | .indexAddr .. =>4
 | _=>5
theorem gr(n:Nat){P:Program}{H:List Ent}{ρ:Nat->Option AV}{o:Oper}{x:AV}(_:grp o.op=n)(h:POp P H ρ o x):POp P H ρ o x:=h
theorem po{p:Prop}(h:p:=by
  first
   | exact gr 0 Yak (by first | exact POp.move rfl rfl rfl | exact POp.assign rfl rfl rfl)
   | exact gr 1 Yak (by first | exact POp.fa rfl rfl rfl rfl | exact POp.faP rfl rfl rfl rfl | exact POp.ld1 rfl rfl rfl rfl | exact POp.ld1H rfl rfl rfl (hm:=Yt) (hy:=by exact rfl) | exact POp.ldA rfl rfl rfl rfl | exact POp.ldAH rfl rfl rfl (hm:=Yt) (hy:=by exact rfl) (hn:=by exact rfl))
   | exact gr 2 Yak (by first | exact POp.cmp rfl rfl rfl rfl rfl rfl | exact POp.arith rfl rfl rfl rfl rfl rfl (wrap64 Yd))
   | exact gr 3 Yak Yau
   | exact gr 4 Yak (by first | exact POp.ixM rfl rfl rfl rfl rfl YaH | exact POp.ixI rfl rfl rfl rfl rfl YaH | exact POp.ia rfl rfl rfl rfl rfl YaH | exact POp.iaP rfl rfl rfl rfl rfl YaH)
   | exact gr 5 Yak (by first | exact POp.extract rfl rfl rfl rfl | exact POp.not rfl rfl rfl | exact POp.pick rfl rfl rfl rfl rfl YG YG | exact POp.nilCheck rfl rfl rfl | exact POp.nilCheckP rfl rfl rfl | exact POp.nilCheckF rfl rfl rfl | exact POp.boxI rfl rfl rfl rfl | exact POp.row0 rfl | exact POp.row rfl rfl Yh rfl rfl rfl rfl rfl | exact POp.build' rfl rfl Yh rfl | exact POp.makeFunc rfl rfl rfl Yh Yh)):p:=h
theorem pg{G p:Prop}(hg:G)(h:G->p:=by
  intro hg
  first
   | exact gr 0 Yak (by first | exact POp.move rfl rfl (gd hg) | exact POp.assign rfl rfl (gd hg))
   | exact gr 1 Yak (by first | exact POp.fa rfl rfl (gd hg) rfl | exact POp.faP rfl rfl (gd hg) rfl | exact POp.ld1 rfl rfl (gd hg) rfl | exact POp.ld1H rfl rfl (gd hg) (hm:=Yt) (hy:=by exact rfl) | exact POp.ldA rfl rfl (gd hg) rfl | exact POp.ldAH rfl rfl (gd hg) (hm:=Yt) (hy:=by exact rfl) (hn:=by exact rfl))
   | exact gr 2 Yak (by first | exact POp.cmp rfl rfl rfl (gd hg) (gd hg) rfl | exact POp.arith rfl rfl rfl (gd hg) (gd hg) rfl (wrap64 Yd))
   | exact gr 3 Yak (by first | exact POp.lenM rfl rfl (gd hg) | exact POp.lenA rfl rfl (gd hg) | exact POp.lenV rfl rfl (gd hg) | exact POp.len' rfl rfl (gd hg))
   | exact gr 4 Yak (by first | exact POp.ixM rfl rfl (gd hg) rfl (gd hg) YaH | exact POp.ixI rfl rfl (gd hg) rfl (gd hg) YaH | exact POp.ia rfl rfl (gd hg) rfl (gd hg) YaH | exact POp.iaP rfl rfl (gd hg) rfl (gd hg) YaH)
   | exact gr 5 Yak (by first | exact POp.extract rfl rfl (gd hg) rfl | exact POp.not rfl rfl (gd hg) | exact POp.pick rfl rfl (gd hg) rfl rfl YG YG | exact POp.nilCheck rfl rfl (gd hg) | exact POp.nilCheckP rfl rfl (gd hg) | exact POp.nilCheckF rfl rfl (gd hg) | exact POp.boxI rfl rfl (gd hg) rfl | exact POp.row0 rfl | exact POp.row rfl rfl Yh rfl rfl rfl rfl rfl | exact POp.build' rfl rfl Yh rfl | exact POp.makeFunc rfl rfl rfl Yh Yh)):p:=h hg
theorem Z1{goal next:Prop}(k:next)(h:Hid next->goal:=by
  intro k
  first
   | ((with_reducible refine isOL ?_);first | refine OL.popC rfl rfl rfl po ?_ | refine OL.guardC rfl rfl rfl rfl rfl rfl (λhg=>pg hg) ?_ | (with_reducible refine OL.nil ?_) | refine Sto ?_)
   | ((with_reducible refine isAD ?_);first | refine AD.popC rfl rfl rfl po ?_ | refine AD.guardC rfl rfl rfl rfl rfl (λhg=>pg hg) ?_ | refine AD.nil ?_)
   | ((with_reducible refine isDP ?_);first | refine DP.tailC _ Ye rfl ?_ | refine DP.one Ye rfl ?_)
   | with_reducible refine Done.dp ?_
   | refine S1 ?_
  exact k.out):goal:=h ⟨k⟩
theorem Z2{goal next:Prop}(k:next)(h:Hid next->goal:=by
  intro k
  iterate 2 refine Z1 ?_
  exact k.out):goal:=h ⟨k⟩
theorem Z3{goal next:Prop}(k:next)(h:Hid next->goal:=by
  intro k
  iterate 3 refine Z1 ?_
  exact k.out):goal:=h ⟨k⟩
theorem Z4{goal next:Prop}(k:next)(h:Hid next->goal:=by
  intro k
  iterate 4 refine Z1 ?_
  exact k.out):goal:=h ⟨k⟩
theorem Z5{goal next:Prop}(k:next)(h:Hid next->goal:=by
  intro k
  iterate 5 refine Z1 ?_
  exact k.out):goal:=h ⟨k⟩
theorem Z6{goal next:Prop}(k:next)(h:Hid next->goal:=by
  intro k
  iterate 6 refine Z1 ?_
  exact k.out):goal:=h ⟨k⟩
theorem Z7{goal next:Prop}(k:next)(h:Hid next->goal:=by
  intro k
  iterate 7 refine Z1 ?_
  exact k.out):goal:=h ⟨k⟩
theorem Z8{goal next:Prop}(k:next)(h:Hid next->goal:=by
  intro k
  iterate 8 refine Z1 ?_
  exact k.out):goal:=h ⟨k⟩
theorem Z9{goal next:Prop}(k:next)(h:Hid next->goal:=by
  intro k
  iterate 9 refine Z1 ?_
  exact k.out):goal:=h ⟨k⟩
theorem Z10{goal next:Prop}(k:next)(h:Hid next->goal:=by
  intro k
  iterate 10 refine Z1 ?_
  exact k.out):goal:=h ⟨k⟩
theorem Z11{goal next:Prop}(k:next)(h:Hid next->goal:=by
  intro k
  iterate 11 refine Z1 ?_
  exact k.out):goal:=h ⟨k⟩
theorem Z12{goal next:Prop}(k:next)(h:Hid next->goal:=by
  intro k
  iterate 12 refine Z1 ?_
  exact k.out):goal:=h ⟨k⟩
theorem Z13{goal next:Prop}(k:next)(h:Hid next->goal:=by
  intro k
  iterate 13 refine Z1 ?_
  exact k.out):goal:=h ⟨k⟩
theorem Z14{goal next:Prop}(k:next)(h:Hid next->goal:=by
  intro k
  iterate 14 refine Z1 ?_
  exact k.out):goal:=h ⟨k⟩
theorem Z15{goal next:Prop}(k:next)(h:Hid next->goal:=by
  intro k
  iterate 15 refine Z1 ?_
  exact k.out):goal:=h ⟨k⟩
theorem Z16{goal next:Prop}(k:next)(h:Hid next->goal:=by
  intro k
  iterate 16 refine Z1 ?_
  exact k.out):goal:=h ⟨k⟩
theorem Z17{goal next:Prop}(k:next)(h:Hid next->goal:=by
  intro k
  iterate 17 refine Z1 ?_
  exact k.out):goal:=h ⟨k⟩
theorem Z18{goal next:Prop}(k:next)(h:Hid next->goal:=by
  intro k
  iterate 18 refine Z1 ?_
  exact k.out):goal:=h ⟨k⟩
theorem Z19{goal next:Prop}(k:next)(h:Hid next->goal:=by
  intro k
  iterate 19 refine Z1 ?_
  exact k.out):goal:=h ⟨k⟩
theorem Z20{goal next:Prop}(k:next)(h:Hid next->goal:=by
  intro k
  iterate 20 refine Z1 ?_
  exact k.out):goal:=h ⟨k⟩
theorem Z21{goal next:Prop}(k:next)(h:Hid next->goal:=by
  intro k
  iterate 21 refine Z1 ?_
  exact k.out):goal:=h ⟨k⟩
theorem Z22{goal next:Prop}(k:next)(h:Hid next->goal:=by
  intro k
  iterate 22 refine Z1 ?_
  exact k.out):goal:=h ⟨k⟩
theorem Z23{goal next:Prop}(k:next)(h:Hid next->goal:=by
  intro k
  iterate 23 refine Z1 ?_
  exact k.out):goal:=h ⟨k⟩
theorem Z24{goal next:Prop}(k:next)(h:Hid next->goal:=by
  intro k
  iterate 24 refine Z1 ?_
  exact k.out):goal:=h ⟨k⟩
theorem Z25{goal next:Prop}(k:next)(h:Hid next->goal:=by
  intro k
  iterate 25 refine Z1 ?_
  exact k.out):goal:=h ⟨k⟩
theorem Z26{goal next:Prop}(k:next)(h:Hid next->goal:=by
  intro k
  iterate 26 refine Z1 ?_
  exact k.out):goal:=h ⟨k⟩
theorem Z27{goal next:Prop}(k:next)(h:Hid next->goal:=by
  intro k
  iterate 27 refine Z1 ?_
  exact k.out):goal:=h ⟨k⟩
theorem Z28{goal next:Prop}(k:next)(h:Hid next->goal:=by
  intro k
  iterate 28 refine Z1 ?_
  exact k.out):goal:=h ⟨k⟩
theorem Z30{goal next:Prop}(k:next)(h:Hid next->goal:=by
  intro k
  iterate 30 refine Z1 ?_
  exact k.out):goal:=h ⟨k⟩
theorem Z31{goal next:Prop}(k:next)(h:Hid next->goal:=by
  intro k
  iterate 31 refine Z1 ?_
  exact k.out):goal:=h ⟨k⟩
theorem Z33{goal next:Prop}(k:next)(h:Hid next->goal:=by
  intro k
  iterate 33 refine Z1 ?_
  exact k.out):goal:=h ⟨k⟩
theorem Z41{goal next:Prop}(k:next)(h:Hid next->goal:=by
  intro k
  iterate 41 refine Z1 ?_
  exact k.out):goal:=h ⟨k⟩
theorem Z56{goal next:Prop}(k:next)(h:Hid next->goal:=by
  intro k
  iterate 56 refine Z1 ?_
  exact k.out):goal:=h ⟨k⟩
theorem Z76{goal next:Prop}(k:next)(h:Hid next->goal:=by
  intro k
  iterate 76 refine Z1 ?_
  exact k.out):goal:=h ⟨k⟩
theorem cd{goal n1 n2 p q:Prop}(k1:p->n1)(k2:q->n2)(h:Hid (p->n1)->Hid (q->n2)->goal:=by
  intro k1 k2;exact CW.cond rfl (λh=>k1.out (nm h)) (λh=>k2.out (nm h))):goal:=h ⟨k1⟩ ⟨k2⟩
theorem rR{P:Program}{st:St}{fn:Func}{B:Nat}{I0:Imm}{w0:World}{n:Nat}{Φ E:AV->List Ent->Prop}{ys:List AV}(rs:List ResultVar)(H':List Ent)(hΦ:Φ (tupOf ys) H')(hr:fn.results=rs.toArray:=by exact rfl)(hy:ResOk P st rs ys:=by
  first | exact .nil | exact .tmp rfl .nil | exact .tmp rfl (.tmp rfl .nil) | exact .tmp rfl (.tmp rfl (.tmp rfl .nil)) | exact .cellA inferInstance rfl Yt rfl rfl .nil | exact .ptrA inferInstance rfl rfl .nil)
  (hH:H'.Sublist st.H:=by repeat (first | exact List.Sublist.refl _ | refine List.Sublist.cons _ ?_)):Done ⟨B,I0,w0,n,[]⟩ st .ret (bodyPost P fn (RetP B I0 w0 Φ E)):=Done.retR hr hy (AVleL.refl _) hH hΦ
theorem nR{P:Program}{st:St}{fn:Func}{B:Nat}{I0:Imm}{w0:World}{n:Nat}{Φ E:AV->List Ent->Prop}{ys:List AV}(rs:List ResultVar)(H':List Ent)(hΦ:Φ (tupOf ys) H')(hr:fn.results=rs.toArray:=by exact rfl)(hy:ResOk P st rs ys:=by
  first | exact .nil | exact .tmp rfl .nil | exact .tmp rfl (.tmp rfl .nil) | exact .tmp rfl (.tmp rfl (.tmp rfl .nil)) | exact .cellA inferInstance rfl Yt rfl rfl .nil | exact .ptrA inferInstance rfl rfl .nil)
  (hH:H'.Sublist st.H:=by repeat (first | exact List.Sublist.refl _ | refine List.Sublist.cons _ ?_)):Done ⟨B,I0,w0,n,[]⟩ st .normal (bodyPost P fn (RetP B I0 w0 Φ E)):=Done.norR hr hy (AVleL.refl _) hH hΦ
theorem cj{c:Ctx}{st st':Go.Eng.St}{Q:Exit->Act->World->Prop}{J:Go.Eng.St->Prop}(hJ:J st')(he:envLe st'.env st.env:=by repeat (first | exact trivial | refine⟨rfl,?_⟩))
  (hH:st'.H.Sublist st.H:=by repeat (first | exact List.Sublist.refl _ | refine List.Sublist.cons _ ?_)):Done c st .normal (Exit.then (λa w=>∃st',J st'/\Sat c st' a w) Q):=Done.cutJ hJ he hH
theorem aC{P:Program}{f:FuncId}{fn:Func}{code:Code}{xs:List AV}{H:List Ent}{Φ:AV->List Ent->Prop}{E:AV->List Ent->Prop}{n:Nat}(hf:P.funcs[f]? =some fn)(h:∀B I w,CW ⟨B,I,w,n,[]⟩ none P code ⟨envOf 0 xs,H⟩ (bodyPost P fn (RetP B I w Φ E)))(hb:fn.body=some code:=by exact rfl)(hnm:(fn.name== "runtime.NumGoroutine")=false:=by kernel_rfl)(hn:fn.ntmps=n:=by exact rfl)(hl:Nat.ble xs.length n=true:=by exact rfl):ACall P f xs H Φ E:=ACall.mk' hf hb hnm hn hl h
theorem CallOk.k{P:Program}{ρ:Nat->Option AV}{o:Oper}{x:Operand}{args:Array Operand}{ts:Array TypeId}{f:FuncId}{fs cs:List AV}{ys:List (Bool×AV)}{g:Bool}{xs:List AV}(h:o.op= .call {callee:=.value x,args:=args,argTypes:=ts}:=by exact rfl)(hx:aev ρ x=some (g,.fn (.func f) fs cs):=by exact rfl)(hg:g=true:=by exact rfl)(ha:aevs ρ args.toList=some ys:=by exact rfl)(hys:ys.all (·.1)=true:=by exact rfl)(hxs:fs++ys.map (·.2)++cs=xs:=by exact rfl):CallOk P ρ o f xs:=hxs▸CallOk.mk' h hx hg ha hys
theorem oP{c:Ctx}{r:Option Nat}{P:Program}{ops:Array Oper}{rest:List Oper}{o:Oper}{d:Nat}{x:AV}{env:List (Nat×AV)}{H:List Ent}{Q:Exit->Act->World->Prop}(h:POp P H (envGet env) o x)(next:OL c r P ops rest ⟨(d,x)::env,H⟩ Q)(hg:o.guard=none:=by exact rfl)(hd:o.dst=some d:=by exact rfl)(hn:Nat.blt d c.n=true:=by exact rfl):OL c r P ops (o::rest) ⟨env,H⟩ Q:=OL.popC hg hd hn h next
theorem bC{c:Ctx}{r:Option Nat}{P:Program}{ops:Array Oper}{rest:List Oper}{o:Oper}{d:Nat}{env:List (Nat×AV)}{H:List Ent}{Q:Exit->Act->World->Prop}{f:FuncId}{xs:List AV}{Φ:AV->List Ent->Prop}(hc:CallOk P (envGet env) o f xs)(h:BCall c.B P f xs H Φ (λ_ _=>False))(next:∀y H',Φ y H'->OL c r P ops rest ⟨(d,y)::env,H'⟩ Q)(hg:o.guard=none:=by exact rfl)(hd:o.dst=some d:=by exact rfl)(hn:Nat.blt d c.n=true:=by exact rfl):OL c r P ops (o::rest) ⟨env,H⟩ Q:=OL.bcallC hg hd hn hc h next
end Go.Eng
