/- Part 6 of the proof: contracts of functions of the program and what they need. No condition beyond those that each theorem names. -/
import Derived.Test.YtodccgailpkgeaaGreatKindLeastP5
import Derived.Deep.AppendSrc
import Derived.Laws.CopyRow
set_option maxHeartbeats 1000000
set_option linter.unusedVariables false
set_option linter.unusedSimpArgs false
namespace Go.Eng
open Go.RowKit (Below)
def eI(f:FuncId)(c:Ctx)(r:Option Nat)(P:Program)(code:Code)(st:dn)(Q:Exit->Act->World->Prop):Prop:=∀a w,Sat c st a w->lJ f (bb r) 0 P code Q a w
section
variable{f:FuncId}{c:Ctx}{r:Option Nat}{P:Program}{st:dn}{Q:Exit->Act->World->Prop}
theorem aq.nJ{code:Code}(h:aq c r P code st Q):eI f c r P code st Q:=λa w s=>.of (h a w s)
theorem eI.seq{p q:Code}(h:eI f c r P p st (Exit.then (lJ f (bb r) 0 P q Q) Q)):eI f c r P (.seq p q) st Q:=λa w s=>.seq (h a w s)
theorem eI.block{id:Nat}{p:Code}(h:eI f c r P p st (Exit.inBlock id Q)):eI f c r P (.block id p) st Q:=λa w s=>.block (h a w s)
theorem eI.done{q:Code}(h:eI f c r P q st Q):aR c st .normal (Exit.then (lJ f (bb r) 0 P q Q) Q):=λa w s=>h a w s
theorem b1.N4{fn:Func}{code:Code}{xs:List aa}{H:List aj}{bw:aa->List aj->Prop}{E:aa->List aj->Prop}{n:Nat}(aP:P.funcs[f]? =some fn)(aw:fn.body=some code)(qp:(fn.name== "runtime.NumGoroutine")=false)
  (hn:fn.ntmps=n) (ax:Nat.ble xs.length n=true) (h:∀B I w,eI f ⟨B,I,w,n,[]⟩ none P code ⟨oi 0 xs,H⟩ (bodyPostM (bb none) 0 P fn (fD B I w bw E))):b1 P f xs H bw E:=by
 refine⟨ve,λB I w vs hw az aC=>vk (n:=0) (Xs aP aw trivial ?_ rfl)⟩;refine h B I w _ w ⟨rfl,?_,I,hw,Ext.refl _ _ _,az,λt y hy=>?_⟩
 ·have:=aC.length;have:=Nat.le_of_ble_eq_true ax;simp;omega
 ·obtain⟨v,ab,ae⟩:=aC.get zl;have:(vs.toArray++Array.replicate (fn.ntmps - vs.toArray.size) undef).getD t undef=v:=by
   have cO:=(List.getElem?_eq_some_iff.1 ab).1;simp only[Array.getD_eq_getD_getElem?];rw[Array.getElem?_append_left xL];simp[ab]
  rw[this];exact ae
def yd{α:Type}(B:Nat)(P:Program)(g:aa)(a6 aW:α->aa)(L:List α)(fQ:Bool)(J:List α->List aj->Prop)(gJ:aa->List aj->Prop):Prop:=
 ∀pre x H Hx,pre++[x]<+:L->J pre H->e4 B P g [a6 x,aW x] (H++Hx) (λy H'=>∃H1,y= .b true/\H'=H1++Hx/\(pre++[x]=L->fQ=false)/\J (pre++[x]) H1) (λy H'=>∃H1,H'=H1++Hx/\pre++[x]=L/\fQ=true/\gJ y H1)
def HA{α:Type}(B:Nat)(P:Program)(jO:aa)(a6 aW:α->aa)(L:List α)(fQ:Bool)(Hs:List aj)(ot:List aj->Prop):Prop:=
 ∀(J:List α->List aj->Prop) (gJ:aa->List aj->Prop) (g:Fn) (bM cs:List aa),(∀y H,gJ y H->∃v,y.Const v)->yd B P (.fn g bM cs) a6 aW L fQ J gJ->∀H Hx,J [] H->
  e4 B P jO [.fn g bM cs] (H++(Hs++Hx)) (λ_ H'=>fQ=false/\∃H1 pb,H'=H1++(pb++Hx)/\ot pb/\J L H1)
   (λy H'=>fQ=true/\∃H1 pb,H'=H1++(pb++Hx)/\gJ y H1)
def HB{α:Type}(B:Nat)(cl:a8)(aO:World)(l D:Nat)(dw:Loop)(ρ:Nat->Option aa)(L:List α)(fQ:Bool)(J:List α->List aj->Prop)(gJ:aa->List aj->Prop)(pre:List α)(Hx:List aj):Exit->Act->World->Prop:=λe a w=>
 ∃I H,ck B I w/\Ext B cl aO I w/\br B I w (.loop l dw ρ::.obj D (.deferred (some []))::(H++Hx))/\
  match e with
  | .normal=>(pre=L->fQ=false)/\J pre H
  | .panic ch=>a.defers= []/\pre=L/\fQ=true/\∃v y,ch= [{v:=v,recovered:=false}]/\Rel I w y v/\gJ y H
  | _=>False
end
section
variable{f0:FuncId}{XC:Func}{P:Program}{c:Ctx}{r:Option Nat}{st:dn}{Q:Exit->Act->World->Prop}
theorem eI.N5{α:Type}{t p q:Nat}{assign body:Code}{f:FuncId}{mo:List aa}(XD:P.funcs[f0]? =some XC)(a6 aW:α->aa)(L:List α)(fQ:Bool)(J:List α->List aj->Prop)(gJ:aa->List aj->Prop)(H Hs Hx:List aj)(ot:List aj->Prop)(fF:α->List (Nat×aa))
  (aK:r=none) (b0:st.H=H++(Hs++Hx)) (al:aX st.env t=some (.fn (.func f) [] mo)) (aB:Nat.blt p c.n=true) (bd:Nat.blt q c.n=true) (vB:HA c.B P (.fn (.func f) [] mo) a6 aW L fQ Hs ot) (bF:J [] H) (nK:∀y H,gJ y H->∃v,y.Const v)
  (vC:∀(l:Nat) (I:a8) (w:World) (x:α) (c0:List aj),aq ⟨c.B,I,w,c.n,[]⟩ (some l) P assign ⟨(q,aW x)::(p,a6 x)::st.env,c0⟩ (Exit.then (λa w'=>∃st',st'=(⟨fF x,c0⟩:dn)/\Sat ⟨c.B,I,w,c.n,[]⟩ st' a w') (λ_ _ _=>False)))
  (round:∀(l D:Nat) (dw:Loop) (pre:List α) (x:α) (H1 c0:List aj) (I:a8) (w:World),pre++[x]<+:L->J pre H1->
   aq ⟨c.B,I,w,c.n,[]⟩ (some l) P body ⟨fF x,.loop l dw (aX st.env)::.obj D (.deferred (some []))::(H1++c0)⟩ (HB c.B I w l D dw (aX st.env) L fQ J gJ (pre++[x]) c0))
  (done:∀(D:Nat) (H1 pb:List aj),fQ=false->ot pb->J L H1->aR ⟨c.B,c.cl,c.aO,c.n,{target:=.collected D,args:=#[]}::c.ds⟩ ⟨st.env,.obj D (.deferred (some []))::(H1++(pb++Hx))⟩ .normal Q)
  (oe:∀(D:Nat) (y:aa) (H1 pb:List aj),fQ=true->gJ y H1->∀(I:a8) (v:Value) (a:Act) (w:World),Sat ⟨c.B,c.cl,c.aO,c.n,{target:=.collected D,args:=#[]}::c.ds⟩ ⟨st.env,.obj D (.deferred (some []))::(H1++(pb++Hx))⟩ a w->Rel I w y v->Q (.panic [{v:=v,recovered:=false}]) a w):
  eI f0 c r P (.rangeFunc (.tmp t) #[p,q] assign body) st Q:=by
 intro a w s;subst aK;obtain⟨I,hw,he,az,aC⟩:=s.mem;rw[b0] at az;refine lJ.rangeFunc ?_;obtain⟨eA,lA⟩:∃eA:Loop,eA={state:=.ready,pending:=none,fn:=f0,tmps:=a.tmps,params:=#[p,q],assign,body,defers:=w.heap.size}:=⟨_,rfl⟩;have zR:=aC t _ al;generalize hu:a.tmps.getD t undef=u at zR;cases zR with
 | fn _ _ _ fq eQ aP ak=>
 have Gv:fq= #[]:=by cases fq with | mk l=>cases aP;rfl
 subst Gv;have vD:=az.newObj hw (.deferred (some []));have o0:=hw.alloc (.deferred (some []));have gI:=aC.bQ (mq hw (.deferred (some [])));have sH:=vD.M0 o0 eA (aX st.env) (by rw[lA];exact gI);have Gw:=o0.alloc (.loop eA);rw[World.size_alloc] at sH;have c1:Ext c.B I w I ((w.alloc (.deferred (some []))).alloc (.loop eA)):=(kN hw _).trans (kN o0 _)
 let sI:List α->List aj->Prop:=λpre dK=>∃H1,J pre H1/\dK= .loop (w.heap.size+1) eA (aX st.env)::.obj w.heap.size (.deferred (some []))::H1
 let N6:aa->List aj->Prop:=λy dK=>∃H1,gJ y H1/\dK= .loop (w.heap.size+1) {eA with state:=.busy} (aX st.env)::.obj w.heap.size (.deferred (some []))::H1
 have eH:a.tmps.size=c.n:=s.size;have Gx:p<c.n:=Nat.lt_of_succ_le (by simpa [Nat.blt] using aB);have XE:q<c.n:=Nat.lt_of_succ_le (by simpa [Nat.blt] using bd);have iT:yd c.B P (.fn (.yield (w.heap.size+1)) [] []) a6 aW L fQ sI N6:=by
  rintro pre x dK c0 pX ⟨H1,fp,rfl⟩ oq W v vs Gy zS Gz dT;obtain rfl:v= .func (.yield (w.heap.size+1)) #[] #[]:=by
   cases Gz with
   | fn _ _ _ fq eQ aP ak=>
    cases fq with
    | mk j8=>cases eQ with
     | mk lc=>cases aP;cases ak;rfl
  cases dT with
  | cons _ v1 _ Wj sn ht=>
  cases ht with
  | cons _ v2 _ akb vP ht=>
  cases ht;obtain⟨Wk,mw,nz,GA⟩:=zS.ok (.loop (w.heap.size+1) eA (aX st.env)) bj;have hy:=run_yield (P:=P) (args:=#[v1,v2]) mw (by rw[lA];rfl);refine .inr ⟨_,rfl,f0,(a.tmps.setIfInBounds p v1).setIfInBounds q v2,assign,body,?_,?_⟩
  ·rw[lA] at hy;simpa using hy
  ·refine Xu (F:=bb none) (n:=0) trivial XD ?_;have GB:br c.B oq W (.loop (w.heap.size+1) eA (aX st.env)::.obj w.heap.size (.deferred (some []))::(H1++c0)):=by
    simpa [List.append_assoc] using zS
   have eh:Sat ⟨c.B,oq,W,c.n,[]⟩ ⟨(q,aW x)::(p,a6 x)::st.env,.loop (w.heap.size+1) eA (aX st.env)::.obj w.heap.size (.deferred (some []))::(H1++c0)⟩ {tmps:=(a.tmps.setIfInBounds p v1).setIfInBounds q v2,defers:=[]} W:=by
    refine⟨rfl,by simpa using eH,oq,Gy,Ext.refl _ _ _,GB,?_⟩;refine Gt (a:={tmps:=a.tmps.setIfInBounds p v1,defers:=[]}) ?_ (by simp only[Array.size_setIfInBounds];rw[eH];exact XE) vP [];refine Gt (a:=a) (λt y GC=>?_) (by rw[eH];exact Gx) sn [];have:=nz t y GC;rw[lA] at this;exact this
   refine wpIn_mono (vC (w.heap.size+1) oq W x _ _ W eh) λe a3 vE mZ=>?_;cases e with
   | normal=>
    obtain⟨st',rfl,sJ⟩:=mZ;obtain⟨vF,GD,GF,zT,tU⟩:=sJ.mem;obtain⟨GG,GH,_,zU⟩:=zT.ok _ (.head _);refine⟨_,run_beginRound GH (by rw[lA]),?_⟩;have GI:=zT.vz (lp':={eA with state:=.busy}) (.head _ _ _) rfl;have zV:Ext c.B vF vE vF (vE.putObj (w.heap.size+1) (.loop {eA with state:=.busy})):=Ext.putObj GG zU;have zW:Sat ⟨c.B,oq,W,c.n,[]⟩ ⟨fF x,.loop (w.heap.size+1) {eA with state:=.busy} (aX st.env)::.obj w.heap.size (.deferred (some []))::(H1++c0)⟩ a3 (vE.putObj (w.heap.size+1) (.loop {eA with state:=.busy})):=
     ⟨sJ.ds,sJ.size,vF,GD.putObj zU,GF.trans zV,GI,tU.bQ zV.keeps⟩
    refine wpIn_mono (round _ _ _ pre x H1 c0 oq W pX fp a3 _ zW) λe a5 C3 GJ=>?_;obtain⟨C4,sK,C5,C6,xV,mx⟩:=GJ;obtain⟨GK,GL,_,zX⟩:=xV.ok _ (.head _);cases e with
    | normal=>
     have cQ:=run_endRound (P:=P) none GL;refine⟨_,_,cQ,?_⟩;have pY:=xV.vz (lp':={eA with state:=.ready,pending:=none}) (.head _ _ _) rfl;refine⟨C4,(.loop (w.heap.size+1) eA (aX st.env)::.obj w.heap.size (.deferred (some []))::sK)++c0,C5.putObj zX,C6.trans (Ext.putObj GK zX),?_,.inl ⟨_,.b true,rfl,.val _,_,rfl,rfl,mx.1,sK,mx.2,rfl⟩⟩;have XF:eA={eA with state:=.ready,pending:=none}:=by rw[lA]
     rw[XF];simpa [List.append_assoc] using pY
    | panic ch=>
     obtain⟨aN,e9,nL,v,y,rfl,ed,HC⟩:=mx;refine⟨aN,C4,(.loop (w.heap.size+1) {eA with state:=.busy} (aX st.env)::.obj w.heap.size (.deferred (some []))::sK)++c0,C5,C6,?_,.inr ⟨v,y,rfl,ed,_,rfl,e9,nL,sK,HC,rfl⟩⟩;simpa [List.append_assoc] using xV
    | ret=>exact mx.elim
    | exit id=>exact mx.elim
    | goto t=>exact mx.elim
    | outgrown=>exact mx.elim
   | exit id=>exact mZ.elim
   | goto t=>exact mZ.elim
   | ret=>exact mZ.elim
   | panic ch=>exact mZ.elim
   | outgrown=>exact mZ.elim
 have ij:=vB sI N6 _ _ _ (λy dK ⟨H1,h,_⟩=>nK y H1 h) iT _ Hx ⟨H,bF,rfl⟩ I _ (.func (.func f) #[] eQ) [.func (.yield (w.heap.size+1)) #[] #[]] Gw (by simpa using sH) (.fn _ _ _ _ _ .nil (ak.bQ c1.keeps)) (.cons _ _ _ _ (.fn _ _ _ _ _ .nil .nil) .nil);rcases ij with⟨f',vf',vc',a6,cA,hcalls⟩ | ⟨l,a6,_⟩
 ·simp only[Value.func.injEq,Fn.func.injEq] at a6;obtain⟨rfl,rfl,rfl⟩:=a6;refine⟨w.heap.size+1,[{target:=.collected w.heap.size,args:=#[]}],(w.alloc (.deferred (some []))).alloc (.loop eA),{target:=.fn (.func f) eQ,args:=#[.func (.yield (w.heap.size+1)) #[] #[]]},(w.alloc (.deferred (some []))).alloc (.loop eA),f,
   #[.func (.yield (w.heap.size+1)) #[] #[]]++eQ,(w.alloc (.deferred (some []))).alloc (.loop eA),?_,?_,λ_ _=>trivial,?_,by simp[bb],?_⟩
  ·rw[lA];exact run_enterLoop_outer f0 a.tmps #[p,q] assign body
  ·have xX:a.eval (.tmp t)= .func (.func f) #[] eQ:=hu;simp only[resolve,rangeCall,xX];simp[Deferred.ofValue,Act.eval]
  ·simp[invoke,xQ cA]
  ·have gF:(#[]++[Value.func (Fn.yield (w.heap.size+1)) #[] #[]].toArray++eQ)= #[Value.func (Fn.yield (w.heap.size+1)) #[] #[]]++eQ:=by simp
   rw[gF] at hcalls;refine F6 (hcalls.mono λe W hR=>?_);obtain⟨pZ,Wl,zY,sL,pY,nB⟩:=hR;rcases nB with nB | nB
   ·obtain⟨v,y,rfl,_,nB⟩:=nB;obtain⟨nL,XG,pb,rfl,N7,H1,GM,rfl⟩:=nB;obtain⟨zZ,z1,_,tV⟩:=pY.ok _ (.head _);have z6:eA.pending=none:=by rw[lA]
    have z7:=run_endLoop (P:=P) z1 (by rw[lA];simp);rw[z6] at z7;refine⟨none,_,z7,?_⟩;have vG:=(pY.vz (lp':={eA with state:=.exhausted}) (.head _ _ _) rfl).tail;have rE:Ext c.B pZ W pZ (W.putObj (w.heap.size+1) (.loop {eA with state:=.exhausted})):=Ext.putObj zZ tV;rw[z6] at rE vG;refine done w.heap.size H1 pb nL N7 GM _ _ ⟨?_,s.size,pZ,zY.putObj tV,(he.trans (c1.trans sL)).trans rE,vG,(aC.bQ (c1.trans sL).keeps).bQ rE.keeps⟩;show _::a.defers=_;rw[s.ds]
   ·obtain⟨v,y,rfl,hy,nL,XG,pb,rfl,H1,HC,rfl⟩:=nB;refine oe w.heap.size y H1 pb nL HC pZ v _ _ ⟨?_,s.size,pZ,zY,he.trans (c1.trans sL),pY.tail,aC.bQ (c1.trans sL).keeps⟩ hy;show _::a.defers=_;rw[s.ds]
 ·simp at a6
end
def HD(P:Program)(t:TypeId)(name:String):Option FuncId:=
 match P.info? t with
 | some i=>match i.methods.find? (·.name==name) with
  | some m=>match m.path.toList,m.func,P.underlying t with
   | [],some (f,true),some (.pointer _)=>some f
   | [],some (f,false),some (.pointer _)=>none
   | [],some (f,false),some _=>some f
   | _,_,_=>none
  | none=>none
 | none=>none
section
variable{P:Program}{o:Oper}{ρ:Nat->Option aa}
theorem XH{t:TypeId}{name:String}{f:FuncId}(h:HD P t name=some f)(v:Value)(w:World)(fuel:Nat):(method (fuel+1) t v name).run P w= .ok (f,v) w:=by
 unfold HD at h;split at h
 ·rename_i i av;split at h
  ·rename_i m hm;split at h
   ·rename_i f' e vS HE hu;cases h;simp[method,typeInfo,av,hm,vS,follow,HE,receiverAt,run_underlying hu,Place.get]
   ·cases h
   ·rename_i f' d XI vS HE hu;cases h;cases d <;> first | (exact absurd rfl (XI _)) | simp[method,typeInfo,av,hm,vS,follow,HE,receiverAt,run_underlying hu,Place.get]
   ·cases h
  ·cases h
 ·cases h
theorem gZ.inv{x:Operand}{name:String}{args:Array Operand}{iI:Array TypeId}{t:TypeId}{y:aa}{f:FuncId}{ys:List (Bool×aa)}{g:Bool}(h:o.op= .call {callee:=.invoke x name,args:=args,argTypes:=iI})
  (ag:bf ρ x=some (g,.iface t y)) (al:g=true) (hm:HD P t name=some f) (bN:j2 ρ args.toList=some ys) (nw:ys.all (·.1)=true):gZ P ρ o f (y::ys.map (·.2)):=by
 refine⟨λI w a aA=>?_,cB⟩;have ab:=aA.get ig ag al;have ae:=tM aA args.toList ys (λz an=>by simp[h,Op.operands,Call.operands];right;simpa using an) bN (by simpa using nw);generalize aC:a.eval x=u at ab;cases ab with
 | iface _ _ v aK=>
  refine⟨v::args.toList.map a.eval,.cons _ _ _ _ aK ae,λcA=>?_⟩;have Ay:=XH (P:=P) hm v w (P.types.size+Made.depth - 1);have aN:P.types.size+Made.depth - 1+1=P.types.size+Made.depth:=by simp[Made.depth]
  rw[aN] at Ay;have cN:(v::args.toList.map a.eval).toArray= #[v]++args.map a.eval:=by apply Array.ext';simp
  simp only[cN];have gO:(#[Value.iface t v]++args.map a.eval).extract 1 (#[Value.iface t v]++args.map a.eval).size=args.map a.eval:=by apply Array.ext';simp;rw[List.take_of_length_le];simp
  have mv:(#[Value.iface t v]++args.map a.eval)[0]? =some (Value.iface t v):=by rw[Array.getElem?_append_left (Nat.zero_lt_one)];rfl
  simp only[execOp,h,resolve,aC,Sem.run_bind,Sem.run_pure,Result.andThen_ok,invoke,mv,gO,callMethod,run_program,Ay,xQ cA]
end
section
variable{P:Program}{H:List aj}{ρ:Nat->Option aa}{o:Oper}
theorem af.HF{t:TypeId}{x y z:Operand}{k:Nat}{els:List (List aa)}{cC cR ye:Bool}{lF Az:IntKind}[ht:ft P t k](h:o.op= .slice t x none (some y) (some z))(ag:bf ρ x=some (cC,.aF k els))(dG:cC=true)
  (hy:bf ρ y=some (cR,.val (.int lF (els.length:Int)))) (dX:cR=true) (an:bf ρ z=some (ye,.val (.int Az (els.length:Int)))) (HG:ye=true):af P H ρ o (.aF k els):=by
 refine .same cB λI w a aA=>?_;have ab:=aA.get cx ag dG;have dh:=ct (aA.get cx hy dX);have ea:=ct (aA.get cx an HG);obtain⟨e,inf,mY,kP,ao⟩:=pU ht.h;generalize hu:a.eval x=u at ab;have run:∀(cX:Option Addr) (n cap:Nat),n=els.length->n<=cap->(Instr.sliceAt t (.slice cX n cap) none (some (.int lF (els.length:Int))) (some (.int Az (els.length:Int)))).run P w= .ok (.slice (if n=0 then cX else cX.map (·.add (0*k))) n n) w:=by
  intro cX n cap hn ak;subst hn;have ai:(0:Int)<=(els.length:Int):=Int.natCast_nonneg _;simp[Instr.sliceAt,Instr.slice,run_underlying mY,Instr.sliceBounds,Instr.sliceBound,asIntOf,sizeOf,typeInfo,kP,ao,ak]
 cases ab with
 | aF _ _ b off len cap ax ak hm e5=>
  refine⟨.slice (some ⟨b,off,none⟩) len len,?_,.aF _ _ _ _ _ _ ax (Nat.le_refl _) (Nat.le_trans ak hm) e5⟩;have:=run (some ⟨b,off,none⟩) len cap ax.symm ak;have gF:(if len=0 then some (⟨b,off,none⟩:Addr) else (some (⟨b,off,none⟩:Addr)).map (·.add (0*k)))=some ⟨b,off,none⟩:=by split <;> simp[Addr.add]
  rw[gF] at this;simp[execOp,h,hu,dh,ea,this]
 | eP _ cX cap=>
  have:=run cX 0 cap rfl (Nat.zero_le _);refine⟨.slice cX 0 0,?_,.eP _ _ _⟩;rw[if_pos rfl] at this;simp only[execOp,h,hu,dh,ea,Option.map_none,Option.map_some,Sem.run_bind,this,Result.andThen_ok,Sem.run_pure]
end
section
variable{P:Program}{H:List aj}{ρ:Nat->Option aa}{o:Oper}
end
section
variable{c:Ctx}{r:Option Nat}{P:Program}{ops:Array Oper}{l rest:List Oper}{o:Oper}{env:List (Nat×aa)}{H:List aj}{Q:Exit->Act->World->Prop}{d:Nat}
end
section
variable{P:Program}{c:Ctx}{r:Option Nat}{ops:Array Oper}{l rest:List Oper}{env:List (Nat×aa)}{H:List aj}{Q:Exit->Act->World->Prop}{o:Oper}{d:Nat}
theorem au.XJ{x y:Operand}{t e dA:Nat}(m n:Nat){v:Value}{dN lF:IntKind}{AA AB:Int}{g1 g2:Bool}[bT:ui P t (e,dA,v)](cU:o.guard=none)(aN:o.dst=some d)(hn:Nat.blt d c.n=true)(h:o.op= .makeSlice t x y)
  (ag:bf (aX env) x=some (g1,.val (.int dN AA))) (dB:g1=true) (hy:bf (aX env) y=some (g2,.val (.int lF AB))) (dY:g2=true) (pc:AA=(m:Int)) (cu:AB=(n:Int)) (ld:m<=n) (aw:dA*n<=281474976710656) (hm:n<=maxLen)
  (next:∀b,au c r P ops rest ⟨(d,.val (.slice (some ⟨b,0,none⟩) m n))::env,.aI b e (List.replicate n (.val v))::H⟩ Q):au c r P ops (o::rest) ⟨env,H⟩ Q:=by
 subst pc;subst cu;intro a w s;refine wpListIn_plain cU λK ca=>?_;obtain⟨I,hw,he,az,aC⟩:=s.mem;obtain⟨i,z,hu,av,an,ao,lx,jv⟩:=Hf bT.h;have a6:a.eval x= .int dN (m:Int):=ct ((aC.ops o).get cx ag dB);have aW:a.eval y= .int lF (n:Int):=ct ((aC.ops o).get cx hy dY);have dW:=run_make (P:=P) w t e i z hu av an dN lF (m:Int) (n:Int) ad ad FX (by simp[maxLen] at hm;omega);rw[jv,ao,Nat.mul_one,Int.toNat_natCast,Int.toNat_natCast,Hg] at dW;refine cM.fN (R:=λu w'=>u= .slice (some ⟨w.heap.size,0,none⟩) m n/\w'=w.alloc (.cells (List.replicate n v).toArray e)) (E:=λ_ _=>False) cB (v:=.slice (some ⟨w.heap.size,0,none⟩) m n) (w':=w.alloc (.cells (List.replicate n v).toArray e)) (by simp[execOp,h,a6,aW,dW]) ⟨rfl,rfl⟩ K Q ?_ (λ_ _ h=>h.elim);rintro u w' ⟨rfl,rfl⟩;have ab:bZ I w (List.replicate n (.val v)) (List.replicate n v):=by have:=l1 (I:=I) (w:=w) (List.replicate n v);rwa [List.map_replicate] at this
 refine ca _ _ (next w.heap.size _ _ ⟨jr,jq,I,hw.alloc _,he.trans (kN hw _),az.new hw e _ _ pQ,?_⟩);rw[aN];exact (aC.bQ (mq hw _)).put (dst:=some d) oQ (.val _)
theorem au.XK{s z:Operand}{t tx e k dA cJ b off hz hA tb:Nat}{cs:List aa}{news:List (List aa)}{y:aa}{g1 g2:Bool}{H':List aj}[cy:hv P t (e,k,dA)][je:ft P tx cJ](cU:o.guard=none)(aN:o.dst=some d)(hn:Nat.blt d c.n=true)
  (h:o.op= .call {callee:=.builtin .append,args:=#[s,z],argTypes:=#[t,tx]}) (aH:bf (aX env) s=some (g1,.val (.slice (some ⟨b,off,none⟩) hz hA))) (dB:g1=true) (an:bf (aX env) z=some (g2,y)) (dY:g2=true) (hy:aL y (.aF k news))
  (qH:hz+news.length<=hA) (ab:news.all eG=true) (AD:off+hz*k+news.flatten.length<=cs.length)
  (hu:bu H (.aI b tb cs) (.aI b tb (cs.take (off+hz*k)++news.flatten++cs.drop (off+hz*k+news.flatten.length))) H')
  (next:au c r P ops rest ⟨(d,.val (.slice (some ⟨b,off,none⟩) (hz+news.length) hA))::env,H'⟩ Q):au c r P ops (o::rest) ⟨env,H⟩ Q:=by
 intro a w sat;refine wpListIn_plain cU λK ca=>?_;obtain⟨I,hw,he,az,aC⟩:=sat.mem;have aA:=aC.ops o;obtain⟨i,zv,mY,av,l2,eH,lx,jv,jw⟩:=qB cy.h;obtain⟨e',_,qC,_⟩:=pU je.h;have lZ:=ct (aA.get ig aH dB);obtain⟨us,aS,AE⟩:=zM (P:=P) (tx:=tx) qC (hy _ _ _ (aA.get ig an dY)) ab;rw[<-eH] at AE;obtain⟨bE,vs,jc,ed,cu⟩:=az.ok _ hu.mem;have dp:vs.size=cs.length:=by have:=ed.length;simpa using this
 have ir:us.length=news.flatten.length:=aS.length;have eh:=run_storeCells_at P b (off+hz*k) tb us 0 vs w jc (by rw[ir];omega) AE.one;simp only[Nat.add_zero,ir] at eh;generalize pV:(vs.toList.take (off+hz*k)++us++vs.toList.drop (off+hz*k+news.flatten.length)).toArray=cur at eh;have aK:(Builtin.append_ #[t,tx] o.type #[a.eval s,a.eval z]).run P w= .ok (.slice (some ⟨b,off,none⟩) (hz+news.length) hA) (w.setRow b cur):=by
  have rB:=AE.cells;rw[eH] at rB;rw[lZ];rcases AE.kind with⟨aW,gD⟩ | gD <;> simp[Builtin.append_,run_underlying mY,run_underlying gD,sizeOf,typeInfo,av,AE.len,qH,rB,Addr.add_lit,eH,eh]
 have hK:fb I w I (w.setRow b cur):=⟨λ_ _ x=>x,λdk o' b4=>by
  have bq:dk≠b:=λe=>by subst e;exact cu o' b4
  exact World.cell?_of_block (a:=⟨dk,o',none⟩) (setRow_other w b dk cur bq)⟩
 have sy:Ext c.B I w I (w.setRow b cur):=⟨hK.j0,hK.cell,⟨rfl,rfl,rfl,bj,λk ao=>setRow_other w b k cur ad⟩⟩;have dc:ck c.B I (w.setRow b cur):=⟨xK,λdk o' b4=>by rw[hK.cell dk o' b4];exact hw.there dk o' b4⟩;have sz:bZ I w (cs.take (off+hz*k)++news.flatten++cs.drop (off+hz*k+news.flatten.length)) cur.toList:=by
  rw[<-pV];exact ((ed.take _).append aS).append (ed.drop _)
 have cW:br c.B I (w.setRow b cur) H':=by
  refine az.gH hu hK (λk ao bq=>setRow_other w b k cur (λe=>bq xN)) (λ_ _ x=>.inl x) ?_ (λk ao=>.inl ao);exact⟨bE,cur,setRow_heap w b vs cur tb (0,0) jc,sz.bQ hK,cu⟩
 refine cM.fN (R:=λv w'=>v= .slice (some ⟨b,off,none⟩) (hz+news.length) hA/\w'=w.setRow b cur) (E:=λ_ _=>False) cB (tT h a w aK) ⟨rfl,rfl⟩ K Q ?_ (λ_ _ h=>h.elim);rintro v w' ⟨rfl,rfl⟩;refine ca _ _ (next _ _ ⟨zo,zm,I,dc,he.trans sy,cW,?_⟩);have:=(aC.bQ hK).put (dst:=some d) (x:=.val (.slice (some ⟨b,off,none⟩) (hz+news.length) hA)) (v:=.slice (some ⟨b,off,none⟩) (hz+news.length) hA) (by rw[sat.size];exact hn) (.val _);rw[aN];exact this
theorem au.qA{st:dn}{d b n cap k:Nat}{t:TypeId}{els:List (List aa)}{more:List aa}{H':List aj}(aN:aX st.env d=some (.val (.slice (some ⟨b,0,none⟩) n cap)))(fZ:hq st.H (.aI b t (els.flatten++more)) H')
  (hn:els.length=n) (ao:∀e∈els,e.length=k) (ak:n<=cap) (hm:cap<=maxLen) (h:au c r P ops l ⟨(d,.aF k els)::st.env,H'⟩ Q):au c r P ops l st Q:=
 λa w s=>h a w (s.qA aN fZ hn ao ak hm)
end
theorem fD.imp{B:Nat}{cl:a8}{aO:World}{bw jd E k9:aa->List aj->Prop}(ab:∀y H,bw y H->jd y H)(ae:∀y H,E y H->k9 y H):∀e w,fD B cl aO bw E e w->fD B cl aO jd k9 e w:=by
 rintro e w ⟨aQ,H',a,b,c,d⟩;refine⟨aQ,H',a,b,c,?_⟩;rcases d with⟨v,x,a6,aW,cN⟩ | ⟨v,x,a6,aW,cN⟩
 ·exact .inl ⟨v,x,a6,aW,ab _ _ cN⟩
 ·exact .inr ⟨v,x,a6,aW,ae _ _ cN⟩
theorem dC.imp{B:Nat}{P:Program}{f:FuncId}{xs:List aa}{H:List aj}{bw jd E k9:aa->List aj->Prop}(h:dC B P f xs H bw E)(ab:∀y H,bw y H->jd y H)(ae:∀y H,E y H->k9 y H):dC B P f xs H jd k9:=
 ⟨h.1,λI w vs hw az aK=>(h.2 I w vs hw az aK).mono (fD.imp ab ae)⟩
theorem b1.imp{P:Program}{f:FuncId}{xs:List aa}{H:List aj}{bw jd E k9:aa->List aj->Prop}(h:b1 P f xs H bw E)(ab:∀y H,bw y H->jd y H)(ae:∀y H,E y H->k9 y H):b1 P f xs H jd k9:=
 ⟨h.1,λB I w vs hw az aK=>(h.2 B I w vs hw az aK).mono (fD.imp ab ae)⟩
section
variable{c:Ctx}{r:Option Nat}{P:Program}{st:dn}{Q:Exit->Act->World->Prop}
theorem aq.XL{p q:Code}(h:aq c r P q st Q):aq c r P (.cond (.const (.bool false)) p q) st Q:=λa w s=>by
 have:=h a w s;exact wpIn_cond_false rfl this
end
theorem aR.Dy{α:Type}{st:dn}{B:Nat}{cl:a8}{aO:World}{n l D:Nat}{dw:Loop}{ρ:Nat->Option aa}{L:List α}{fQ:Bool}{J:List α->List aj->Prop}{gJ:aa->List aj->Prop}{pre:List α}{H Hx:List aj}{ds:List Deferred}
  (b0:(.loop l dw ρ::.obj D (.deferred (some []))::(H++Hx)).Sublist st.H) (ax:pre=L->fQ=false) (bF:J pre H):aR ⟨B,cl,aO,n,ds⟩ st .normal (HB B cl aO l D dw ρ L fQ J gJ pre Hx):=λa w s=>
 let ⟨I,hw,he,az,_⟩:=s.mem;⟨I,H,hw,he,az.sub b0,ax,bF⟩
theorem aR.AF{α:Type}{st:dn}{B:Nat}{cl:a8}{aO:World}{n l D:Nat}{dw:Loop}{ρ:Nat->Option aa}{L:List α}{fQ:Bool}{J:List α->List aj->Prop}{gJ:aa->List aj->Prop}{pre:List α}{H Hx:List aj}{y:aa}{v:Value}
  (b0:(.loop l dw ρ::.obj D (.deferred (some []))::(H++Hx)).Sublist st.H) (hy:y.Const v) (aB:pre=L) (aP:fQ=true) (bF:gJ y H):aR ⟨B,cl,aO,n,[]⟩ st (.panic [{v:=v,recovered:=false}]) (HB B cl aO l D dw ρ L fQ J gJ pre Hx):=λa w s=>
 let ⟨I,hw,he,az,_⟩:=s.mem;⟨I,H,hw,he,az.sub b0,s.ds,aB,aP,v,y,rfl,hy.rel _ _,bF⟩
section
variable{P:Program}{H:List aj}{ρ:Nat->Option aa}{o:Oper}{G:Type}
def rM(H:List aj)(ρ:Nat->Option aa)(o:Oper)(y:Operand)(k iV:Nat)(l8:List aa):Prop:=∀(B:Nat) (I:a8) (w:World) (a:Act),br B I w H->gi I w ρ a o->
 ∃kf c7 jQ us,a.eval y= .slice (some ⟨kf,c7,none⟩) iV jQ/\bZ I w l8 us/\us.length=iV*k/\∀j v,us[j]? =some v->w.cell? ⟨kf,c7+j,none⟩=some v
theorem rM.aF{y:Operand}{k:Nat}{els:List (List aa)}{g:Bool}{z:aa}(hm:y∈o.op.operands)(ag:bf ρ y=some (g,z))(al:g=true)(hle:aL z (.aF k els))(bq:els≠ []):rM H ρ o y k els.length els.flatten:=by
 intro B I w a az aA;have ai:=hle _ _ _ (aA.get hm ag al);generalize a.eval y=u at ai;cases ai with
 | eP _ a il=>exact absurd rfl bq
 | aF _ _ b off len cap ax ak im he=>
  subst ax;obtain⟨us,aS,ee,ny⟩:=he.values;exact⟨b,off,cap,us,rfl,aS,ee,λj v aU=>by have:=ny j v aU;rwa [Addr.add_lit] at this⟩
theorem rM.aI{y:Operand}{k kf c7 iV jQ tb:Nat}{cs:List aa}{g:Bool}(hm:y∈o.op.operands)(ag:bf ρ y=some (g,.val (.slice (some ⟨kf,c7,none⟩) iV jQ)))(al:g=true)(he:aj.aI kf tb cs∈H)(hfit:c7+iV*k<=cs.length):
  rM H ρ o y k iV ((cs.drop c7).take (iV*k)):=by
 intro B I w a az aA;have ai:=ct (aA.get hm ag al);obtain⟨bE,vs,jc,ed,cu⟩:=az.ok _ he;have ax:vs.size=cs.length:=by have:=ed.length;simpa using this
 refine⟨kf,c7,jQ,(vs.toList.drop c7).take (iV*k),ai,(ed.drop _).take _,?_,λj v aU=>?_⟩
 ·rw[List.length_take,List.length_drop,Array.length_toList];omega
 ·rw[List.getElem?_take] at aU;split at aU
  ·rw[List.getElem?_drop] at aU;rw[kQ jc];simpa using aU
  ·cases aU
theorem N8{l:List aa}{n:Nat}(h:eG l=true):eG (l.take n)=true:=List.all_eq_true.2 λx ag=>List.all_eq_true.1 h x (List.mem_of_mem_take ag)
theorem N9{x y:Operand}{t dR:TypeId}{k b cV hz hA iV m tb:Nat}{cs l8:List aa}{H':List aj}{g1:Bool}[ht:ft P t k](h:o.op= .call {callee:=.builtin .copy,args:=#[x,y],argTypes:=#[t,dR]})
  (ag:bf ρ x=some (g1,.val (.slice (some ⟨b,cV,none⟩) hz hA))) (dB:g1=true) (hy:rM H ρ o y k iV l8) (ab:eG (l8.take (m*k))=true) (hm:min iV hz=m) (hfit:cV+m*k<=cs.length)
  (hu:bu H (.aI b tb cs) (.aI b tb (cs.take cV++l8.take (m*k)++cs.drop (cV+m*k))) H') {B:Nat} {I:a8} {w:World} {r:Option Nat} {a:Act} (hw:ck B I w) (az:br B I w H) (aA:gi I w ρ a o):
  cM P r o a w (λv w'=>ck B I w'/\Ext B I w I w'/\br B I w' H'/\Rel I w' (.i m) v) (λ_ _=>False):=by
 have hM:=ct (aA.get ig ag dB);obtain⟨kf,c7,jQ,us,XM,aS,ee,ny⟩:=hy B I w a az aA;obtain⟨bE,vs,jc,ed,cu⟩:=az.ok _ hu.mem;have dp:vs.size=cs.length:=by have:=ed.length;simpa using this
 have ld:m*k<=us.length:=by rw[ee];exact Nat.mul_le_mul_right k ad
 have hlen:(us.take (m*k)).length=m*k:=by rw[List.length_take];omega
 obtain⟨el,i,mY,av,ao⟩:=pU ht.h;have qx:=vr (aS.take (m*k)) ab;have aP:=run_firstCells_some (P:=P) w i.size m ⟨kf,c7,none⟩ iV jQ (us.take (m*k)) (by rw[ao];exact hlen) (λj v aU=>by
  rw[List.getElem?_take] at aU;split at aU
  ·rw[Addr.add_lit];exact ny j v aU
  ·cases aU)
 have eh:=run_storeCells_at P b cV tb (us.take (m*k)) 0 vs w jc (by rw[hlen];omega) qx;simp only[Nat.add_zero,hlen] at eh;generalize pV:(vs.toList.take cV++us.take (m*k)++vs.toList.drop (cV+m*k)).toArray=cur at eh;have aK:(Builtin.copy_ #[t,dR] o.type #[a.eval x,a.eval y]).run P w= .ok (.int .i64 (m:Nat)) (w.setRow b cur):=by
  rw[hM,XM];simp[Builtin.copy_,run_underlying mY,sizeOf,typeInfo,av,Builtin.lenOf,hm,aP,eh,goInt]
 have hK:fb I w I (w.setRow b cur):=⟨λ_ _ x=>x,λdk o' b4=>by
  have bq:dk≠b:=λe=>by subst e;exact cu o' b4
  exact World.cell?_of_block (a:=⟨dk,o',none⟩) (setRow_other w b dk cur bq)⟩
 have sy:Ext B I w I (w.setRow b cur):=⟨hK.j0,hK.cell,⟨rfl,rfl,rfl,bj,λk ao=>setRow_other w b k cur ad⟩⟩;have dc:ck B I (w.setRow b cur):=⟨xK,λdk o' b4=>by rw[hK.cell dk o' b4];exact hw.there dk o' b4⟩;have sz:bZ I w (cs.take cV++l8.take (m*k)++cs.drop (cV+m*k)) cur.toList:=by
  rw[<-pV];exact ((ed.take _).append (aS.take _)).append (ed.drop _)
 have cW:br B I (w.setRow b cur) H':=by
  refine az.gH hu hK (λk ao bq=>setRow_other w b k cur (λe=>bq xN)) (λ_ _ x=>.inl x) ?_ (λk ao=>.inl ao);exact⟨bE,cur,setRow_heap w b vs cur tb (0,0) jc,sz.bQ hK,cu⟩
 exact cM.fN (R:=λv w'=>ck B I w'/\Ext B I w I w'/\br B I w' H'/\Rel I w' (.i m) v) (E:=λ_ _=>False) cB (v:=.int .i64 (m:Nat)) (w':=w.setRow b cur) (by simp[execOp,h,resolve,invoke,builtin,aK]) ⟨dc,sy,cW,.val _⟩
theorem jD.copy{x y:Operand}{t dR:TypeId}{k b cV hz hA iV tb:Nat}{cs l8:List aa}{H':G->Value->List aj}{g1:Bool}(g:G)(m:Nat)[ht:ft P t k](h:o.op= .call {callee:=.builtin .copy,args:=#[x,y],argTypes:=#[t,dR]})
  (ag:bf ρ x=some (g1,.val (.slice (some ⟨b,cV,none⟩) hz hA))) (dB:g1=true) (hy:rM H ρ o y k iV l8) (ab:eG l8=true) (hm:min iV hz=m) (hfit:cV+m*k<=cs.length)
  (hu:∀v,bu H (.aI b tb cs) (.aI b tb (cs.take cV++l8.take (m*k)++cs.drop (cV+m*k))) (H' g v)):jD P H H' ρ o (.i m):=λB I w r a hw az aA=>
 (N9 h ag dB hy (N8 ab) hm hfit (hu (.int .i64 m)) hw az aA).mono (λv w' ⟨cI,a2,a3,a4⟩=>⟨I,g,cI,a2,(by have e:=ct a4;rw[e];exact a3),a4⟩) (λ_ _ h=>h)
section
variable{c:Ctx}{r:Option Nat}{ops:Array Oper}{l rest:List Oper}{env:List (Nat×aa)}{Q:Exit->Act->World->Prop}{d:Nat}
theorem au.XN{x y:Operand}{t dR:TypeId}{k b cV hz hA iV tb:Nat}{cs l8:List aa}{H':List aj}{g1:Bool}(m:Nat)[ht:ft P t k](cU:o.guard=none)(aN:o.dst=some d)(hn:Nat.blt d c.n=true)(h:o.op= .call {callee:=.builtin .copy,args:=#[x,y],argTypes:=#[t,dR]})
  (ag:bf (aX env) x=some (g1,.val (.slice (some ⟨b,cV,none⟩) hz hA))) (dB:g1=true) (hy:rM H (aX env) o y k iV l8) (ab:eG (l8.take (m*k))=true) (hm:min iV hz=m) (hfit:cV+m*k<=cs.length)
  (hu:bu H (.aI b tb cs) (.aI b tb (cs.take cV++l8.take (m*k)++cs.drop (cV+m*k))) H') (next:au c r P ops rest ⟨(d,.i m)::env,H'⟩ Q):au c r P ops (o::rest) ⟨env,H⟩ Q:=by
 intro a w sat;refine wpListIn_plain cU λK ca=>?_;obtain⟨I,hw,he,az,aC⟩:=sat.mem;have:=N9 (P:=P) (r:=r) (a:=a) h ag dB hy ab hm hfit hu hw az (aC.ops o);refine this K Q ?_ (λ_ _ h=>h.elim);rintro v w' ⟨cI,a2,a3,a4⟩;refine ca _ _ (next _ _ ⟨zo,zm,I,cI,he.trans a2,a3,?_⟩);have:=(aC.bQ a2.keeps).put (dst:=some d) (by rw[sat.size];exact hn) a4;rw[aN];exact this
theorem au.XO{x y:Operand}{t dR:TypeId}{k b cV hz hA iV tb:Nat}{cs l8:List aa}{H':List aj}{g1:Bool}(m:Nat)[ht:ft P t k](cU:o.guard=none)(aN:o.dst=some d)(hn:Nat.blt d c.n=true)(h:o.op= .call {callee:=.builtin .copy,args:=#[x,y],argTypes:=#[t,dR]})
  (ag:bf (aX env) x=some (g1,.val (.slice (some ⟨b,cV,none⟩) hz hA))) (dB:g1=true) (hy:rM H (aX env) o y k iV l8) (ab:eG l8=true) (hm:min iV hz=m) (hfit:cV+m*k<=cs.length)
  (hu:bu H (.aI b tb cs) (.aI b tb (cs.take cV++l8.take (m*k)++cs.drop (cV+m*k))) H') (next:au c r P ops rest ⟨(d,.i m)::env,H'⟩ Q):au c r P ops (o::rest) ⟨env,H⟩ Q:=au.XN m cU aN hn h ag dB hy (N8 ab) hm hfit hu next
end
end
def HH(P:Program)(t:TypeId):Bool:=match P.underlying t with
 | some (.interface _)=>false
 | some _=>(match P.info? t with | some i=>i.zero.isSome | none=>false)
 | none=>false
class AG (P:Program) (t:Nat):Prop where h:HH P t=true
theorem HI{P:Program}{t:TypeId}(h:HH P t=true):∃d i z,P.underlying t=some d/\(∀l,d≠ .interface l)/\P.info? t=some i/\i.zero=some z:=by
 unfold HH at h;split at h
 ·cases h
 ·rename_i d aN hu;split at h
  ·rename_i i av;obtain⟨z,an⟩:=Option.isSome_iff_exists.1 h;exact⟨d,i,z,hu,λl e=>aN l (by rw[<-e]),av,an⟩
  ·cases h
 ·cases h
section
variable{P:Program}{H:List aj}{ρ:Nat->Option aa}{o:Oper}
theorem af.Vp{x:Operand}{AH t:TypeId}{y:aa}{g:Bool}[bX:AG P t](h:o.op= .typeAssert x AH t true)(ag:bf ρ x=some (g,.iface t y))(al:g=true):af P H ρ o (.bJ [y,.b true]):=by
 obtain⟨d,i,z,hu,aN,av,an⟩:=HI bX.h;refine .same cB λI w f aA=>?_;have ab:=aA.get cx ag al;generalize aC:f.eval x=u at ab;cases ab with
 | iface _ _ v aK=>
  refine⟨.tuple #[v,.bool true],?_,.bJ _ _ (.cons _ _ _ _ aK (.cons _ _ _ _ (.val _) .nil))⟩;cases d <;> first | (exact absurd rfl (aN _)) | simp[execOp,h,aC,Instr.typeAssert,run_underlying hu]
theorem af.Vq{x:Operand}{AH t t2:TypeId}{y:aa}{g:Bool}[bX:AG P t](h:o.op= .typeAssert x AH t true)(ag:bf ρ x=some (g,.iface t2 y))(al:g=true)(bq:Nat.beq t2 t=false):af P H ρ o (.bJ [.any,.b false]):=by
 obtain⟨d,i,z,hu,aN,av,an⟩:=HI bX.h;have hn:t2≠t:=λe=>by subst e;simp at bq
 refine .same cB λI w f aA=>?_;have ab:=aA.get cx ag al;generalize aC:f.eval x=u at ab;have ik:(zeroValue t).run P w= .ok z w:=by simp[zeroValue,typeInfo,av,an]
 cases ab with
 | iface _ _ v aK=>
  refine⟨.tuple #[z,.bool false],?_,.bJ _ _ (.cons _ _ _ _ (.any _) (.cons _ _ _ _ (.val _) .nil))⟩;cases d <;> first | (exact absurd rfl (aN _)) | simp[execOp,h,aC,Instr.typeAssert,run_underlying hu,hn,ik]
theorem af.Vr{x:Operand}{AH t:TypeId}{g:Bool}[bX:AG P t](h:o.op= .typeAssert x AH t true)(ag:bf ρ x=some (g,.val .nilIface))(al:g=true):af P H ρ o (.bJ [.any,.b false]):=by
 obtain⟨d,i,z,hu,aN,av,an⟩:=HI bX.h;refine .same cB λI w f aA=>?_;have aC:=ct (aA.get cx ag al);have ik:(zeroValue t).run P w= .ok z w:=by simp[zeroValue,typeInfo,av,an]
 refine⟨.tuple #[z,.bool false],?_,.bJ _ _ (.cons _ _ _ _ (.any _) (.cons _ _ _ _ (.val _) .nil))⟩;cases d <;> first | (exact absurd rfl (aN _)) | simp[execOp,h,aC,Instr.typeAssert,run_underlying hu,ik]
end
abbrev eu(b:Nat)(l:List (Int×aa)):aj:=.map b (l.map λp=>(.int .i64 p.1,p.2))
def gL(k:Int):Prop:=-9223372036854775808<=k/\k<=9223372036854775807
structure lK(l:List (Int×aa)):Prop where
 small:∀p∈l,gL p.1
 nodup:(l.map (·.1)).Nodup
def hN:List (Int×aa)->Int->Option aa
 | [],_=>none
 | p::r,k=>if p.1=k then some p.2 else hN r k
def fg:List (Int×aa)->Int->aa->List (Int×aa)
 | [],k,v=>[(k,v)]
 | p::r,k,v=>if p.1=k then (k,v)::r else p::fg r k v
theorem yf:∀(l:List (Int×aa)) (k:Int) (v:aa) (cJ:Int),hN (fg l k v) cJ=if cJ=k then some v else hN l cJ
 | [],k,v,cJ=>by
  simp only[fg,hN];by_cases h:k=cJ
  ·rw[if_pos h,if_pos h.symm]
  ·rw[if_neg h,if_neg (λe=>h e.symm)]
 | p::r,k,v,cJ=>by
  by_cases h:p.1=k
  ·simp only[fg,if_pos h,hN];by_cases ae:cJ=k
   ·rw[if_pos ae.symm,if_pos ae]
   ·rw[if_neg (λe=>ae e.symm),if_neg ae,if_neg (λe=>ae (by rw[<-e,h]))]
  ·simp only[fg,if_neg h,hN,yf r k v cJ];by_cases ae:p.1=cJ
   ·rw[if_pos ae,if_pos ae,if_neg (λe=>h (ae.trans e))]
   ·rw[if_neg ae,if_neg ae]
theorem HJ:∀(l:List (Int×aa)) (k:Int) (v:aa),(fg l k v).map (·.1)=if k∈l.map (·.1) then l.map (·.1) else l.map (·.1)++[k]
 | [],k,v=>by simp[fg]
 | p::r,k,v=>by
  by_cases h:p.1=k
  ·simp[fg,h]
  ·have bm:=HJ r k v;simp only[fg,if_neg h,List.map_cons,bm];by_cases ae:k∈r.map (·.1)
   ·rw[if_pos ae,if_pos (List.mem_cons_of_mem _ ae)]
   ·rw[if_neg ae,if_neg (by simp only[List.mem_cons,not_or];exact⟨λe=>h e.symm,ae⟩)];rfl
theorem lK.nil:lK []:=⟨λp aB=>(by cases aB),bj⟩
theorem lK.put{l:List (Int×aa)}(h:lK l){k:Int}(ao:gL k)(v:aa):lK (fg l k v):=by
 refine⟨λp aB=>?_,?_⟩
 ·have ab:p.1∈(fg l k v).map (·.1):=List.mem_map_of_mem aB;rw[HJ] at ab;have key:∀x∈l.map (·.1),gL x:=λx ag=>by
   obtain⟨q,bd,rfl⟩:=List.mem_map.1 ag;exact h.small q bd
  split at ab
  ·exact key _ ab
  ·rcases List.mem_append.1 ab with ab | ab
   ·exact key _ ab
   ·simp at ab;rw[ab];exact ao
 ·rw[HJ];split
  ·exact h.nodup
  ·rename_i hn;refine List.nodup_append.2 ⟨h.nodup,bj,λa bN b aw=>?_⟩;simp at aw;subst aw;exact λe=>hn (e▸bN)
theorem HK:∀(l:List (Int×aa)) (k:Int) (v:aa),(∀p∈l,p.1≠k)->fg l k v=l++[(k,v)]
 | [],k,v,_=>rfl
 | p::r,k,v,h=>by rw[fg,if_neg (h p (.head _)),HK r k v (λq bd=>h q (.tail _ bd))];rfl
theorem HL:∀(l:List (Int×aa)) (k:Int),(∀p∈l,p.1≠k)->hN l k=none
 | [],k,_=>rfl
 | p::r,k,h=>by rw[hN,if_neg (h p (.head _)),HL r k (λq bd=>h q (.tail _ bd))]
theorem Dz:∀(l:List (Int×aa)) (k:Int) (v:aa) (j:Nat) (u:aa),(l.map (·.1)).Nodup->l[j]? =some (k,u)->fg l k v=l.set j (k,v)/\hN l k=some u
 | [],k,v,j,u,_,h=>by simp at h
 | p::r,k,v,0,u,hn,h=>by
  simp at h;subst h;simp[fg,hN]
 | p::r,k,v,j+1,u,hn,h=>by
  have cf:r[j]? =some (k,u):=by simpa using h
  have bq:p.1≠k:=by
   rw[List.map_cons,List.nodup_cons] at hn;intro e;exact hn.1 (by rw[e];exact List.mem_map.2 ⟨(k,u),List.mem_of_getElem? cf,rfl⟩)
  obtain⟨ab,ae⟩:=Dz r k v j u (by rw[List.map_cons,List.nodup_cons] at hn;exact hn.2) cf;rw[fg,hN,if_neg bq,if_neg bq,ab,ae];exact⟨rfl,rfl⟩
class rN (P:Program) (t:Nat) (x:outParam (Nat×Nat)):Prop where
 h:P.underlying t=some (.map x.1 x.2)
 int:P.underlying x.1=some (.int .i64)
class vT (P:Program) (t:Nat) (z:outParam Value):Prop where
 h:((P.info? t).bind (·.zero))=some z
theorem Oa{I:a8}{w:World}:∀{xs:List aa} {vs:List Value},bZ I w xs vs->∀{x:aa} {v:Value},Rel I w x v->∀{j:Nat},bZ I w (xs.set j x) (vs.set j v)
 | _,_,.nil,x,v,h,j=>.nil
 | _,_,.cons hf v0 xs vs ag ht,x,v,h,0=>.cons _ _ _ _ h ht
 | _,_,.cons hf v0 xs vs ag ht,x,v,h,j+1=>.cons _ _ _ _ ag (Oa ht h)
theorem yg{P:Program}{k:TypeId}(ao:P.underlying k=some (.int .i64)){n:Int}(hn:gL n):e0 P k (.int .i64 n):=by
 refine⟨.int .i64 n,?_⟩;have:(Go.Lit.int .i64 n).wf=true:=by
  simp only[Go.Lit.wf];rw[Bool.and_eq_true,decide_eq_true_eq,decide_eq_true_eq];exact hn
 simp[keyOf,ao,mapKey,this]
section
variable{P:Program}{H:List aj}{ρ:Nat->Option aa}{o:Oper}
theorem HM{t:TypeId}{z:Value}(h:((P.info? t).bind (·.zero))=some z)(w:World):(zeroValue t).run P w= .ok z w:=by
 cases av:P.info? t with
 | none=>simp[av] at h
 | some inf=>simp[av] at h;simp[zeroValue,typeInfo,av,h]
theorem af.ur{t:TypeId}{x dN:Operand}{b:Nat}{ke:Nat×Nat}{l:List (Int×aa)}{k:Int}{g1 g2:Bool}{zv:Value}[bT:rN P t ke][hZ:vT P ke.2 zv](h:o.op= .lookup t x dN false)
  (ag:bf ρ x=some (g1,.val (.map (some b)))) (dB:g1=true) (ao:bf ρ dN=some (g2,.i k)) (dY:g2=true) (hm:eu b l∈H) (ax:lK l) (eY:gL k):af P H ρ o ((hN l k).getD (.val zv)):=by
 intro B I w r a eo hw az aH aA;have hM:=ct (aA.get cx ag dB);have gw:=ct (aA.get cx ao dY);obtain⟨bE,⟨cv,dS,aw,ka,p3⟩,cu⟩:=az.ok _ (aH _ hm);have K:=Go.Maps.int_keyed bT.int;obtain⟨sO,ia⟩:=yg bT.int eY;have fe:∀e∈cv.toList,∃l,keyOf P ke.1 e.key=some l:=λe he=>by
  have:e.key∈(l.map λp=>((Value.int .i64 p.1,p.2):Value×aa)).map (·.1):=by rw[<-ka];exact List.mem_map_of_mem he
  rw[List.map_map] at this;obtain⟨p,aB,o5⟩:=List.mem_map.1 this;rw[<-o5];exact yg bT.int (ax.small p aB)
 have dQ:=K.check w cv.isEmpty ia;have iv:(getObj b).run P w= .ok (.map cv dS) w:=by simp[getObj,Sem.run,aw]
 rcases K.find w ia cv.toList fe with⟨aP,bq⟩ | ⟨j,e,aP,aU,kW⟩
 ·have an:=HM hZ.h w;have dW:(execOp a.eval o).run P w= .ok (.value zv) w:=by
   simp[execOp,h,Instr.lookup,run_underlying bT.h,hM,gw,iv,dQ,aP,an]
  have al:hN l k=none:=HL l k λp aB e=>by
   have:(Value.int .i64 p.1)∈cv.toList.map (·.key):=by rw[ka,List.map_map];exact List.mem_map.2 ⟨p,aB,rfl⟩
   obtain⟨e',cc,m3⟩:=List.mem_map.1 this;exact bq e' cc (by rw[m3,e])
  refine cM.fN cB dW ⟨I,hw,Ext.refl _ _ _,az,?_⟩;rw[al];exact .val _
 ·have dW:(execOp a.eval o).run P w= .ok (.value e.val) w:=by
   simp[execOp,h,Instr.lookup,run_underlying bT.h,hM,gw,iv,dQ,aP]
  obtain⟨u,gQ,m4⟩:=x4 p3 (i:=j) (v:=e.val) (by rw[List.getElem?_map,aU];rfl);have AI:l[j]? =some (k,u):=by
   rw[List.map_map,List.getElem?_map] at gQ;cases aB:l[j]? with
   | none=>rw[aB] at gQ;cases gQ
   | some p=>
    rw[aB] at gQ;have ae:((l.map λp=>((Value.int .i64 p.1,p.2):Value×aa)).map (·.1))[j]? =some e.key:=by rw[<-ka,List.getElem?_map,aU];rfl
    rw[List.map_map,List.getElem?_map,aB] at ae;simp at gQ ae;rw[kW] at ae;simp at ae;rw[show p=(k,u) from Prod.ext ae gQ]
  refine cM.fN cB dW ⟨I,hw,Ext.refl _ _ _,az,?_⟩;rw[(Dz l k .any j u ax.nodup AI).2];exact m4
theorem XP{t:TypeId}{x dN z:Operand}{b:Nat}{ke:Nat×Nat}{l:List (Int×aa)}{k:Int}{u u':aa}{g1 g2 g3:Bool}{H':List aj}[bT:rN P t ke](h:o.op= .mapUpdate t x dN z\/o.op= .insert t x dN z)
  (ag:bf ρ x=some (g1,.val (.map (some b)))) (dB:g1=true) (ao:bf ρ dN=some (g2,.i k)) (dY:g2=true) (an:bf ρ z=some (g3,u)) (sP:g3=true) (hle:aL u u')
  (hu:bu H (eu b l) (eu b (fg l k u')) H') (ax:lK l) (eY:gL k):ow P H H' ρ o:=by
 intro B I w r a hw az aA;have oh:x∈o.op.operands/\dN∈o.op.operands/\z∈o.op.operands:=by rcases h with h | h <;> simp[h,Op.operands]
 have o7:∀c,o.op≠ .defer c:=by rcases h with h | h <;> simp[h]
 have hM:=ct (aA.get oh.1 ag dB);have gw:=ct (aA.get oh.2.1 ao dY);have ik:=hle _ _ _ (aA.get oh.2.2 an sP);obtain⟨bE,⟨cv,dS,aw,ka,p3⟩,cu⟩:=az.ok _ hu.mem;have K:=Go.Maps.int_keyed bT.int;obtain⟨sO,ia⟩:=yg bT.int eY;have fe:∀e∈cv.toList,∃l,keyOf P ke.1 e.key=some l:=λe he=>by
  have:e.key∈(l.map λp=>((Value.int .i64 p.1,p.2):Value×aa)).map (·.1):=by rw[<-ka];exact List.mem_map_of_mem he
  rw[List.map_map] at this;obtain⟨p,aB,o5⟩:=List.mem_map.1 this;rw[<-o5];exact yg bT.int (ax.small p aB)
 have dQ:=K.check w false ia;have iv:(getObj b).run P w= .ok (.map cv dS) w:=by simp[getObj,Sem.run,aw]
 have h4:∀o':Obj,(setObj b o').run P w= .ok () (w.putObj b o'):=λo'=>by simp[setObj,Sem.run,aw,World.putObj]
 have cO:b<w.heap.size:=(Array.getElem?_eq_some_iff.1 aw).1;have fin:∀(iw:Array MapEntry) (l6:Nat),iw.toList.map (·.key)=(fg l k u').map (λp=>Value.int .i64 p.1)->bZ I w ((fg l k u').map (·.2)) (iw.toList.map (·.val))->
   (execOp a.eval o).run P w= .ok .skip (w.putObj b (.map iw l6))->cM P r o a w (λv w'=>∃aQ,ck B aQ w'/\Ext B I w aQ w'/\br B aQ w' H') (λ_ _=>False):=by
  intro iw l6 ab ae dW;have Ob:fb I w I (w.putObj b (.map iw l6)):=qJ (B:=B) cu;refine cM.vl o7 dW ⟨I,hw.putObj cu,Ext.putObj bE cu,?_⟩;refine az.gH hu Ob (λdk _ bq=>World.putObj_heap_other (λe=>bq (by rw[e];rfl))) (λ_ _ x=>.inl x) ⟨bE,⟨iw,l6,World.putObj_heap_same cO,?_,?_⟩,cu⟩ (λ_ aw=>.inl aw)
  ·rw[ab,List.map_map];rfl
  ·rw[List.map_map];exact ae.bQ Ob
 have DA:cv.toList.map (·.key)=l.map λp=>Value.int .i64 p.1:=by rw[ka,List.map_map];rfl
 have HN:bZ I w (l.map (·.2)) (cv.toList.map (·.val)):=by rw[List.map_map] at p3;exact p3
 rcases K.find w ia cv.toList fe with⟨aP,bq⟩ | ⟨j,e,aP,aU,kW⟩
 ·have om:∀p∈l,p.1≠k:=λp aB e=>by
   have:(Value.int .i64 p.1)∈cv.toList.map (·.key):=by rw[DA];exact List.mem_map.2 ⟨p,aB,rfl⟩
   obtain⟨e',cc,m3⟩:=List.mem_map.1 this;exact bq e' cc (by rw[m3,e])
  refine fin (cv.push {key:=.int .i64 k,val:=a.eval z,born:=dS}) (dS+1) ?_ ?_ ?_
  ·rw[HK l k u' om];simp[DA]
  ·rw[HK l k u' om];simp only[Array.toList_push,List.map_append,List.map_cons,List.map_nil];exact HN.append (.cons _ _ _ _ ik .nil)
  ·rcases h with h | h <;> simp[execOp,h,Instr.mapUpdate,run_underlying bT.h,hM,gw,iv,dQ,aP,h4]
 ·have uc:cv[j]? =some e:=by simpa using aU
  have Aj:=K.stays w ia;obtain⟨HO,gQ,m4⟩:=x4 HN (i:=j) (v:=e.val) (by rw[List.getElem?_map,aU];rfl);have AI:l[j]? =some (k,HO):=by
   rw[List.getElem?_map] at gQ;cases aB:l[j]? with
   | none=>rw[aB] at gQ;cases gQ
   | some p=>
    rw[aB] at gQ;have ae:(l.map λp=>Value.int .i64 p.1)[j]? =some e.key:=by rw[<-DA,List.getElem?_map,aU];rfl
    rw[List.getElem?_map,aB] at ae;simp at gQ ae;rw[kW] at ae;simp at ae;rw[show p=(k,HO) from Prod.ext ae gQ]
  have Oc:=(Dz l k u' j HO ax.nodup AI).1;have Od:(cv.modify j λe=>{e with key:=.int .i64 k,val:=a.eval z}).toList=cv.toList.set j {e with key:=.int .i64 k,val:=a.eval z}:=by
   apply List.ext_getElem?;intro i;rw[Array.getElem?_toList,Array.getElem?_modify,List.getElem?_set];by_cases l7:j=i
   ·subst l7;rw[if_pos rfl,if_pos rfl,uc,if_pos (by have:=(List.getElem?_eq_some_iff.1 aU).1;exact this)];rfl
   ·rw[if_neg l7,if_neg l7];simp
  refine fin (cv.modify j λe=>{e with key:=.int .i64 k,val:=a.eval z}) dS ?_ ?_ ?_
  ·rw[Od,Oc,List.map_set,List.map_set,DA]
  ·rw[Od,Oc,List.map_set,List.map_set];exact Oa HN ik
  ·rcases h with h | h <;> simp[execOp,h,Instr.mapUpdate,run_underlying bT.h,hM,gw,iv,dQ,aP,h4,uc,kW,Aj]
end
section
variable{c:Ctx}{r:Option Nat}{P:Program}{ops:Array Oper}{l rest:List Oper}{env:List (Nat×aa)}{H:List aj}{Q:Exit->Act->World->Prop}{d:Nat}{o:Oper}
theorem au.jE{t:TypeId}{x dN z:Operand}{b:Nat}{ke:Nat×Nat}{l:List (Int×aa)}{k:Int}{u u':aa}{g1 g2 g3:Bool}{H':List aj}[bT:rN P t ke](cU:o.guard=none)(aN:o.dst=none)(h:o.op= .mapUpdate t x dN z\/o.op= .insert t x dN z)
  (ag:bf (aX env) x=some (g1,.val (.map (some b)))) (dB:g1=true) (ao:bf (aX env) dN=some (g2,.i k)) (dY:g2=true) (an:bf (aX env) z=some (g3,u)) (sP:g3=true) (hle:aL u u')
  (hu:bu H (eu b l) (eu b (fg l k u')) H') (ax:lK l) (eY:gL k) (next:au c r P ops rest ⟨env,H'⟩ Q):au c r P ops (o::rest) ⟨env,H⟩ Q:=by
 intro a w s;refine wpListIn_plain cU λK ca=>?_;obtain⟨I,hw,he,az,aC⟩:=s.mem;refine (XP h ag dB ao dY an sP hle hu ax eY) c.B I w r a hw az (aC.ops o) K Q ?_ (λ_ _ h=>h.elim);rintro v w' ⟨aQ,cI,a2,a3⟩;refine ca _ _ ?_;rw[aN];exact next _ _ ⟨s.ds,s.size,aQ,cI,he.trans a2,a3,aC.bQ a2.keeps⟩
end
section
variable{P:Program}{H:List aj}{ρ:Nat->Option aa}{o:Oper}{X:jP}
theorem et.own{h8:aa}{s z:Operand}{t tx e k dA cJ:Nat}{els news:List (List aa)}{v:Value}{y:aa}{g1 g2:Bool}{H':Value->List aj}{x:Value->aa}[cy:hv P t (e,k,dA)][je:ft P tx cJ]
  (h:o.op= .call {callee:=.builtin .append,args:=#[s,z],argTypes:=#[t,tx]}) (aH:bf ρ s=some (g1,h8)) (dB:g1=true) (sD:aL h8 (.as (.aF k els) v)) (an:bf ρ z=some (g2,y)) (dY:g2=true) (hy:aL y (.aF k news))
  (ab:news.all eG=true) (aw:(els.length+news.length)*dA<=140737488355328) (gr:els.length+news.length<=9223372036854775807) (hu:∀dr,bu H (.own e k v) (.own e k dr) (H' dr)) (ag:∀dr,x dr= .as (.aF k (els++news)) dr):et X P H H' x ρ o:=λB I w r a hw az aA=>
 (MU h aH dB sD an dY hy ab hu aw gr hw az aA).mono (λv w' ⟨aQ,cI,a2,a3,a4⟩=>⟨aQ,cI,a2,a3,by rw[ag];exact a4⟩) (λ_ _ h=>h.elim)
theorem et.Ds{t e dA:Nat}{n k:Nat}{bH:Array (Nat×Operand)}{bY:List Value}{ys:List (Bool×aa)}{els:List (List aa)}{H':Value->List aj}{x:Value->aa}[cy:hv P t (e,k,dA)][hR:la P t (k,bY)](h:o.op= .buildSlice t n bH)
  (hy:j2 ρ (bH.toList.map (·.2))=some ys) (al:ys.all (·.1)=true) (vx:(partsOf bH.toList ys).map (λx=>dq x.2)=els) (hlen:Nat.beq els.length n=true) (ao:els.all (λe=>Nat.beq e.length k)=true)
  (eY:Nat.ble (n*k) 16777216=true) (ju:Nat.blt 0 (n*k)=true)
  (aP:nx (λi=>some (i*k,k)) ((l4 n k bY).map .val) (partsOf bH.toList ys)=some els.flatten) (hu:∀dr,H' dr= .own e k dr::H) (ag:∀dr,x dr= .as (.aF k els) dr):et X P H H' x ρ o:=λB I w r a hw az aA=>
 (NU h hy al vx hlen ao eY ju aP hw az aA).mono (λv w' ⟨aQ,cI,a2,a3,a4⟩=>⟨aQ,cI,a2,by rw[hu];exact a3,by rw[ag];exact a4⟩) (λ_ _ h=>h.elim)
theorem af.XQ{env:List (Nat×aa)}(d:Nat){u u' z:aa}(aN:aX env d=some u)(hle:aL u u')(h:af P H (aX ((d,u')::env)) o z):af P H (aX env) o z:=λB I w r a eo hw az aH aA=>
 h B I w r a eo hw az aH (λx ag y hy=>by
  cases x with
  | tmp t=>
   simp only[kO] at hy;rw[l0] at hy;split at hy
   ·rename_i e;cases hy;subst e;exact hle _ _ _ (aA _ ag _ aN)
   ·exact aA _ ag _ hy
  | _=>exact aA _ ag y hy)
end
theorem bu.XR{H H':List aj}{e e':aj}(h:bu H e e' H'):e=e'->H'=H:=by
 induction h with
 | head e e' H=>intro he;rw[he]
 | tail f a b H H' _ bm=>intro he;rw[bm he]
theorem bu.same{H H':List aj}{e:aj}(h:bu H e e H'):H'=H:=h.XR rfl
section
variable{c:Ctx}{r:Option Nat}{P:Program}{ops:Array Oper}{l rest:List Oper}{env:List (Nat×aa)}{H:List aj}{Q:Exit->Act->World->Prop}{d:Nat}{o:Oper}
theorem au.Oe{s z:Operand}{t e k dA n:Nat}{cs:List aa}(news:List (List aa)){v:Value}{y:aa}{g1 g2:Bool}{H':Value->List aj}[cy:hv P t (e,k,dA)](cU:o.guard=none)(aN:o.dst=some d)(hn:Nat.blt d c.n=true)
  (h:o.op= .call {callee:=.builtin .append,args:=#[s,z],argTypes:=#[t,t]}) (aH:bf (aX env) s=some (g1,.val v)) (dB:g1=true) (an:bf (aX env) z=some (g2,y)) (dY:g2=true) (hy:aL y (.aF k news))
  (ab:news.all eG=true) (hu:∀dr,bu H (.row e k v n cs) (.row e k dr (n+news.length) (cs++news.flatten)) (H' dr)) (aw:(n+news.length)*dA<=140737488355328) (gr:n+news.length<=9223372036854775807)
  (next:∀dr,au c r P ops rest ⟨(d,.val dr)::env,H' dr⟩ Q):au c r P ops (o::rest) ⟨env,H⟩ Q:=by
 cases news with
 | cons a r=>exact au.Dh cU aN hn h aH dB an dY hy bj ab hu aw gr next
 | nil=>
  intro a w sat;refine wpListIn_plain cU λK ca=>?_;obtain⟨I,hw,he,az,aC⟩:=sat.mem;obtain⟨i,zv,mY,av,l2,eH,lx,jv,jw⟩:=qB cy.h;have lZ:=ct ((aC.ops o).get ig aH dB);have qF:=hy _ _ _ ((aC.ops o).get ig an dY);obtain⟨us,aS,ee⟩:=zM (P:=P) (tx:=t) mY qF ab;have qD:us= []:=by cases aS;rfl
  subst qD;rw[<-eH] at ee;obtain⟨xs,fx,_,_⟩:=az.ok _ (hu v).mem;obtain⟨cX,m,il,qG,hle⟩:∃cX m il,v= .slice cX m il/\m<=il:=by
   rcases fx.2 with⟨rfl,_⟩ | ⟨g,cap,cur,rfl,_,_,ak,_⟩
   ·exact⟨_,_,_,rfl,Nat.le_refl _⟩
   ·exact⟨_,_,_,rfl,ak⟩
  have aK:=run_append_nothing (P:=P) w t t o.type e i mY av cX m il hle (a.eval z) ee;rw[<-qG, <-lZ] at aK;have b0:H' v=H:=by
   have:=hu v;simp only[List.length_nil,Nat.add_zero,List.flatten_nil,List.append_nil] at this;exact this.same
  refine cM.fN (R:=λx w'=>x=a.eval s/\w'=w) (E:=λ_ _=>False) cB (tT h a w aK) ⟨rfl,rfl⟩ K Q ?_ (λ_ _ h=>h.elim);rintro x w' ⟨rfl,rfl⟩;refine ca _ _ (next v _ _ ⟨zo,zm,I,hw,he,by rw[b0];exact az,?_⟩);rw[lZ];have:=aC.put (dst:=some d) (x:=.val v) (v:=v) (by rw[sat.size];exact hn) (.val _);rw[aN];exact this
end
section
variable{c:Ctx}{r:Option Nat}{P:Program}{ops:Array Oper}{l rest:List Oper}{o:Oper}{st:dn}{Q:Exit->Act->World->Prop}{x:aa}
end
section
variable{c:Ctx}{r:Option Nat}{P:Program}{ops:Array Oper}{rest:List Oper}{o:Oper}{env:List (Nat×aa)}{H:List aj}{Q:Exit->Act->World->Prop}{d:Nat}
end
end Go.Eng

