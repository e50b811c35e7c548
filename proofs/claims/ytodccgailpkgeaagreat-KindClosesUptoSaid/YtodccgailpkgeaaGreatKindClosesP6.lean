/- A part of the proof. No condition. -/
import Derived.Test.YtodccgailpkgeaaGreatKindClosesP5
import Derived.Deep.AppendSrc
import Derived.Laws.CopyRow
set_option linter.defProp false
set_option maxHeartbeats 1000000
set_option linter.unusedVariables false
set_option linter.unusedSimpArgs false
namespace Go.Eng
open Go.RowKit (Below)
def ef(f:FuncId)(c:Ctx)(r:Option Nat)(P:Program)(code:Code)(st:dT)(Q:Exit->Act->World->Prop):Prop:=∀a w,Sat c st a w->mb f (bx r) 0 P code Q a w
section
variable{f:FuncId}{c:Ctx}{r:Option Nat}{P:Program}{st:dT}{Q:Exit->Act->World->Prop}
def aA.mM{g}(h:aA c r P g st Q):ef f c r P g st Q:=λa w s=>.of (h a w s)
def ef.seq{p q}(h:ef f c r P p st (Exit.then (mb f (bx r) 0 P q Q) Q)):ef f c r P (.seq p q) st Q:=λa w s=>.seq (h a w s)
def ef.block{id}{p}(h:ef f c r P p st (Exit.inBlock id Q)):ef f c r P (.block id p) st Q:=λa w s=>.block (h a w s)
def ef.done{q}(h:ef f c r P q st Q):aZ c st .normal (Exit.then (mb f (bx r) 0 P q Q) Q):=λa w s=>h a w s
def bP.MR{fn}{a}{xs}{H}{c}{E}{n}(b7:P.funcs[f]? =some fn)(ba:fn.body=some a)(rO:(fn.name== "runtime.NumGoroutine")=false)
  (hn:fn.ntmps=n) (q:Nat.ble xs.length n) (h:∀B I w,ef f ⟨B,I,w,n,[]⟩ none P a ⟨np 0 xs,H⟩ (bodyPostM (bx none) 0 P fn (e5 B I w c E))):bP P f xs H c E:=by
 refine⟨uq,λB I w g r o j=>uy (n:=0) (WU b7 ba trivial ?_ rfl)⟩;refine h B I w _ w ⟨rfl,?_,I,r,Ext.refl _ _ _,o,λt y hy=>?_⟩
 ·have:=j.length;have:=Nat.le_of_ble_eq_true q;simp;omega
 ·obtain⟨v,l,m⟩:=j.get yn;have:(g.toArray++Array.replicate (fn.ntmps - g.toArray.size) undef).getD t undef=v:=by
   have k5:=(List.getElem?_eq_some_iff.1 l).1;simp only[Array.getD_eq_getD_getElem?];rw[Array.getElem?_append_left wy];simp[l]
  rw[this];exact m
def w6{α:Type}(B:Nat)(P:Program)(g:ab)(bM bJ:α->ab)(L:List α)(h4:Bool)(J:List α->aC->Prop)(jv:ab->aC->Prop):Prop:=
 ∀pre x H Hx,pre++[x]<+:L->J pre H->eZ B P g [bM x,bJ x] (H++Hx) (λy H'=>∃H1,y= .b true/\H'=H1++Hx/\(pre++[x]=L->h4=false)/\J (pre++[x]) H1) (λy H'=>∃H1,H'=H1++Hx/\pre++[x]=L/\h4=true/\jv y H1)
def Gx{α:Type}(B:Nat)(P:Program)(r1:ab)(bM bJ:α->ab)(L:List α)(h4:Bool)(Hs:aC)(n8:aC->Prop):Prop:=
 ∀(J:List α->aC->Prop) (jv:ab->aC->Prop) (g:Fn) (cA cs:bl),(∀y H,jv y H->∃v,y.Const v)->w6 B P (.fn g cA cs) bM bJ L h4 J jv->∀H Hx,J [] H->
  eZ B P r1 [.fn g cA cs] (H++(Hs++Hx)) (λ_ H'=>h4=false/\∃H1 oe,H'=H1++(oe++Hx)/\n8 oe/\J L H1)
   (λy H'=>h4=true/\∃H1 oe,H'=H1++(oe++Hx)/\jv y H1)
def Gy{α:Type}(B:Nat)(c9:cr)(bN:World)(l D:Nat)(fD:Loop)(ρ:Nat->Option ab)(L:List α)(h4:Bool)(J:List α->aC->Prop)(jv:ab->aC->Prop)(pre:List α)(Hx:aC):Exit->Act->World->Prop:=λe a w=>
 ∃I H,bY B I w/\Ext B c9 bN I w/\a7 B I w (.loop l fD ρ::.obj D (.deferred (some []))::(H++Hx))/\
  match e with
  | .normal=>(pre=L->h4=false)/\J pre H
  | .panic ch=>a.defers= []/\pre=L/\h4=true/\∃v y,ch= [{v:=v,recovered:=false}]/\Rel I w y v/\jv y H
  | _=>False
end
section
variable{f0:FuncId}{W4:Func}{P:Program}{c:Ctx}{r:Option Nat}{st:dT}{Q:Exit->Act->World->Prop}
def ef.MS{α}{t p q}{assign body}{f}{wC}(W5:P.funcs[f0]? =some W4)(bM bJ:α->ab)(L:List α)(h4)(J:List α->aC->Prop)(jv)(H Hs Hx)(n8)(ti:α->List (Nat×ab))
  (bK:r=none) (iV:st.H=H++(Hs++Hx)) (av:aE st.env t=some (.fn (.func f) [] wC)) (bV:Nat.blt p c.n) (cj:Nat.blt q c.n) (FE:Gx c.B P (.fn (.func f) [] wC) bM bJ L h4 Hs n8) (eF:J [] H) (W6:∀y H,jv y H->∃v,y.Const v)
  (FF:∀(l:Nat) (I:cr) (w:World) (x:α) (eG:aC),aA ⟨c.B,I,w,c.n,[]⟩ (some l) P assign ⟨(q,bJ x)::(p,bM x)::st.env,eG⟩ (Exit.then (λa w'=>∃st',st'=(⟨ti x,eG⟩:dT)/\Sat ⟨c.B,I,w,c.n,[]⟩ st' a w') (λ_ _ _=>False)))
  (round:∀(l D:Nat) (fD:Loop) (pre:List α) (x:α) (H1 eG:aC) (I:cr) (w:World),pre++[x]<+:L->J pre H1->
   aA ⟨c.B,I,w,c.n,[]⟩ (some l) P body ⟨ti x,.loop l fD (aE st.env)::.obj D (.deferred (some []))::(H1++eG)⟩ (Gy c.B I w l D fD (aE st.env) L h4 J jv (pre++[x]) eG))
  (done:∀(D:Nat) (H1 oe:aC),h4=false->n8 oe->J L H1->aZ ⟨c.B,c.c9,c.bN,c.n,{target:=.collected D,args:=#[]}::c.ds⟩ ⟨st.env,.obj D (.deferred (some []))::(H1++(oe++Hx))⟩ .normal Q)
  (oZ:∀(D:Nat) (y:ab) (H1 oe:aC),h4=true->jv y H1->∀(I:cr) (v:Value) (a:Act) (w:World),Sat ⟨c.B,c.c9,c.bN,c.n,{target:=.collected D,args:=#[]}::c.ds⟩ ⟨st.env,.obj D (.deferred (some []))::(H1++(oe++Hx))⟩ a w->Rel I w y v->Q (.panic [{v:=v,recovered:=false}]) a w):
  ef f0 c r P (.rangeFunc (.tmp t) #[p,q] assign body) st Q:=by
 intro a w s;subst bK;obtain⟨I,hw,he,aW,bd⟩:=s.mem;rw[iV] at aW;refine mb.rangeFunc ?_;obtain⟨dZ,kH⟩:∃dZ:Loop,dZ={state:=.ready,pending:=none,fn:=f0,tmps:=a.tmps,params:=#[p,q],assign,body,defers:=w.heap.size}:=⟨_,rfl⟩;have yL:=bd t _ av;generalize hu:a.tmps.getD t undef=u at yL;cases yL with
 | fn _ _ _ jI hs b7 a1=>
 have FG:jI= #[]:=by cases jI with | mk l=>cases b7;rfl
 subst FG;have FH:=aW.newObj hw (.deferred (some []));have uK:=hw.alloc (.deferred (some []));have kb:=bd.bw (lY hw (.deferred (some [])));have yM:=FH.L1 uK dZ (aE st.env) (by rw[kH];exact kb);have FI:=uK.alloc (.loop dZ);rw[World.size_alloc] at yM;have cx:Ext c.B I w I ((w.alloc (.deferred (some []))).alloc (.loop dZ)):=(jJ hw _).trans (jJ uK _)
 let uL:List α->aC->Prop:=λpre jL=>∃H1,J pre H1/\jL= .loop (w.heap.size+1) dZ (aE st.env)::.obj w.heap.size (.deferred (some []))::H1
 let MT:ab->aC->Prop:=λy jL=>∃H1,jv y H1/\jL= .loop (w.heap.size+1) {dZ with state:=.busy} (aE st.env)::.obj w.heap.size (.deferred (some []))::H1
 have r2:a.tmps.size=c.n:=s.size;have FJ:p<c.n:=Nat.lt_of_succ_le (by simpa [Nat.blt] using bV);have W7:q<c.n:=Nat.lt_of_succ_le (by simpa [Nat.blt] using cj);have yN:w6 c.B P (.fn (.yield (w.heap.size+1)) [] []) bM bJ L h4 uL MT:=by
  rintro pre x jL eG wI ⟨H1,kE,rfl⟩ nv W v vs FK yO FL mI;obtain rfl:v= .func (.yield (w.heap.size+1)) #[] #[]:=by
   cases FL with
   | fn _ _ _ jI hs b7 a1=>
    cases jI with
    | mk n7=>cases hs with
     | mk lc=>cases b7;cases a1;rfl
  cases mI with
  | cons _ v1 _ VJ yl ht=>
  cases ht with
  | cons _ v2 _ ak2 Gp ht=>
  cases ht;obtain⟨VK,yP,uM,VL⟩:=yO.ok (.loop (w.heap.size+1) dZ (aE st.env)) aT;have hy:=run_yield (P:=P) (args:=#[v1,v2]) yP (by rw[kH];rfl);refine .inr ⟨_,rfl,f0,(a.tmps.setIfInBounds p v1).setIfInBounds q v2,assign,body,?_,?_⟩
  ·rw[kH] at hy;simpa using hy
  ·refine WW (F:=bx none) trivial W5 ?_;have FM:a7 c.B nv W (.loop (w.heap.size+1) dZ (aE st.env)::.obj w.heap.size (.deferred (some []))::(H1++eG)):=by
    simpa [List.append_assoc] using yO
   have kc:Sat ⟨c.B,nv,W,c.n,[]⟩ ⟨(q,bJ x)::(p,bM x)::st.env,.loop (w.heap.size+1) dZ (aE st.env)::.obj w.heap.size (.deferred (some []))::(H1++eG)⟩ {tmps:=(a.tmps.setIfInBounds p v1).setIfInBounds q v2,defers:=[]} W:=by
    refine⟨rfl,by simpa using r2,nv,FK,Ext.refl _ _ _,FM,?_⟩;refine FC (a:={tmps:=a.tmps.setIfInBounds p v1,defers:=[]}) (FC (a:=a) (λt y FN=>?_) (by rw[r2];exact FJ) yl []) (by simp[Array.size_setIfInBounds];rw[r2];exact W7) Gp [];have:=uM t y FN;rw[kH] at this;exact this
   refine wpIn_mono (FF (w.heap.size+1) nv W x _ _ W kc) λe a3 uN l3=>?_;cases e with
   | normal=>
    obtain⟨st',rfl,r3⟩:=l3;obtain⟨uO,FO,FP,yQ,wJ⟩:=r3.mem;obtain⟨FQ,FR,_,yR⟩:=yQ.ok _ (.head _);refine⟨_,run_beginRound FR (by rw[kH]),?_⟩;have FT:=yQ.uI (lp':={dZ with state:=.busy}) (.head _ _ _) rfl;have yS:Ext c.B uO uN uO (uN.putObj (w.heap.size+1) (.loop {dZ with state:=.busy})):=.putObj FQ yR;have yT:Sat ⟨c.B,nv,W,c.n,[]⟩ ⟨ti x,.loop (w.heap.size+1) {dZ with state:=.busy} (aE st.env)::.obj w.heap.size (.deferred (some []))::(H1++eG)⟩ a3 (uN.putObj (w.heap.size+1) (.loop {dZ with state:=.busy})):=
     ⟨r3.ds,r3.size,uO,FO.putObj yR,FP.trans yS,FT,wJ.bw yS.keeps⟩
    refine wpIn_mono (round _ _ _ pre x H1 eG nv W wI kE a3 _ yT) λe a5 B8 FU=>?_;obtain⟨B9,r4,Ca,Cb,wK,nw⟩:=FU;obtain⟨FV,FW,_,yU⟩:=wK.ok _ (.head _);cases e with
    | normal=>
     have dc:=run_endRound (P:=P) none FW;refine⟨_,_,dc,?_⟩;have o1:=wK.uI (lp':={dZ with state:=.ready,pending:=none}) (.head _ _ _) rfl;refine⟨B9,(.loop (w.heap.size+1) dZ (aE st.env)::.obj w.heap.size (.deferred (some []))::r4)++eG,Ca.putObj yU,Cb.trans (.putObj FV yU),?_,.inl ⟨_,.b true,rfl,.val _,_,rfl,rfl,nw.1,r4,nw.2,rfl⟩⟩;have W8:dZ={dZ with state:=.ready,pending:=none}:=by rw[kH]
     rw[W8];simpa [List.append_assoc] using o1
    | panic ch=>
     obtain⟨a6,l5,uU,v,y,rfl,B4,Gz⟩:=nw;refine⟨a6,B9,(.loop (w.heap.size+1) {dZ with state:=.busy} (aE st.env)::.obj w.heap.size (.deferred (some []))::r4)++eG,Ca,Cb,?_,.inr ⟨v,y,rfl,B4,_,rfl,l5,uU,r4,Gz,rfl⟩⟩;simpa [List.append_assoc] using wK
    | ret=>exact nw.elim
    | exit id=>exact nw.elim
    | goto t=>exact nw.elim
    | outgrown=>exact nw.elim
   | exit id=>exact l3.elim
   | goto t=>exact l3.elim
   | ret=>exact l3.elim
   | panic ch=>exact l3.elim
   | outgrown=>exact l3.elim
 have n5:=FE uL MT _ _ _ (λy jL ⟨H1,h,_⟩=>W6 y H1 h) yN _ Hx ⟨H,eF,rfl⟩ I _ (.func (.func f) #[] hs) [.func (.yield (w.heap.size+1)) #[] #[]] FI (by simpa using yM) (.fn _ _ _ _ _ .nil (a1.bw cx.keeps)) (.cons _ _ _ _ (.fn _ _ _ _ _ .nil .nil) .nil);rcases n5 with⟨f',vf',vc',bM,hO,hcalls⟩ | ⟨l,bM,_⟩
 ·simp[Value.func.injEq,Fn.func.injEq] at bM;obtain⟨rfl,rfl,rfl⟩:=bM;refine⟨w.heap.size+1,[{target:=.collected w.heap.size,args:=#[]}],(w.alloc (.deferred (some []))).alloc (.loop dZ),{target:=.fn (.func f) hs,args:=#[.func (.yield (w.heap.size+1)) #[] #[]]},(w.alloc (.deferred (some []))).alloc (.loop dZ),f,
   #[.func (.yield (w.heap.size+1)) #[] #[]]++hs,(w.alloc (.deferred (some []))).alloc (.loop dZ),?_,?_,λ_ _=>trivial,?_,by simp[bx],?_⟩
  ·rw[kH];exact run_enterLoop_outer f0 a.tmps #[p,q] assign body
  ·have wL:a.eval (.tmp t)= .func (.func f) #[] hs:=hu;simp[resolve,rangeCall,wL];simp[Deferred.ofValue,Act.eval]
  ·simp[invoke,wE hO]
  ·have fm:(#[]++[.func (Fn.yield (w.heap.size+1)) #[] #[]].toArray++hs)= #[.func (Fn.yield (w.heap.size+1)) #[] #[]]++hs:=by simp
   rw[fm] at hcalls;refine Ff (hcalls.mono λe W hR=>?_);obtain⟨o2,VM,yV,r5,o1,l4⟩:=hR;rcases l4 with l4 | l4
   ·obtain⟨v,y,rfl,_,l4⟩:=l4;obtain⟨uU,W9,oe,rfl,Xa,H1,FX,rfl⟩:=l4;obtain⟨yW,yX,_,tj⟩:=o1.ok _ (.head _);have yY:dZ.pending=none:=by rw[kH]
    have yZ:=run_endLoop (P:=P) yX (by rw[kH];simp);rw[yY] at yZ;refine⟨none,_,yZ,?_⟩;have uP:=(o1.uI (lp':={dZ with state:=.exhausted}) (.head _ _ _) rfl).tail;have qJ:Ext c.B o2 W o2 (W.putObj (w.heap.size+1) (.loop {dZ with state:=.exhausted})):=.putObj yW tj;rw[yY] at qJ uP;refine done w.heap.size H1 oe uU Xa FX _ _ ⟨?_,s.size,o2,yV.putObj tj,(he.trans (cx.trans r5)).trans qJ,uP,(bd.bw (cx.trans r5).keeps).bw qJ.keeps⟩;show _::a.defers=_;rw[s.ds]
   ·obtain⟨v,y,rfl,hy,uU,W9,oe,rfl,H1,Gz,rfl⟩:=l4;refine oZ w.heap.size y H1 oe uU Gz o2 v _ _ ⟨?_,s.size,o2,yV,he.trans (cx.trans r5),o1.tail,bd.bw (cx.trans r5).keeps⟩ hy;show _::a.defers=_;rw[s.ds]
 ·simp at bM
end
def GA(P:Program)(t:TypeId)(name:String):Option FuncId:=
 match P.info? t with
 | some i=>match i.methods.find? (·.name==name) with
  | some m=>match m.path.toList,m.func,P.underlying t with
   | [],some (f,true),some (.pointer _)=>some f
   | [],some (f,false),some (.pointer _)=>none
   | [],some (f,false),some _=>some f
   | _,_,_=>none
  | none=>none
 | none=>none
section
variable{P:Program}{o:Oper}{ρ:Nat->Option ab}
def Xb{t}{g}{f}(h:GA P t g=some f)(v)(w)(j):(method (j+1) t v g).run P w= .ok (f,v) w:=by
 unfold GA at h;split at h
 ·rename_i i r;split at h
  ·rename_i m q;split at h
   ·rename_i s e a c o;cases h;simp[method,typeInfo,r,q,a,follow,c,receiverAt,run_underlying o,Place.get]
   ·cases h
   ·rename_i s d l a c o;cases h;cases d <;> first | (exact absurd rfl (l _)) | simp[method,typeInfo,r,q,a,follow,c,receiverAt,run_underlying o,Place.get]
   ·cases h
  ·cases h
 ·cases h
def gG.inv{x}{c}{args}{s}{t}{y}{f}{ys}{g}(h:o.op= .call {callee:=.invoke x c,args:=args,argTypes:=s})
  (r:aO ρ x=some (g,.iface t y)) (J:g=true) (hm:GA P t c=some f) (G:js ρ args.toList=some ys) (l:ys.all (·.1)=true):gG P ρ o f (y::ys.map (·.2)):=by
 refine⟨λI w a m=>?_,ck⟩;have q:=m.get gF r J;have z:=td m args.toList ys (λz C=>by simp[h,Op.operands,Call.operands];right;simpa using C) G (by simpa using l);generalize H:a.eval x=u at q;cases q with
 | iface _ _ v E=>
  refine⟨v::args.toList.map a.eval,.cons _ _ _ _ E z,λhO=>?_⟩;have j:=Xb (P:=P) hm v w (P.types.size+Made.depth - 1);have I:P.types.size+Made.depth - 1+1=P.types.size+Made.depth:=by simp[Made.depth]
  rw[I] at j;have D:(v::args.toList.map a.eval).toArray= #[v]++args.map a.eval:=by apply Array.ext';simp
  simp only[D];have F:(#[Value.iface t v]++args.map a.eval).extract 1 (#[Value.iface t v]++args.map a.eval).size=args.map a.eval:=by apply Array.ext';simp;rw[List.take_of_length_le];simp
  have A:(#[Value.iface t v]++args.map a.eval)[0]? =some (Value.iface t v):=by rw[Array.getElem?_append_left (Nat.zero_lt_one)];rfl
  simp only[execOp,h,resolve,H,Sem.run_bind,Sem.run_pure,Result.andThen_ok,invoke,A,F,callMethod,run_program,j,wE hO]
end
section
variable{P:Program}{H:aC}{ρ:Nat->Option ab}{o:Oper}
def ad.GB{t}{x y z}{k}{els}{B G J}{ky kz}[ht:eE P t k](h:o.op= .slice t x none (some y) (some z))(M:aO ρ x=some (B,.aj k els))(m:B=true)
  (hy:aO ρ y=some (G,.val (.int ky (els.length:Int)))) (q:G=true) (aD:aO ρ z=some (J,.val (.int kz (els.length:Int)))) (s:J=true):ad P H ρ o (.aj k els):=by
 refine .same ck λI w a l=>?_;have F:=l.get cd M m;have fF:=bZ (l.get cd hy q);have fc:=bZ (l.get cd aD s);obtain⟨e,inf,v,r,N⟩:=nY ht.h;generalize K:a.eval x=u at F;have run:∀(g:Option Addr) (n c:Nat),n=els.length->n<=c->(Instr.sliceAt t (.slice g n c) none (some (.int ky (els.length:Int))) (some (.int kz (els.length:Int)))).run P w= .ok (.slice (if n=0 then g else g.map (·.add (0*k))) n n) w:=by
  intro g n c T j;subst T;have U:(0:Int)<=(els.length:Int):=Int.natCast_nonneg _;simp[Instr.sliceAt,Instr.slice,run_underlying v,Instr.sliceBounds,Instr.sliceBound,asIntOf,sizeOf,typeInfo,r,N,j]
 cases F with
 | aj _ _ b off len c E j L S=>
  refine⟨.slice (some ⟨b,off,none⟩) len len,?_,.aj _ _ _ _ _ _ E (Nat.le_refl _) (Nat.le_trans j L) S⟩;have:=run (some ⟨b,off,none⟩) len c E.symm j;have fm:(if len=0 then some (⟨b,off,none⟩:Addr) else (some (⟨b,off,none⟩:Addr)).map (·.add (0*k)))=some ⟨b,off,none⟩:=by split <;> simp[Addr.add]
  rw[fm] at this;simp[execOp,h,K,fF,fc,this]
 | dQ _ g c=>
  have:=run g 0 c rfl (Nat.zero_le _);refine⟨.slice g 0 0,?_,.dQ _ _ _⟩;rw[if_pos rfl] at this;simp only[execOp,h,K,fF,fc,Option.map_none,Option.map_some,Sem.run_bind,this,Result.andThen_ok,Sem.run_pure]
end
section
variable{P:Program}{H:aC}{ρ:Nat->Option ab}{o:Oper}
end
section
variable{c:Ctx}{r:Option Nat}{P:Program}{ops:Array Oper}{l rest:cg}{o:Oper}{env:List (Nat×ab)}{H:aC}{Q:Exit->Act->World->Prop}{d:Nat}
end
section
variable{P:Program}{c:Ctx}{r:Option Nat}{ops:Array Oper}{l rest:cg}{env:List (Nat×ab)}{H:aC}{Q:Exit->Act->World->Prop}{o:Oper}{d:Nat}
def ai.Xc{x y}{t e g}(m n:Nat){v}{B J}{N L:Int}{g1 M:Bool}[X:tr P t (e,g,v)](D:o.guard=none)(a6:o.dst=some d)(hn:Nat.blt d c.n)(h:o.op= .makeSlice t x y)
  (O:aO (aE env) x=some (g1,.val (.int B N))) (l:g1=true) (hy:aO (aE env) y=some (M,.val (.int J L))) (G:M=true) (C:N=(m:Int)) (A:L=(n:Int)) (U:m<=n) (ba:g*n<=281474976710656) (hm:n<=maxLen)
  (next:∀b,ai c r P ops rest ⟨(d,.val (.slice (some ⟨b,0,none⟩) m n))::env,.au b e (List.replicate n (.val v))::H⟩ Q):ai c r P ops (o::rest) ⟨env,H⟩ Q:=by
 subst C;subst A;intro a w s;refine wpListIn_plain D λK Y=>?_;obtain⟨I,j,he,Z,F⟩:=s.mem;obtain⟨i,z,hu,aN,V,S,wk,q⟩:=Gi X.h;have T:a.eval x= .int B (m:Int):=bZ ((F.ops o).get cd O l);have W:a.eval y= .int J (n:Int):=bZ ((F.ops o).get cd hy G);have f:=run_make (P:=P) w t e i z hu aN V B J (m:Int) (n:Int) aa aa E0 (by simp[maxLen] at hm;omega);rw[q,S,Nat.mul_one,Int.toNat_natCast,Int.toNat_natCast,Gj] at f;refine dw.e4 (R:=λu w'=>u= .slice (some ⟨w.heap.size,0,none⟩) m n/\w'=w.alloc (.cells (List.replicate n v).toArray e)) (E:=λ_ _=>False) ck (v:=.slice (some ⟨w.heap.size,0,none⟩) m n) (w':=w.alloc (.cells (List.replicate n v).toArray e)) (by simp[execOp,h,T,W,f]) ⟨rfl,rfl⟩ K Q ?_ (λ_ _ h=>h.elim);rintro u w' ⟨rfl,rfl⟩;have ae:bU I w (List.replicate n (.val v)) (List.replicate n v):=by have:=lA (I:=I) (w:=w) (List.replicate n v);rwa [List.map_replicate] at this
 refine Y _ _ (next w.heap.size _ _ ⟨iS,iR,I,j.alloc _,he.trans (jJ j _),Z.new j e _ _ nf,?_⟩);rw[a6];exact (F.bw (lY j _)).put (dst:=some d) oR (.val _)
def ai.Xd{s z}{t tx e k a2 gW b off j A tb}{cs}{news}{y}{g1 g2:Bool}{H'}[df:fi P t (e,k,a2)][ka:eE P tx gW](a3:o.guard=none)(a6:o.dst=some d)(hn:Nat.blt d c.n)
  (h:o.op= .call {callee:=.builtin .append,args:=#[s,z],argTypes:=#[t,tx]}) (b4:aO (aE env) s=some (g1,.val (.slice (some ⟨b,off,none⟩) j A))) (W:g1=true) (aD:aO (aE env) z=some (g2,y)) (Y:g2=true) (hy:aq y (.aj k news))
  (q:j+news.length<=A) (ae:news.all dG=true) (hQ:off+j*k+news.flatten.length<=cs.length)
  (hu:bG H (.au b tb cs) (.au b tb (cs.take (off+j*k)++news.flatten++cs.drop (off+j*k+news.flatten.length))) H')
  (next:ai c r P ops rest ⟨(d,.val (.slice (some ⟨b,off,none⟩) (j+news.length) A))::env,H'⟩ Q):ai c r P ops (o::rest) ⟨env,H⟩ Q:=by
 intro a w sat;refine wpListIn_plain a3 λK eX=>?_;obtain⟨I,hw,he,aW,bd⟩:=sat.mem;have bb:=bd.ops o;obtain⟨i,zv,a4,aN,iy,F,gJ,a9,fw⟩:=oX df.h;obtain⟨e',_,Z,_⟩:=nY ka.h;have X:=bZ (bb.get gF b4 W);obtain⟨us,aB,g⟩:=uF (P:=P) (tx:=tx) Z (hy _ _ _ (bb.get gF aD Y)) ae;rw[<-F] at g;obtain⟨eD,O,m,l,S⟩:=aW.ok _ hu.mem;have a5:O.size=cs.length:=by have:=l.length;simpa using this
 have L:us.length=news.flatten.length:=aB.length;have G:=run_storeCells_at P b (off+j*k) tb us 0 O w m (by rw[L];omega) g.one;simp only[Nat.add_zero,L] at G;generalize N:(O.toList.take (off+j*k)++us++O.toList.drop (off+j*k+news.flatten.length)).toArray=cur at G;have bK:(Builtin.append_ #[t,tx] o.type #[a.eval s,a.eval z]).run P w= .ok (.slice (some ⟨b,off,none⟩) (j+news.length) A) (w.setRow b cur):=by
  have T:=g.cells;rw[F] at T;rw[X];rcases g.kind with⟨bJ,lH⟩ | lH <;> simp[Builtin.append_,run_underlying a4,run_underlying lH,sizeOf,typeInfo,aN,g.len,q,T,Addr.add_lit,F,G]
 have f:er I w I (w.setRow b cur):=⟨λ_ _ x=>x,λdL M U=>by
  have D:dL≠b:=λe=>by subst e;exact S M U
  exact World.cell?_of_block (a:=⟨dL,M,none⟩) (setRow_other w b dL cur D)⟩
 have J:Ext c.B I w I (w.setRow b cur):=⟨f.ix,f.cell,⟨rfl,rfl,rfl,aT,λk bD=>setRow_other w b k cur aa⟩⟩;have bI:bY c.B I (w.setRow b cur):=⟨wv,λdL M U=>by rw[f.cell dL M U];exact hw.there dL M U⟩;have C:bU I w (cs.take (off+j*k)++news.flatten++cs.drop (off+j*k+news.flatten.length)) cur.toList:=by
  rw[<-N];exact ((l.take _).append aB).append (l.drop _)
 have a0:a7 c.B I (w.setRow b cur) H':=by
  refine aW.fE hu f (λk bD D=>setRow_other w b k cur λe=>D wB) (λ_ _ x=>.inl x) ⟨eD,cur,setRow_heap w b O cur tb (0,0) m,C.bw f,S⟩ λk bD=>.inl bD
 refine dw.e4 (R:=λv w'=>v= .slice (some ⟨b,off,none⟩) (j+news.length) A/\w'=w.setRow b cur) (E:=λ_ _=>False) ck (pJ h a w bK) ⟨rfl,rfl⟩ K Q ?_ λ_ _ h=>h.elim;rintro v w' ⟨rfl,rfl⟩;refine eX _ _ (next _ _ ⟨yq,yo,I,bI,he.trans J,a0,?_⟩);have:=(bd.bw f).put (dst:=some d) (x:=.val (.slice (some ⟨b,off,none⟩) (j+news.length) A)) (v:=.slice (some ⟨b,off,none⟩) (j+news.length) A) (by rw[sat.size];exact hn) (.val _);rw[a6];exact this
def ai.oW{st}{d b n cap k}{t}{els}{more}{H'}(f:aE st.env d=some (.val (.slice (some ⟨b,0,none⟩) n cap)))(m:fV st.H (.au b t (els.flatten++more)) H')
  (hn:els.length=n) (j:∀e∈els,e.length=k) (g:n<=cap) (hm:cap<=maxLen) (h:ai c r P ops l ⟨(d,.aj k els)::st.env,H'⟩ Q):ai c r P ops l st Q:=
 λa w s=>h a w (s.oW f m hn j g hm)
end
def e5.imp{B}{l}{j}{g f E h}(q:∀y H,g y H->f y H)(m:∀y H,E y H->h y H):∀e w,e5 B l j g E e w->e5 B l j f h e w:=by
 rintro e w ⟨o,r,a,b,c,d⟩;refine⟨o,r,a,b,c,?_⟩;rcases d with⟨v,x,bM,bJ,e6⟩ | ⟨v,x,bM,bJ,e6⟩
 ·exact .inl ⟨v,x,bM,bJ,q _ _ e6⟩
 ·exact .inr ⟨v,x,bM,bJ,m _ _ e6⟩
def eM.imp{B}{P}{f}{xs}{H}{c a E g}(h:eM B P f xs H c E)(l:∀y H,c y H->a y H)(m:∀y H,E y H->g y H):eM B P f xs H a g:=
 ⟨h.1,λI w q r o j=>(h.2 I w q r o j).mono (e5.imp l m)⟩
def bP.imp{P}{f}{xs}{H}{c a E g}(h:bP P f xs H c E)(l:∀y H,c y H->a y H)(m:∀y H,E y H->g y H):bP P f xs H a g:=
 ⟨h.1,λB I w q r o j=>(h.2 B I w q r o j).mono (e5.imp l m)⟩
section
variable{c:Ctx}{r:Option Nat}{P:Program}{st:dT}{Q:Exit->Act->World->Prop}
def aA.Xe{p q}(h:aA c r P q st Q):aA c r P (.cond (.const (.bool false)) p q) st Q:=λa w s=>by
 have:=h a w s;exact wpIn_cond_false rfl this
end
def aZ.CE{c:Type}{st}{B}{f}{h}{n l D}{g}{ρ}{L:List c}{a}{J:List c->aC->Prop}{o}{pre:List c}{H Hx}{ds}
  (q:(.loop l g ρ::.obj D (.deferred (some []))::(H++Hx)).Sublist st.H) (j:pre=L->a=false) (m:J pre H):aZ ⟨B,f,h,n,ds⟩ st .normal (Gy B f h l D g ρ L a J o pre Hx):=λa w s=>
 let ⟨I,hw,he,aW,_⟩:=s.mem;⟨I,H,hw,he,aW.sub q,j,m⟩
def aZ.zp{c:Type}{st}{B}{f}{j}{n l D}{g}{ρ}{L:List c}{a}{J:List c->aC->Prop}{h}{pre:List c}{H Hx}{y}{v}
  (r:(.loop l g ρ::.obj D (.deferred (some []))::(H++Hx)).Sublist st.H) (hy:y.Const v) (m:pre=L) (q:a=true) (o:h y H):aZ ⟨B,f,j,n,[]⟩ st (.panic [{v:=v,recovered:=false}]) (Gy B f j l D g ρ L a J h pre Hx):=λa w s=>
 let ⟨I,hw,he,aW,_⟩:=s.mem;⟨I,H,hw,he,aW.sub r,s.ds,m,q,v,y,rfl,hy.rel _ _,o⟩
section
variable{P:Program}{H:aC}{ρ:Nat->Option ab}{o:Oper}{G:Type}
def q1(H:aC)(ρ:Nat->Option ab)(o:Oper)(y:Operand)(k tn:Nat)(Xf:bl):Prop:=∀(B:Nat) (I:cr) (w:World) (a:Act),a7 B I w H->fo I w ρ a o->
 ∃b2 fx zq us,a.eval y= .slice (some ⟨b2,fx,none⟩) tn zq/\bU I w Xf us/\us.length=tn*k/\∀j v,us[j]? =some v->w.cell? ⟨b2,fx+j,none⟩=some v
def q1.aj{y}{k}{els}{g}{z}(hm:y∈o.op.operands)(q:aO ρ y=some (g,z))(F:g=true)(f:aq z (.aj k els))(h:els≠ []):q1 H ρ o y k els.length els.flatten:=by
 intro B I w a L s;have m:=f _ _ _ (s.get hm q F);generalize a.eval y=u at m;cases m with
 | dQ _ a K=>exact absurd rfl h
 | aj _ _ b off len c E J r G=>
  subst E;obtain⟨us,aB,fN,rW⟩:=G.values;exact⟨b,off,c,us,rfl,aB,fN,λj v A=>by have:=rW j v A;rwa [Addr.add_lit] at this⟩
def q1.au{y}{k b2 j f m tb}{cs}{g}(hm:y∈o.op.operands)(s:aO ρ y=some (g,.val (.slice (some ⟨b2,j,none⟩) f m)))(C:g=true)(A:.au b2 tb cs∈H)(hfit:j+f*k<=cs.length):
  q1 H ρ o y k f ((cs.drop j).take (f*k)):=by
 intro B I w a z x;have t:=bZ (x.get hm s C);obtain⟨E,q,h,c,D⟩:=z.ok _ A;have F:q.size=cs.length:=by have:=c.length;simpa using this
 refine⟨b2,j,m,(q.toList.drop j).take (f*k),t,(c.drop _).take _,?_,λj v l=>?_⟩
 ·rw[List.length_take,List.length_drop,Array.length_toList];omega
 ·rw[List.getElem?_take] at l;split at l
  ·rw[List.getElem?_drop] at l;rw[jK h];simpa using l
  ·cases l
def MU{l}{n}(h:dG l):dG (l.take n)=true:=List.all_eq_true.2 λx a=>List.all_eq_true.1 h x (List.mem_of_mem_take a)
def MV{x y}{t wN}{k b l zr sf Z m tb}{cs q}{H'}{g1}[ht:eE P t k](h:o.op= .call {callee:=.builtin .copy,args:=#[x,y],argTypes:=#[t,wN]})
  (aK:aO ρ x=some (g1,.val (.slice (some ⟨b,l,none⟩) zr sf))) (T:g1=true) (hy:q1 H ρ o y k Z q) (ae:dG (q.take (m*k))) (hm:min Z zr=m) (hfit:l+m*k<=cs.length)
  (hu:bG H (.au b tb cs) (.au b tb (cs.take l++q.take (m*k)++cs.drop (l+m*k))) H') {B} {I} {w} {r} {a} (hw:bY B I w) (Y:a7 B I w H) (bb:fo I w ρ a o):
  dw P r o a w (λv w'=>bY B I w'/\Ext B I w I w'/\a7 B I w' H'/\Rel I w' (.i m) v) (λ_ _=>False):=by
 have X:=bZ (bb.get gF aK T);obtain⟨b2,fx,zq,N,U,aB,fN,rW⟩:=hy B I w a Y bb;obtain⟨eD,L,s,f,M⟩:=Y.ok _ hu.mem;have a2:L.size=cs.length:=by have:=f.length;simpa using this
 have a3:m*k<=N.length:=by rw[fN];exact Nat.mul_le_mul_right k aa
 have g:(N.take (m*k)).length=m*k:=by rw[List.length_take];omega
 obtain⟨el,i,a0,aN,K⟩:=nY ht.h;have J:=uC (aB.take (m*k)) ae;have b7:=run_firstCells_some (P:=P) w i.size m ⟨b2,fx,none⟩ Z zq (N.take (m*k)) (by rw[K];exact g) (λj v S=>by
  rw[List.getElem?_take] at S;split at S
  ·rw[Addr.add_lit];exact rW j v S
  ·cases S)
 have C:=run_storeCells_at P b l tb (N.take (m*k)) 0 L w s (by rw[g];omega) J;simp only[Nat.add_zero,g] at C;generalize G:(L.toList.take l++N.take (m*k)++L.toList.drop (l+m*k)).toArray=cur at C;have bK:(Builtin.copy_ #[t,wN] o.type #[a.eval x,a.eval y]).run P w= .ok (.int .i64 (m:Nat)) (w.setRow b cur):=by
  rw[X,U];simp[Builtin.copy_,run_underlying a0,sizeOf,typeInfo,aN,Builtin.lenOf,hm,b7,C,goInt]
 have c:er I w I (w.setRow b cur):=⟨λ_ _ x=>x,λdL F O=>by
  have A:dL≠b:=λe=>by subst e;exact M F O
  exact World.cell?_of_block (a:=⟨dL,F,none⟩) (setRow_other w b dL cur A)⟩
 have D:Ext B I w I (w.setRow b cur):=⟨c.ix,c.cell,⟨rfl,rfl,rfl,aT,λk K=>setRow_other w b k cur aa⟩⟩;have W:bY B I (w.setRow b cur):=⟨wv,λdL F O=>by rw[c.cell dL F O];exact hw.there dL F O⟩;have z:bU I w (cs.take l++q.take (m*k)++cs.drop (l+m*k)) cur.toList:=by
  rw[<-G];exact ((f.take _).append (aB.take _)).append (f.drop _)
 have V:a7 B I (w.setRow b cur) H':=by
  refine Y.fE hu c (λk K A=>setRow_other w b k cur (λe=>A wB)) (λ_ _ x=>.inl x) ⟨eD,cur,setRow_heap w b L cur tb (0,0) s,z.bw c,M⟩ (λk K=>.inl K)
 exact dw.e4 (R:=λv w'=>bY B I w'/\Ext B I w I w'/\a7 B I w' H'/\Rel I w' (.i m) v) (E:=λ_ _=>False) ck (v:=.int .i64 (m:Nat)) (w':=w.setRow b cur) (by simp[execOp,h,resolve,invoke,builtin,bK]) ⟨W,D,V,.val _⟩
def ib.copy{x y}{t A}{k b j q J s tb}{cs c}{H':G->Value->aC}{g1}(g:G)(m)[ht:eE P t k](h:o.op= .call {callee:=.builtin .copy,args:=#[x,y],argTypes:=#[t,A]})
  (z:aO ρ x=some (g1,.val (.slice (some ⟨b,j,none⟩) q J))) (l:g1=true) (hy:q1 H ρ o y k s c) (F:dG c) (hm:min s q=m) (hfit:j+m*k<=cs.length)
  (hu:∀v,bG H (.au b tb cs) (.au b tb (cs.take j++c.take (m*k)++cs.drop (j+m*k))) (H' g v)):ib P H H' ρ o (.i m):=λB I w r a E C B=>
 (MV h z l hy (MU F) hm hfit (hu (.int .i64 m)) E C B).mono (λv L ⟨D,a2,a3,a4⟩=>⟨I,g,D,a2,(by have e:=bZ a4;rw[e];exact a3),a4⟩) λ_ _ h=>h
section
variable{c:Ctx}{r:Option Nat}{ops:Array Oper}{l rest:cg}{env:List (Nat×ab)}{Q:Exit->Act->World->Prop}{d:Nat}
def ai.Xg{x y}{t G}{k b j s R z tb}{cs f}{H'}{g1}(m)[ht:eE P t k](q:o.guard=none)(N:o.dst=some d)(hn:Nat.blt d c.n)(h:o.op= .call {callee:=.builtin .copy,args:=#[x,y],argTypes:=#[t,G]})
  (C:aO (aE env) x=some (g1,.val (.slice (some ⟨b,j,none⟩) s R))) (l:g1=true) (hy:q1 H (aE env) o y k z f) (O:dG (f.take (m*k))) (hm:min z s=m) (hfit:j+m*k<=cs.length)
  (hu:bG H (.au b tb cs) (.au b tb (cs.take j++f.take (m*k)++cs.drop (j+m*k))) H') (next:ai c r P ops rest ⟨(d,.i m)::env,H'⟩ Q):ai c r P ops (o::rest) ⟨env,H⟩ Q:=by
 intro a w sat;refine wpListIn_plain q λK J=>?_;obtain⟨I,F,T,L,A⟩:=sat.mem;have:=MV (P:=P) (r:=r) (a:=a) h C l hy O hm hfit hu F L (A.ops o);refine this K Q ?_ λ_ _ h=>h.elim;rintro v U ⟨M,B,E,D⟩;refine J _ _ (next _ _ ⟨yq,yo,I,M,T.trans B,E,?_⟩);have:=(A.bw B.keeps).put (dst:=some d) (by rw[sat.size];exact hn) D;rw[N];exact this
def ai.Xh{x y}{t A}{k b g q B s tb}{cs a}{H'}{g1}(m)[ht:eE P t k](j:o.guard=none)(w:o.dst=some d)(hn:Nat.blt d c.n)(h:o.op= .call {callee:=.builtin .copy,args:=#[x,y],argTypes:=#[t,A]})
  (v:aO (aE env) x=some (g1,.val (.slice (some ⟨b,g,none⟩) q B))) (l:g1=true) (hy:q1 H (aE env) o y k s a) (z:dG a) (hm:min s q=m) (hfit:g+m*k<=cs.length)
  (hu:bG H (.au b tb cs) (.au b tb (cs.take g++a.take (m*k)++cs.drop (g+m*k))) H') (next:ai c r P ops rest ⟨(d,.i m)::env,H'⟩ Q):ai c r P ops (o::rest) ⟨env,H⟩ Q:=.Xg m j w hn h v l hy (MU z) hm hfit hu next
end
end
def GC(P:Program)(t:TypeId):Bool:=match P.underlying t with
 | some (.interface _)=>false
 | some _=>(match P.info? t with | some i=>i.zero.isSome | none=>false)
 | none=>false
class zs (P:Program) (t:Nat):Prop where h:GC P t=true
def GD{P}{t}(h:GC P t):∃d i z,P.underlying t=some d/\(∀l,d≠ .interface l)/\P.info? t=some i/\i.zero=some z:=by
 unfold GC at h;split at h
 ·cases h
 ·rename_i d a c;split at h
  ·rename_i i g;obtain⟨z,f⟩:=Option.isSome_iff_exists.1 h;exact⟨d,i,z,c,λl e=>a l (by rw[<-e]),g,f⟩
  ·cases h
 ·cases h
section
variable{P:Program}{H:aC}{ρ:Nat->Option ab}{o:Oper}
def ad.UN{x}{r t}{y}{g}[A:zs P t](h:o.op= .typeAssert x r t true)(c:aO ρ x=some (g,.iface t y))(s:g=true):ad P H ρ o (.bj [y,.b true]):=by
 obtain⟨d,i,z,B,q,D,C⟩:=GD A.h;refine .same ck λI w f l=>?_;have a:=l.get cd c s;generalize m:f.eval x=u at a;cases a with
 | iface _ _ v j=>
  refine⟨.tuple #[v,.bool true],?_,.bj _ _ (.cons _ _ _ _ j (.cons _ _ _ _ (.val _) .nil))⟩;cases d <;> first | (exact absurd rfl (q _)) | simp[execOp,h,m,Instr.typeAssert,run_underlying B]
def ad.UO{x}{A t c}{y}{g}[E:zs P t](h:o.op= .typeAssert x A t true)(m:aO ρ x=some (g,.iface c y))(C:g=true)(j:Nat.beq c t=false):ad P H ρ o (.bj [.any,.b false]):=by
 obtain⟨d,i,z,F,s,G,B⟩:=GD E.h;have D:c≠t:=λe=>by subst e;simp at j
 refine .same ck λI w f q=>?_;have l:=q.get cd m C;generalize r:f.eval x=u at l;have a:(zeroValue t).run P w= .ok z w:=by simp[zeroValue,typeInfo,G,B]
 cases l with
 | iface _ _ v I=>
  refine⟨.tuple #[z,.bool false],?_,.bj _ _ (.cons _ _ _ _ (.any _) (.cons _ _ _ _ (.val _) .nil))⟩;cases d <;> first | (exact absurd rfl (s _)) | simp[execOp,h,r,Instr.typeAssert,run_underlying F,D,a]
def ad.UP{x}{q t}{g}[v:zs P t](h:o.op= .typeAssert x q t true)(c:aO ρ x=some (g,.val .nilIface))(s:g=true):ad P H ρ o (.bj [.any,.b false]):=by
 obtain⟨d,i,z,A,m,B,r⟩:=GD v.h;refine .same ck λI w f j=>?_;have l:=bZ (j.get cd c s);have a:(zeroValue t).run P w= .ok z w:=by simp[zeroValue,typeInfo,B,r]
 refine⟨.tuple #[z,.bool false],?_,.bj _ _ (.cons _ _ _ _ (.any _) (.cons _ _ _ _ (.val _) .nil))⟩;cases d <;> first | (exact absurd rfl (m _)) | simp[execOp,h,l,Instr.typeAssert,run_underlying A,a]
end
abbrev dV(b:Nat)(l:List (Int×ab)):br:=.map b (l.map λp=>(.int .i64 p.1,p.2))
def fX(k:Int):Prop:=-9223372036854775808<=k/\k<=9223372036854775807
structure lI(l:List (Int×ab)):Prop where
 small:∀p∈l,fX p.1
 nodup:(l.map (·.1)).Nodup
def hA:List (Int×ab)->Int->Option ab
 | [],_=>none
 | p::r,k=>if p.1=k then some p.2 else hA r k
def eQ:List (Int×ab)->Int->ab->List (Int×ab)
 | [],k,v=>[(k,v)]
 | p::r,k,v=>if p.1=k then (k,v)::r else p::eQ r k v
theorem zt:∀(l:List (Int×ab)) (k:Int) (v:ab) (c:Int),hA (eQ l k v) c=if c=k then some v else hA l c
 | [],k,v,c=>by
  simp[eQ,hA];by_cases h:k=c
  ·rw[if_pos h,if_pos h.symm]
  ·rw[if_neg h,if_neg (λe=>h e.symm)]
 | p::r,k,v,c=>by
  by_cases h:p.1=k
  ·simp[eQ,if_pos h,hA];by_cases a:c=k
   ·rw[if_pos a.symm,if_pos a]
   ·rw[if_neg (λe=>a e.symm),if_neg a,if_neg (λe=>a (by rw[<-e,h]))]
  ·simp[eQ,if_neg h,hA,zt r k v c];by_cases a:p.1=c
   ·rw[if_pos a,if_pos a,if_neg (λe=>h (a.trans e))]
   ·rw[if_neg a,if_neg a]
theorem GF:∀(l:List (Int×ab)) (k:Int) (v:ab),(eQ l k v).map (·.1)=if k∈l.map (·.1) then l.map (·.1) else l.map (·.1)++[k]
 | [],k,v=>by simp[eQ]
 | p::r,k,v=>by
  by_cases h:p.1=k
  ·simp[eQ,h]
  ·have c:=GF r k v;simp only[eQ,if_neg h,List.map_cons,c];by_cases a:k∈r.map (·.1)
   ·rw[if_pos a,if_pos (List.mem_cons_of_mem _ a)]
   ·rw[if_neg a,if_neg (by simp only[List.mem_cons,not_or];exact⟨λe=>h e.symm,a⟩)];rfl
def lI.nil:lI []:=⟨λp a=>(by cases a),aT⟩
def lI.put{l}(h:lI l){k}(o:fX k)(v):lI (eQ l k v):=by
 refine⟨λp j=>?_,?_⟩
 ·have a:p.1∈(eQ l k v).map (·.1):=List.mem_map_of_mem j;rw[GF] at a;have c:∀x∈l.map (·.1),fX x:=λx g=>by
   obtain⟨q,m,rfl⟩:=List.mem_map.1 g;exact h.small q m
  split at a
  ·exact c _ a
  ·rcases List.mem_append.1 a with a | a
   ·exact c _ a
   ·simp at a;rw[a];exact o
 ·rw[GF];split
  ·exact h.nodup
  ·rename_i r;refine List.nodup_append.2 ⟨h.nodup,aT,λa s b f=>?_⟩;simp at f;subst f;exact λe=>r (e▸s)
theorem GG:∀(l:List (Int×ab)) (k:Int) (v:ab),(∀p∈l,p.1≠k)->eQ l k v=l++[(k,v)]
 | [],k,v,_=>rfl
 | p::r,k,v,h=>by rw[eQ,if_neg (h p (.head _)),GG r k v (λq a=>h q (.tail _ a))];rfl
theorem GH:∀(l:List (Int×ab)) (k:Int),(∀p∈l,p.1≠k)->hA l k=none
 | [],k,_=>rfl
 | p::r,k,h=>by rw[hA,if_neg (h p (.head _)),GH r k (λq a=>h q (.tail _ a))]
theorem CF:∀(l:List (Int×ab)) (k:Int) (v:ab) (j:Nat) (u:ab),(l.map (·.1)).Nodup->l[j]? =some (k,u)->eQ l k v=l.set j (k,v)/\hA l k=some u
 | [],k,v,j,u,_,h=>by simp at h
 | p::r,k,v,0,u,c,h=>by
  simp at h;subst h;simp[eQ,hA]
 | p::r,k,v,j+1,u,c,h=>by
  have f:r[j]? =some (k,u):=by simpa using h
  have a:p.1≠k:=by
   rw[List.map_cons,List.nodup_cons] at c;intro e;exact c.1 (by rw[e];exact List.mem_map.2 ⟨(k,u),List.mem_of_getElem? f,rfl⟩)
  obtain⟨m,g⟩:=CF r k v j u (by rw[List.map_cons,List.nodup_cons] at c;exact c.2) f;rw[eQ,hA,if_neg a,if_neg a,m,g];exact⟨rfl,rfl⟩
class q2 (P:Program) (t:Nat) (x:outParam (Nat×Nat)):Prop where
 h:P.underlying t=some (.map x.1 x.2)
 int:P.underlying x.1=some (.int .i64)
class uV (P:Program) (t:Nat) (z:outParam Value):Prop where
 h:((P.info? t).bind (·.zero))=some z
theorem MW{I}{w}:∀{c:bl} {a:dj},bU I w c a->∀{x:ab} {v:Value},Rel I w x v->∀{j:Nat},bU I w (c.set j x) (a.set j v)
 | _,_,.nil,x,v,h,j=>.nil
 | _,_,.cons m l c a g f,x,v,h,0=>.cons _ _ _ _ h f
 | _,_,.cons m l c a g f,x,v,h,j+1=>.cons _ _ _ _ g (MW f h)
def w7{P}{k}(a:P.underlying k=some (.int .i64)){n}(hn:fX n):ev P k (.int .i64 n):=by
 refine⟨.int .i64 n,?_⟩;have:(Go.Lit.int .i64 n).wf=true:=by
  simp only[Go.Lit.wf];rw[Bool.and_eq_true,decide_eq_true_eq,decide_eq_true_eq];exact hn
 simp[keyOf,a,mapKey,this]
section
variable{P:Program}{H:aC}{ρ:Nat->Option ab}{o:Oper}
def GI{t}{z}(h:((P.info? t).bind (·.zero))=some z)(w):(zeroValue t).run P w= .ok z w:=by
 cases aN:P.info? t with
 | none=>simp[aN] at h
 | some a=>simp[aN] at h;simp[zeroValue,typeInfo,aN,h]
def ad.tw{t}{x W}{b}{ke}{l}{k}{g1 V}{zv}[E:q2 P t ke][hZ:uV P ke.2 zv](h:o.op= .lookup t x W false)
  (Z:aO ρ x=some (g1,.val (.map (some b)))) (L:g1=true) (bD:aO ρ W=some (V,.i k)) (S:V=true) (hm:dV b l∈H) (X:lI l) (J:fX k):ad P H ρ o ((hA l k).getD (.val zv)):=by
 intro B I w r a ni Y Q b4 U;have C:=bZ (U.get cd Z L);have F:=bZ (U.get cd bD S);obtain⟨eD,⟨ct,dv,ba,c,z⟩,a0⟩:=Q.ok _ (b4 _ hm);have K:=Go.Maps.int_keyed E.int;obtain⟨sa,G⟩:=w7 E.int J;have D:∀e∈ct.toList,∃l,keyOf P ke.1 e.key=some l:=λe he=>by
  have:e.key∈(l.map λp=>((.int .i64 p.1,p.2):Value×ab)).map (·.1):=by rw[<-c];exact List.mem_map_of_mem he
  rw[List.map_map] at this;obtain⟨p,s,T⟩:=List.mem_map.1 this;rw[<-T];exact w7 E.int (X.small p s)
 have m:=K.check w ct.isEmpty G;have q:(getObj b).run P w= .ok (.map ct dv) w:=by simp[getObj,Sem.run,ba]
 rcases K.find w G ct.toList D with⟨b7,hx⟩ | ⟨j,e,b7,cp,jO⟩
 ·have aD:=GI hZ.h w;have g:(execOp a.eval o).run P w= .ok (.value zv) w:=by
   simp[execOp,h,Instr.lookup,run_underlying E.h,C,F,q,m,b7,aD]
  have av:hA l k=none:=GH l k λp s e=>by
   have:(.int .i64 p.1)∈ct.toList.map (·.key):=by rw[c,List.map_map];exact List.mem_map.2 ⟨p,s,rfl⟩
   obtain⟨e',M,N⟩:=List.mem_map.1 this;exact hx e' M (by rw[N,e])
  refine .e4 ck g ⟨I,Y,.refl _ _ _,Q,?_⟩;rw[av];exact .val _
 ·have g:(execOp a.eval o).run P w= .ok (.value e.val) w:=by
   simp[execOp,h,Instr.lookup,run_underlying E.h,C,F,q,m,b7]
  obtain⟨u,f,R⟩:=wU z (i:=j) (v:=e.val) (by rw[List.getElem?_map,cp];rfl);have O:l[j]? =some (k,u):=by
   rw[List.map_map,List.getElem?_map] at f;cases s:l[j]? with
   | none=>rw[s] at f;cases f
   | some p=>
    rw[s] at f;have A:((l.map λp=>((.int .i64 p.1,p.2):Value×ab)).map (·.1))[j]? =some e.key:=by rw[<-c,List.getElem?_map,cp];rfl
    rw[List.map_map,List.getElem?_map,s] at A;simp at f A;rw[jO] at A;simp at A;rw[show p=(k,u) from Prod.ext A f]
  refine .e4 ck g ⟨I,Y,.refl _ _ _,Q,?_⟩;rw[(CF l k .any j u X.nodup O).2];exact R
def Xi{t}{x kx z}{b}{ke}{l}{k}{u u'}{g1 g2 g3}{H'}[c4:q2 P t ke](h:o.op= .mapUpdate t x kx z\/o.op= .insert t x kx z)
  (aK:aO ρ x=some (g1,.val (.map (some b)))) (gJ:g1=true) (bD:aO ρ kx=some (g2,.i k)) (dU:g2=true) (aD:aO ρ z=some (g3,u)) (qH:g3=true) (fw:aq u u')
  (hu:bG H (dV b l) (dV b (eQ l k u')) H') (bq:lI l) (a5:fX k):qQ P H H' ρ o:=by
 intro B I w r a hw aW bb;have C:x∈o.op.operands/\kx∈o.op.operands/\z∈o.op.operands:=by rcases h with h | h <;> simp[h,Op.operands]
 have gH:∀c,o.op≠ .defer c:=by rcases h with h | h <;> simp[h]
 have a3:=bZ (bb.get C.1 aK gJ);have a2:=bZ (bb.get C.2.1 bD dU);have W:=fw _ _ _ (bb.get C.2.2 aD qH);obtain⟨eD,⟨ct,dv,ba,D,E⟩,F⟩:=aW.ok _ hu.mem;have K:=Go.Maps.int_keyed c4.int;obtain⟨sa,R⟩:=w7 c4.int a5;have bI:∀e∈ct.toList,∃l,keyOf P ke.1 e.key=some l:=λe he=>by
  have:e.key∈(l.map λp=>((.int .i64 p.1,p.2):Value×ab)).map (·.1):=by rw[<-D];exact List.mem_map_of_mem he
  rw[List.map_map] at this;obtain⟨p,S,qG⟩:=List.mem_map.1 this;rw[<-qG];exact w7 c4.int (bq.small p S)
 have J:=K.check w false R;have L:(getObj b).run P w= .ok (.map ct dv) w:=by simp[getObj,Sem.run,ba]
 have N:∀o':Obj,(setObj b o').run P w= .ok () (w.putObj b o'):=λo'=>by simp[setObj,Sem.run,ba,World.putObj]
 have a9:b<w.heap.size:=(Array.getElem?_eq_some_iff.1 ba).1;have a4:∀(q:Array MapEntry) (G:Nat),q.toList.map (·.key)=(eQ l k u').map (λp=>.int .i64 p.1)->bU I w ((eQ l k u').map (·.2)) (q.toList.map (·.val))->
   (execOp a.eval o).run P w= .ok .skip (w.putObj b (.map q G))->dw P r o a w (λv w'=>∃c7,bY B c7 w'/\Ext B I w c7 w'/\a7 B c7 w' H') (λ_ _=>False):=by
  intro q G ae Q Y;have a0:er I w I (w.putObj b (.map q G)):=pN (B:=B) F;refine .uz gH Y ⟨I,hw.putObj F,.putObj eD F,(aW.fE hu a0 (λdL _ T=>World.putObj_heap_other (λe=>T (by rw[e];rfl))) (λ_ _ x=>.inl x) ⟨eD,⟨q,G,World.putObj_heap_same a9,?_,?_⟩,F⟩ λ_ ba=>.inl ba)⟩
  ·rw[ae,List.map_map];rfl
  ·rw[List.map_map];exact Q.bw a0
 have g:ct.toList.map (·.key)=l.map λp=>.int .i64 p.1:=by rw[D,List.map_map];rfl
 have m:bU I w (l.map (·.2)) (ct.toList.map (·.val)):=by rw[List.map_map] at E;exact E
 rcases K.find w R ct.toList bI with⟨b7,T⟩ | ⟨j,e,b7,cp,jO⟩
 ·have O:∀p∈l,p.1≠k:=λp S e=>by
   have:(.int .i64 p.1)∈ct.toList.map (·.key):=by rw[g];exact List.mem_map.2 ⟨p,S,rfl⟩
   obtain⟨e',ac,hQ⟩:=List.mem_map.1 this;exact T e' ac (by rw[hQ,e])
  refine a4 (ct.push {key:=.int .i64 k,val:=a.eval z,born:=dv}) (dv+1) ?_ ?_ ?_
  ·rw[GG l k u' O];simp[g]
  ·rw[GG l k u' O];simp[Array.toList_push,List.map_append,List.map_cons,List.map_nil];exact m.append (.cons _ _ _ _ W .nil)
  ·rcases h with h | h <;> simp[execOp,h,Instr.mapUpdate,run_underlying c4.h,a3,a2,L,J,b7,N]
 ·have Z:ct[j]? =some e:=by simpa using cp
  have V:=K.stays w R;obtain⟨GJ,s,ah⟩:=wU m (i:=j) (v:=e.val) (by rw[List.getElem?_map,cp];rfl);have iy:l[j]? =some (k,GJ):=by
   rw[List.getElem?_map] at s;cases S:l[j]? with
   | none=>rw[S] at s;cases s
   | some p=>
    rw[S] at s;have Q:(l.map λp=>.int .i64 p.1)[j]? =some e.key:=by rw[<-g,List.getElem?_map,cp];rfl
    rw[List.getElem?_map,S] at Q;simp at s Q;rw[jO] at Q;simp at Q;rw[show p=(k,GJ) from Prod.ext Q s]
  have A:=(CF l k u' j GJ bq.nodup iy).1;have M:(ct.modify j λe=>{e with key:=.int .i64 k,val:=a.eval z}).toList=ct.toList.set j {e with key:=.int .i64 k,val:=a.eval z}:=by
   apply List.ext_getElem?;intro i;rw[Array.getElem?_toList,Array.getElem?_modify,List.getElem?_set];by_cases U:j=i
   ·subst U;rw[if_pos rfl,if_pos rfl,Z,if_pos (by have:=(List.getElem?_eq_some_iff.1 cp).1;exact this)];rfl
   ·rw[if_neg U,if_neg U];simp
  refine a4 (ct.modify j λe=>{e with key:=.int .i64 k,val:=a.eval z}) dv ?_ ?_ ?_
  ·rw[M,A,List.map_set,List.map_set,g]
  ·rw[M,A,List.map_set,List.map_set];exact MW m W
  ·rcases h with h | h <;> simp[execOp,h,Instr.mapUpdate,run_underlying c4.h,a3,a2,L,J,b7,N,Z,jO,V]
end
section
variable{c:Ctx}{r:Option Nat}{P:Program}{ops:Array Oper}{l rest:cg}{env:List (Nat×ab)}{H:aC}{Q:Exit->Act->World->Prop}{d:Nat}{o:Oper}
def ai.iA{t}{x m z}{b}{ke}{l}{k}{u u'}{g1 D E}{H'}[c4:q2 P t ke](q:o.guard=none)(W:o.dst=none)(h:o.op= .mapUpdate t x m z\/o.op= .insert t x m z)
  (L:aO (aE env) x=some (g1,.val (.map (some b)))) (j:g1=true) (M:aO (aE env) m=some (D,.i k)) (A:D=true) (R:aO (aE env) z=some (E,u)) (C:E=true) (g:aq u u')
  (hu:bG H (dV b l) (dV b (eQ l k u')) H') (X:lI l) (f:fX k) (next:ai c r P ops rest ⟨env,H'⟩ Q):ai c r P ops (o::rest) ⟨env,H⟩ Q:=by
 intro a w s;refine wpListIn_plain q λK S=>?_;obtain⟨I,O,Z,T,F⟩:=s.mem;refine (Xi h L j M A R C g hu X f) c.B I w r a O T (F.ops o) K Q ?_ λ_ _ h=>h.elim;rintro v w' ⟨V,U,J,N⟩;refine S _ _ ?_;rw[W];exact next _ _ ⟨s.ds,s.size,V,U,Z.trans J,N,F.bw J.keeps⟩
end
section
variable{P:Program}{H:aC}{ρ:Nat->Option ab}{o:Oper}{X:nx}
def ee.own{q}{s z}{t tx e k f N}{els news}{v}{y}{g1 A}{H'}{x}[O:fi P t (e,k,f)][R:eE P tx N]
  (h:o.op= .call {callee:=.builtin .append,args:=#[s,z],argTypes:=#[t,tx]}) (F:aO ρ s=some (g1,q)) (g:g1=true) (l:aq q (.as (.aj k els) v)) (J:aO ρ z=some (A,y)) (j:A=true) (hy:aq y (.aj k news))
  (G:news.all dG=true) (K:(els.length+news.length)*f<=140737488355328) (m:els.length+news.length<=9223372036854775807) (hu:∀c,bG H (.own e k v) (.own e k c) (H' c)) (aK:∀c,x c= .as (.aj k (els++news)) c):ee X P H H' x ρ o:=λB I w r a L D C=>
 (LX h F g l J j hy G hu K m L D C).mono (λv Q ⟨E,bI,a2,a3,a4⟩=>⟨E,bI,a2,a3,by rw[aK];exact a4⟩) λ_ _ h=>h.elim
def ee.uT{t e q}{n k}{l}{s}{ys}{els}{H'}{x}[J:fi P t (e,k,q)][hR:j9 P t (k,s)](h:o.op= .buildSlice t n l)
  (hy:js ρ (l.toList.map (·.2))=some ys) (D:ys.all (·.1)=true) (g:(partsOf l.toList ys).map (λx=>cJ x.2)=els) (c:Nat.beq els.length n) (z:els.all (λe=>Nat.beq e.length k)=true)
  (m:Nat.ble (n*k) 16777216) (f:Nat.blt 0 (n*k))
  (E:n1 (λi=>some (i*k,k)) ((mG n k s).map .val) (partsOf l.toList ys)=some els.flatten) (hu:∀j,H' j= .own e k j::H) (aK:∀j,x j= .as (.aj k els) j):ee X P H H' x ρ o:=λB I w r a F B A=>
 (MJ h hy D g c z m f E F B A).mono (λv K ⟨C,bI,a2,a3,a4⟩=>⟨C,bI,a2,by rw[hu];exact a3,by rw[aK];exact a4⟩) λ_ _ h=>h.elim
def ad.Xj{env}(d){u u' z}(s:aE env d=some u)(j:aq u u')(h:ad P H (aE ((d,u')::env)) o z):ad P H (aE env) o z:=λB I w r a q hw m v g=>
 h B I w r a q hw m v (λx aK y hy=>by
  cases x with
  | tmp t=>
   simp[iU] at hy;rw[k6] at hy;split at hy
   ·rename_i e;cases hy;subst e;exact j _ _ _ (g _ aK _ s)
   ·exact g _ aK _ hy
  | _=>exact g _ aK y hy)
end
def bG.Xk{H H'}{e e'}(h:bG H e e' H'):e=e'->H'=H:=by
 induction h with
 | head e e' H=>intro j;rw[j]
 | tail f a b H H' _ l=>intro j;rw[l j]
def bG.same{H H'}{e}(h:bG H e e H'):H'=H:=h.Xk rfl
section
variable{c:Ctx}{r:Option Nat}{P:Program}{ops:Array Oper}{l rest:cg}{env:List (Nat×ab)}{H:aC}{Q:Exit->Act->World->Prop}{d:Nat}{o:Oper}
def ai.MX{s z}{t e k q n}{cs}(news){v}{y:ab}{g1 W:Bool}{H':Value->aC}[df:fi P t (e,k,q)](A:o.guard=none)(a6:o.dst=some d)(hn:Nat.blt d c.n)
  (h:o.op= .call {callee:=.builtin .append,args:=#[s,z],argTypes:=#[t,t]}) (b4:aO (aE env) s=some (g1,.val v)) (j:g1=true) (X:aO (aE env) z=some (W,y)) (C:W=true) (hy:aq y (.aj k news))
  (ae:news.all dG=true) (hu:∀D,bG H (.row e k v n cs) (.row e k D (n+news.length) (cs++news.flatten)) (H' D)) (ba:(n+news.length)*q<=140737488355328) (N:n+news.length<=9223372036854775807)
  (next:∀D,ai c r P ops rest ⟨(d,.val D)::env,H' D⟩ Q):ai c r P ops (o::rest) ⟨env,H⟩ Q:=by
 cases news with
 | cons a r=>exact .Cp A a6 hn h b4 j X C hy aT ae hu ba N next
 | nil=>
  intro a w sat;refine wpListIn_plain A λK eX=>?_;obtain⟨I,hw,he,aW,O⟩:=sat.mem;obtain⟨i,zv,B,aN,a3,M,a0,bI,a2⟩:=oX df.h;have l:=bZ ((O.ops o).get gF b4 j);have T:=hy _ _ _ ((O.ops o).get gF X C);obtain⟨us,aB,Z⟩:=uF (P:=P) (tx:=t) B T ae;have L:us= []:=by cases aB;rfl
  subst L;rw[<-M] at Z;obtain⟨xs,f,_,_⟩:=aW.ok _ (hu v).mem;obtain⟨S,m,F,G,J⟩:∃S m F,v= .slice S m F/\m<=F:=by
   rcases f.2 with⟨rfl,_⟩ | ⟨g,cap,cur,rfl,_,_,a1,_⟩
   ·exact⟨_,_,_,rfl,Nat.le_refl _⟩
   ·exact⟨_,_,_,rfl,a1⟩
  have Y:=run_append_nothing (P:=P) w t t o.type e i B aN S m F J (a.eval z) Z;rw[<-G, <-l] at Y;have iV:H' v=H:=by
   have:=hu v;simp[List.length_nil,Nat.add_zero,List.flatten_nil,List.append_nil] at this;exact this.same
  refine dw.e4 (R:=λx V=>x=a.eval s/\V=w) (E:=λ_ _=>False) ck (pJ h a w Y) ⟨rfl,rfl⟩ K Q ?_ λ_ _ h=>h.elim;rintro x V ⟨rfl,rfl⟩;refine eX _ _ (next v _ _ ⟨yq,yo,I,hw,he,by rw[iV];exact aW,?_⟩);rw[l];have:=O.put (dst:=some d) (x:=.val v) (v:=v) (by rw[sat.size];exact hn) (.val _);rw[a6];exact this
end
section
variable{c:Ctx}{r:Option Nat}{P:Program}{ops:Array Oper}{l rest:cg}{o:Oper}{st:dT}{Q:Exit->Act->World->Prop}{x:ab}
end
section
variable{c:Ctx}{r:Option Nat}{P:Program}{ops:Array Oper}{rest:cg}{o:Oper}{env:List (Nat×ab)}{H:aC}{Q:Exit->Act->World->Prop}{d:Nat}
def Xl(k):aq (.val (.slice none 0 0)) (.as (.aj k []) (.slice none 0 0)):=λI w v h=>by
 cases h;exact .as _ _ (.dQ _ _ _)
def ai.Xm{s z}{t tx e k l R}{news}{y}{g1 F}[T:fi P t (e,k,l)][U:eE P tx R](x:o.guard=none)(G:o.dst=some d)(hn:Nat.blt d c.n)
  (h:o.op= .call {callee:=.builtin .append,args:=#[s,z],argTypes:=#[t,tx]}) (K:aO (aE env) s=some (g1,.val (.slice none 0 0))) (A:g1=true) (M:aO (aE env) z=some (F,y)) (B:F=true) (hy:aq y (.aj k news))
  (L:news.all dG=true) (C:news.length*l<=140737488355328) (D:news.length<=9223372036854775807)
  (next:∀eA,ai c r P ops rest ⟨(d,.as (.aj k news) eA)::env,.own e k eA::H⟩ Q):ai c r P ops (o::rest) ⟨env,H⟩ Q:=by
 intro a w g;obtain⟨I,O,S,E,J⟩:=g.mem;have j:Sat c ⟨env,.own e k (.slice none 0 0)::H⟩ a w:=⟨g.ds,g.size,I,O,S,⟨λf q=>by
  rcases List.mem_cons.1 q with rfl | q
  ·exact⟨0,[],World.ownsRow_nil _ _ _ _,λg N=>by simp[Value.ownBlock] at N⟩
  ·exact E.ok f q,List.pairwise_cons.2 ⟨λf q b C=>by simp[br.dY,Value.ownBlock] at C,E.apart⟩⟩,J⟩
 refine ai.LZ (els:=[]) (v:=.slice none 0 0) (H':=λeA=>.own e k eA::H) x (gL G hn) h K A (Xl k) M B hy L (λeA=>.head _ _ _) (by simpa using C) (by simpa using D) (λeA=>?_) a w j;rw[G];exact next eA
end
end Go.Eng

