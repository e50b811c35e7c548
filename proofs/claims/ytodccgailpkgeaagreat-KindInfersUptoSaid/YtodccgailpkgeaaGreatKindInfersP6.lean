/- A part of the proof. No condition. -/
import Derived.Test.YtodccgailpkgeaaGreatKindInfersP5
import Derived.Deep.AppendSrc
import Derived.Laws.CopyRow
set_option linter.defProp false
set_option maxHeartbeats 1000000
set_option linter.unusedVariables false
set_option linter.unusedSimpArgs false
namespace Go.Eng
open Go.RowKit (Below)
def ee(f:FuncId)(c:Ctx)(r:Option Nat)(P:Program)(code:Code)(st:dU)(Q:Exit->Act->World->Prop):Prop:=∀a w,Sat c st a w->l2 f (bt r) 0 P code Q a w
section
variable{f:FuncId}{c:Ctx}{r:Option Nat}{P:Program}{st:dU}{Q:Exit->Act->World->Prop}
def aB.mD{g}(h:aB c r P g st Q):ee f c r P g st Q:=λa w s=>.of (h a w s)
def ee.seq{p q}(h:ee f c r P p st (Exit.then (l2 f (bt r) 0 P q Q) Q)):ee f c r P (.seq p q) st Q:=λa w s=>.seq (h a w s)
def ee.block{id}{p}(h:ee f c r P p st (Exit.inBlock id Q)):ee f c r P (.block id p) st Q:=λa w s=>.block (h a w s)
def ee.done{q}(h:ee f c r P q st Q):aZ c st .normal (Exit.then (l2 f (bt r) 0 P q Q) Q):=λa w s=>h a w s
def bO.Mu{fn}{a}{xs}{H}{c}{E}{n}(b8:P.funcs[f]? =some fn)(a8:fn.body=some a)(rK:(fn.name== "runtime.NumGoroutine")=false)
  (hn:fn.ntmps=n) (q:Nat.ble xs.length n) (h:∀B I w,ee f ⟨B,I,w,n,[]⟩ none P a ⟨na 0 xs,H⟩ (bodyPostM (bt none) 0 P fn (e4 B I w c E))):bO P f xs H c E:=by
 refine⟨uk,λB I w g r o j=>uv (n:=0) (We b8 a8 trivial ?_ rfl)⟩;refine h B I w _ w ⟨rfl,?_,I,r,Ext.refl _ _ _,o,λt y hy=>?_⟩
 ·have:=j.length;have:=Nat.le_of_ble_eq_true q;simp;omega
 ·obtain⟨v,l,m⟩:=j.get ye;have:(g.toArray++Array.replicate (fn.ntmps - g.toArray.size) undef).getD t undef=v:=by
   have kT:=(List.getElem?_eq_some_iff.1 l).1;simp only[Array.getD_eq_getD_getElem?];rw[Array.getElem?_append_left wu];simp[l]
  rw[this];exact m
def w4{α:Type}(B:Nat)(P:Program)(g:ab)(bM bL:α->ab)(L:List α)(h0:Bool)(J:List α->aA->Prop)(jh:ab->aA->Prop):Prop:=
 ∀pre x H Hx,pre++[x]<+:L->J pre H->eY B P g [bM x,bL x] (H++Hx) (λy H'=>∃H1,y= .b true/\H'=H1++Hx/\(pre++[x]=L->h0=false)/\J (pre++[x]) H1) (λy H'=>∃H1,H'=H1++Hx/\pre++[x]=L/\h0=true/\jh y H1)
def Gp{α:Type}(B:Nat)(P:Program)(rV:ab)(bM bL:α->ab)(L:List α)(h0:Bool)(Hs:aA)(nZ:aA->Prop):Prop:=
 ∀(J:List α->aA->Prop) (jh:ab->aA->Prop) (g:Fn) (cz cs:bl),(∀y H,jh y H->∃v,y.Const v)->w4 B P (.fn g cz cs) bM bL L h0 J jh->∀H Hx,J [] H->
  eY B P rV [.fn g cz cs] (H++(Hs++Hx)) (λ_ H'=>h0=false/\∃H1 n5,H'=H1++(n5++Hx)/\nZ n5/\J L H1)
   (λy H'=>h0=true/\∃H1 n5,H'=H1++(n5++Hx)/\jh y H1)
def Gq{α:Type}(B:Nat)(c5:cp)(bW:World)(l D:Nat)(fD:Loop)(ρ:Nat->Option ab)(L:List α)(h0:Bool)(J:List α->aA->Prop)(jh:ab->aA->Prop)(pre:List α)(Hx:aA):Exit->Act->World->Prop:=λe a w=>
 ∃I H,bV B I w/\Ext B c5 bW I w/\a7 B I w (.loop l fD ρ::.obj D (.deferred (some []))::(H++Hx))/\
  match e with
  | .normal=>(pre=L->h0=false)/\J pre H
  | .panic ch=>a.defers= []/\pre=L/\h0=true/\∃v y,ch= [{v:=v,recovered:=false}]/\Rel I w y v/\jh y H
  | _=>False
end
section
variable{f0:FuncId}{Wo:Func}{P:Program}{c:Ctx}{r:Option Nat}{st:dU}{Q:Exit->Act->World->Prop}
def ee.Mv{α}{t p q}{assign body}{f}{wz}(Wp:P.funcs[f0]? =some Wo)(bM bL:α->ab)(L:List α)(h0)(J:List α->aA->Prop)(jh)(H Hs Hx)(nZ)(s7:α->List (Nat×ab))
  (bH:r=none) (iM:st.H=H++(Hs++Hx)) (aw:aD st.env t=some (.fn (.func f) [] wz)) (ck:Nat.blt p c.n) (cd:Nat.blt q c.n) (Fw:Gp c.B P (.fn (.func f) [] wz) bM bL L h0 Hs nZ) (eD:J [] H) (Wq:∀y H,jh y H->∃v,y.Const v)
  (Fx:∀(l:Nat) (I:cp) (w:World) (x:α) (eE:aA),aB ⟨c.B,I,w,c.n,[]⟩ (some l) P assign ⟨(q,bL x)::(p,bM x)::st.env,eE⟩ (Exit.then (λa w'=>∃st',st'=(⟨s7 x,eE⟩:dU)/\Sat ⟨c.B,I,w,c.n,[]⟩ st' a w') (λ_ _ _=>False)))
  (round:∀(l D:Nat) (fD:Loop) (pre:List α) (x:α) (H1 eE:aA) (I:cp) (w:World),pre++[x]<+:L->J pre H1->
   aB ⟨c.B,I,w,c.n,[]⟩ (some l) P body ⟨s7 x,.loop l fD (aD st.env)::.obj D (.deferred (some []))::(H1++eE)⟩ (Gq c.B I w l D fD (aD st.env) L h0 J jh (pre++[x]) eE))
  (done:∀(D:Nat) (H1 n5:aA),h0=false->nZ n5->J L H1->aZ ⟨c.B,c.c5,c.bW,c.n,{target:=.collected D,args:=#[]}::c.ds⟩ ⟨st.env,.obj D (.deferred (some []))::(H1++(n5++Hx))⟩ .normal Q)
  (oP:∀(D:Nat) (y:ab) (H1 n5:aA),h0=true->jh y H1->∀(I:cp) (v:Value) (a:Act) (w:World),Sat ⟨c.B,c.c5,c.bW,c.n,{target:=.collected D,args:=#[]}::c.ds⟩ ⟨st.env,.obj D (.deferred (some []))::(H1++(n5++Hx))⟩ a w->Rel I w y v->Q (.panic [{v:=v,recovered:=false}]) a w):
  ee f0 c r P (.rangeFunc (.tmp t) #[p,q] assign body) st Q:=by
 intro a w s;subst bH;obtain⟨I,hw,he,aU,bd⟩:=s.mem;rw[iM] at aU;refine l2.rangeFunc ?_;obtain⟨ea,ku⟩:∃ea:Loop,ea={state:=.ready,pending:=none,fn:=f0,tmps:=a.tmps,params:=#[p,q],assign,body,defers:=w.heap.size}:=⟨_,rfl⟩;have yD:=bd t _ aw;generalize hu:a.tmps.getD t undef=u at yD;cases yD with
 | fn _ _ _ jA hr b8 a1=>
 have Fy:jA= #[]:=by cases jA with | mk l=>cases b8;rfl
 subst Fy;have Fz:=aU.newObj hw (.deferred (some []));have uJ:=hw.alloc (.deferred (some []));have j0:=bd.bs (lP hw (.deferred (some [])));have yE:=Fz.LD uJ ea (aD st.env) (by rw[ku];exact j0);have FA:=uJ.alloc (.loop ea);rw[World.size_alloc] at yE;have cv:Ext c.B I w I ((w.alloc (.deferred (some []))).alloc (.loop ea)):=(jB hw _).trans (jB uJ _)
 let uK:List α->aA->Prop:=λpre jD=>∃H1,J pre H1/\jD= .loop (w.heap.size+1) ea (aD st.env)::.obj w.heap.size (.deferred (some []))::H1
 let Mw:ab->aA->Prop:=λy jD=>∃H1,jh y H1/\jD= .loop (w.heap.size+1) {ea with state:=.busy} (aD st.env)::.obj w.heap.size (.deferred (some []))::H1
 have rW:a.tmps.size=c.n:=s.size;have FB:p<c.n:=Nat.lt_of_succ_le (by simpa [Nat.blt] using ck);have Wr:q<c.n:=Nat.lt_of_succ_le (by simpa [Nat.blt] using cd);have yF:w4 c.B P (.fn (.yield (w.heap.size+1)) [] []) bM bL L h0 uK Mw:=by
  rintro pre x jD eE wF ⟨H1,kr,rfl⟩ ng W v vs FC yG FD my;obtain rfl:v= .func (.yield (w.heap.size+1)) #[] #[]:=by
   cases FD with
   | fn _ _ _ jA hr b8 a1=>
    cases jA with
    | mk nY=>cases hr with
     | mk lc=>cases b8;cases a1;rfl
  cases my with
  | cons _ v1 _ U4 yc ht=>
  cases ht with
  | cons _ v2 _ ake Gg ht=>
  cases ht;obtain⟨U5,yH,uL,U6⟩:=yG.ok (.loop (w.heap.size+1) ea (aD st.env)) aS;have hy:=run_yield (P:=P) (args:=#[v1,v2]) yH (by rw[ku];rfl);refine .inr ⟨_,rfl,f0,(a.tmps.setIfInBounds p v1).setIfInBounds q v2,assign,body,?_,?_⟩
  ·rw[ku] at hy;simpa using hy
  ·refine Wg (F:=bt none) trivial Wp ?_;have FE:a7 c.B ng W (.loop (w.heap.size+1) ea (aD st.env)::.obj w.heap.size (.deferred (some []))::(H1++eE)):=by
    simpa [List.append_assoc] using yG
   have lp:Sat ⟨c.B,ng,W,c.n,[]⟩ ⟨(q,bL x)::(p,bM x)::st.env,.loop (w.heap.size+1) ea (aD st.env)::.obj w.heap.size (.deferred (some []))::(H1++eE)⟩ {tmps:=(a.tmps.setIfInBounds p v1).setIfInBounds q v2,defers:=[]} W:=by
    refine⟨rfl,by simpa using rW,ng,FC,Ext.refl _ _ _,FE,?_⟩;refine Fu (a:={tmps:=a.tmps.setIfInBounds p v1,defers:=[]}) (Fu (a:=a) (λt y FF=>?_) (by rw[rW];exact FB) yc []) (by simp[Array.size_setIfInBounds];rw[rW];exact Wr) Gg [];have:=uL t y FF;rw[ku] at this;exact this
   refine wpIn_mono (Fx (w.heap.size+1) ng W x _ _ W lp) λe a3 uM lU=>?_;cases e with
   | normal=>
    obtain⟨st',rfl,rX⟩:=lU;obtain⟨uN,FG,FH,yI,wG⟩:=rX.mem;obtain⟨FI,FJ,_,yJ⟩:=yI.ok _ (.head _);refine⟨_,run_beginRound FJ (by rw[ku]),?_⟩;have FK:=yI.uH (lp':={ea with state:=.busy}) (.head _ _ _) rfl;have yK:Ext c.B uN uM uN (uM.putObj (w.heap.size+1) (.loop {ea with state:=.busy})):=.putObj FI yJ;have yL:Sat ⟨c.B,ng,W,c.n,[]⟩ ⟨s7 x,.loop (w.heap.size+1) {ea with state:=.busy} (aD st.env)::.obj w.heap.size (.deferred (some []))::(H1++eE)⟩ a3 (uM.putObj (w.heap.size+1) (.loop {ea with state:=.busy})):=
     ⟨rX.ds,rX.size,uN,FG.putObj yJ,FH.trans yK,FK,wG.bs yK.keeps⟩
    refine wpIn_mono (round _ _ _ pre x H1 eE ng W wF kr a3 _ yL) λe a5 BW FL=>?_;obtain⟨BX,rY,BY,BZ,wH,nh⟩:=FL;obtain⟨FM,FN,_,yM⟩:=wH.ok _ (.head _);cases e with
    | normal=>
     have c7:=run_endRound (P:=P) none FN;refine⟨_,_,c7,?_⟩;have oR:=wH.uH (lp':={ea with state:=.ready,pending:=none}) (.head _ _ _) rfl;refine⟨BX,(.loop (w.heap.size+1) ea (aD st.env)::.obj w.heap.size (.deferred (some []))::rY)++eE,BY.putObj yM,BZ.trans (.putObj FM yM),?_,.inl ⟨_,.b true,rfl,.val _,_,rfl,rfl,nh.1,rY,nh.2,rfl⟩⟩;have Ws:ea={ea with state:=.ready,pending:=none}:=by rw[ku]
     rw[Ws];simpa [List.append_assoc] using oR
    | panic ch=>
     obtain⟨a6,lW,uT,v,y,rfl,BS,Gr⟩:=nh;refine⟨a6,BX,(.loop (w.heap.size+1) {ea with state:=.busy} (aD st.env)::.obj w.heap.size (.deferred (some []))::rY)++eE,BY,BZ,?_,.inr ⟨v,y,rfl,BS,_,rfl,lW,uT,rY,Gr,rfl⟩⟩;simpa [List.append_assoc] using wH
    | ret=>exact nh.elim
    | exit id=>exact nh.elim
    | goto t=>exact nh.elim
    | outgrown=>exact nh.elim
   | exit id=>exact lU.elim
   | goto t=>exact lU.elim
   | ret=>exact lU.elim
   | panic ch=>exact lU.elim
   | outgrown=>exact lU.elim
 have nW:=Fw uK Mw _ _ _ (λy jD ⟨H1,h,_⟩=>Wq y H1 h) yF _ Hx ⟨H,eD,rfl⟩ I _ (.func (.func f) #[] hr) [.func (.yield (w.heap.size+1)) #[] #[]] FA (by simpa using yE) (.fn _ _ _ _ _ .nil (a1.bs cv.keeps)) (.cons _ _ _ _ (.fn _ _ _ _ _ .nil .nil) .nil);rcases nW with⟨f',vf',vc',bM,hL,hcalls⟩ | ⟨l,bM,_⟩
 ·simp[Value.func.injEq,Fn.func.injEq] at bM;obtain⟨rfl,rfl,rfl⟩:=bM;refine⟨w.heap.size+1,[{target:=.collected w.heap.size,args:=#[]}],(w.alloc (.deferred (some []))).alloc (.loop ea),{target:=.fn (.func f) hr,args:=#[.func (.yield (w.heap.size+1)) #[] #[]]},(w.alloc (.deferred (some []))).alloc (.loop ea),f,
   #[.func (.yield (w.heap.size+1)) #[] #[]]++hr,(w.alloc (.deferred (some []))).alloc (.loop ea),?_,?_,λ_ _=>trivial,?_,by simp[bt],?_⟩
  ·rw[ku];exact run_enterLoop_outer f0 a.tmps #[p,q] assign body
  ·have wI:a.eval (.tmp t)= .func (.func f) #[] hr:=hu;simp[resolve,rangeCall,wI];simp[Deferred.ofValue,Act.eval]
  ·simp[invoke,wB hL]
  ·have fl:(#[]++[.func (Fn.yield (w.heap.size+1)) #[] #[]].toArray++hr)= #[.func (Fn.yield (w.heap.size+1)) #[] #[]]++hr:=by simp
   rw[fl] at hcalls;refine E5 (hcalls.mono λe W hR=>?_);obtain⟨oS,U7,yN,rZ,oR,lV⟩:=hR;rcases lV with lV | lV
   ·obtain⟨v,y,rfl,_,lV⟩:=lV;obtain⟨uT,Wt,n5,rfl,Wu,H1,FO,rfl⟩:=lV;obtain⟨yO,yP,_,s8⟩:=oR.ok _ (.head _);have yQ:ea.pending=none:=by rw[ku]
    have yR:=run_endLoop (P:=P) yP (by rw[ku];simp);rw[yQ] at yR;refine⟨none,_,yR,?_⟩;have uO:=(oR.uH (lp':={ea with state:=.exhausted}) (.head _ _ _) rfl).tail;have qB:Ext c.B oS W oS (W.putObj (w.heap.size+1) (.loop {ea with state:=.exhausted})):=.putObj yO s8;rw[yQ] at qB uO;refine done w.heap.size H1 n5 uT Wu FO _ _ ⟨?_,s.size,oS,yN.putObj s8,(he.trans (cv.trans rZ)).trans qB,uO,(bd.bs (cv.trans rZ).keeps).bs qB.keeps⟩;show _::a.defers=_;rw[s.ds]
   ·obtain⟨v,y,rfl,hy,uT,Wt,n5,rfl,H1,Gr,rfl⟩:=lV;refine oP w.heap.size y H1 n5 uT Gr oS v _ _ ⟨?_,s.size,oS,yN,he.trans (cv.trans rZ),oR.tail,bd.bs (cv.trans rZ).keeps⟩ hy;show _::a.defers=_;rw[s.ds]
 ·simp at bM
end
def Gs(P:Program)(t:TypeId)(name:String):Option FuncId:=
 match P.info? t with
 | some i=>match i.methods.find? (·.name==name) with
  | some m=>match m.path.toList,m.func,P.underlying t with
   | [],some (f,true),some (.pointer _)=>some f
   | [],some (f,false),some (.pointer _)=>none
   | [],some (f,false),some _=>some f
   | _,_,_=>none
  | none=>none
 | none=>none
section
variable{P:Program}{o:Oper}{ρ:Nat->Option ab}
def Wv{t}{g}{f}(h:Gs P t g=some f)(v)(w)(j):(method (j+1) t v g).run P w= .ok (f,v) w:=by
 unfold Gs at h;split at h
 ·rename_i i r;split at h
  ·rename_i m q;split at h
   ·rename_i s e a c o;cases h;simp[method,typeInfo,r,q,a,follow,c,receiverAt,run_underlying o,Place.get]
   ·cases h
   ·rename_i s d l a c o;cases h;cases d <;> first | (exact absurd rfl (l _)) | simp[method,typeInfo,r,q,a,follow,c,receiverAt,run_underlying o,Place.get]
   ·cases h
  ·cases h
 ·cases h
def gD.inv{x}{c}{args}{s}{t}{y}{f}{ys}{g}(h:o.op= .call {callee:=.invoke x c,args:=args,argTypes:=s})
  (r:aN ρ x=some (g,.iface t y)) (J:g=true) (hm:Gs P t c=some f) (G:jg ρ args.toList=some ys) (l:ys.all (·.1)=true):gD P ρ o f (y::ys.map (·.2)):=by
 refine⟨λI w a m=>?_,cf⟩;have q:=m.get gB r J;have z:=s3 m args.toList ys (λz C=>by simp[h,Op.operands,Call.operands];right;simpa using C) G (by simpa using l);generalize H:a.eval x=u at q;cases q with
 | iface _ _ v E=>
  refine⟨v::args.toList.map a.eval,.cons _ _ _ _ E z,λhL=>?_⟩;have j:=Wv (P:=P) hm v w (P.types.size+Made.depth - 1);have I:P.types.size+Made.depth - 1+1=P.types.size+Made.depth:=by simp[Made.depth]
  rw[I] at j;have D:(v::args.toList.map a.eval).toArray= #[v]++args.map a.eval:=by apply Array.ext';simp
  simp only[D];have F:(#[Value.iface t v]++args.map a.eval).extract 1 (#[Value.iface t v]++args.map a.eval).size=args.map a.eval:=by apply Array.ext';simp;rw[List.take_of_length_le];simp
  have A:(#[Value.iface t v]++args.map a.eval)[0]? =some (Value.iface t v):=by rw[Array.getElem?_append_left (Nat.zero_lt_one)];rfl
  simp only[execOp,h,resolve,H,Sem.run_bind,Sem.run_pure,Result.andThen_ok,invoke,A,F,callMethod,run_program,j,wB hL]
end
section
variable{P:Program}{H:aA}{ρ:Nat->Option ab}{o:Oper}
def ad.Gt{t}{x y z}{k}{els}{B G J}{ky kz}[ht:eC P t k](h:o.op= .slice t x none (some y) (some z))(M:aN ρ x=some (B,.ai k els))(m:B=true)
  (hy:aN ρ y=some (G,.val (.int ky (els.length:Int)))) (q:G=true) (aH:aN ρ z=some (J,.val (.int kz (els.length:Int)))) (s:J=true):ad P H ρ o (.ai k els):=by
 refine .same cf λI w a l=>?_;have F:=l.get cb M m;have fO:=bX (l.get cb hy q);have fi:=bX (l.get cb aH s);obtain⟨e,inf,v,r,N⟩:=nP ht.h;generalize K:a.eval x=u at F;have run:∀(g:Option Addr) (n c:Nat),n=els.length->n<=c->(Instr.sliceAt t (.slice g n c) none (some (.int ky (els.length:Int))) (some (.int kz (els.length:Int)))).run P w= .ok (.slice (if n=0 then g else g.map (·.add (0*k))) n n) w:=by
  intro g n c T j;subst T;have U:(0:Int)<=(els.length:Int):=Int.natCast_nonneg _;simp[Instr.sliceAt,Instr.slice,run_underlying v,Instr.sliceBounds,Instr.sliceBound,asIntOf,sizeOf,typeInfo,r,N,j]
 cases F with
 | ai _ _ b off len c E j L S=>
  refine⟨.slice (some ⟨b,off,none⟩) len len,?_,.ai _ _ _ _ _ _ E (Nat.le_refl _) (Nat.le_trans j L) S⟩;have:=run (some ⟨b,off,none⟩) len c E.symm j;have fl:(if len=0 then some (⟨b,off,none⟩:Addr) else (some (⟨b,off,none⟩:Addr)).map (·.add (0*k)))=some ⟨b,off,none⟩:=by split <;> simp[Addr.add]
  rw[fl] at this;simp[execOp,h,K,fO,fi,this]
 | dQ _ g c=>
  have:=run g 0 c rfl (Nat.zero_le _);refine⟨.slice g 0 0,?_,.dQ _ _ _⟩;rw[if_pos rfl] at this;simp only[execOp,h,K,fO,fi,Option.map_none,Option.map_some,Sem.run_bind,this,Result.andThen_ok,Sem.run_pure]
end
section
variable{P:Program}{H:aA}{ρ:Nat->Option ab}{o:Oper}
end
section
variable{c:Ctx}{r:Option Nat}{P:Program}{ops:Array Oper}{l rest:cc}{o:Oper}{env:List (Nat×ab)}{H:aA}{Q:Exit->Act->World->Prop}{d:Nat}
end
section
variable{P:Program}{c:Ctx}{r:Option Nat}{ops:Array Oper}{l rest:cc}{env:List (Nat×ab)}{H:aA}{Q:Exit->Act->World->Prop}{o:Oper}{d:Nat}
def aj.Ww{x y}{t e g}(m n:Nat){v}{B J}{N L:Int}{g1 M:Bool}[X:th P t (e,g,v)](D:o.guard=none)(a6:o.dst=some d)(hn:Nat.blt d c.n)(h:o.op= .makeSlice t x y)
  (O:aN (aD env) x=some (g1,.val (.int B N))) (l:g1=true) (hy:aN (aD env) y=some (M,.val (.int J L))) (G:M=true) (C:N=(m:Int)) (A:L=(n:Int)) (U:m<=n) (a8:g*n<=281474976710656) (hm:n<=maxLen)
  (next:∀b,aj c r P ops rest ⟨(d,.val (.slice (some ⟨b,0,none⟩) m n))::env,.au b e (List.replicate n (.val v))::H⟩ Q):aj c r P ops (o::rest) ⟨env,H⟩ Q:=by
 subst C;subst A;intro a w s;refine wpListIn_plain D λK Y=>?_;obtain⟨I,j,he,Z,F⟩:=s.mem;obtain⟨i,z,hu,aQ,V,S,wh,q⟩:=Ga X.h;have T:a.eval x= .int B (m:Int):=bX ((F.ops o).get cb O l);have W:a.eval y= .int J (n:Int):=bX ((F.ops o).get cb hy G);have f:=run_make (P:=P) w t e i z hu aQ V B J (m:Int) (n:Int) aa aa ER (by simp[maxLen] at hm;omega);rw[q,S,Nat.mul_one,Int.toNat_natCast,Int.toNat_natCast,Gb] at f;refine dt.e3 (R:=λu w'=>u= .slice (some ⟨w.heap.size,0,none⟩) m n/\w'=w.alloc (.cells (List.replicate n v).toArray e)) (E:=λ_ _=>False) cf (v:=.slice (some ⟨w.heap.size,0,none⟩) m n) (w':=w.alloc (.cells (List.replicate n v).toArray e)) (by simp[execOp,h,T,W,f]) ⟨rfl,rfl⟩ K Q ?_ (λ_ _ h=>h.elim);rintro u w' ⟨rfl,rfl⟩;have ae:bQ I w (List.replicate n (.val v)) (List.replicate n v):=by have:=lj (I:=I) (w:=w) (List.replicate n v);rwa [List.map_replicate] at this
 refine Y _ _ (next w.heap.size _ _ ⟨iJ,iI,I,j.alloc _,he.trans (jB j _),Z.new j e _ _ m2,?_⟩);rw[a6];exact (F.bs (lP j _)).put (dst:=some d) oI (.val _)
def aj.Wx{s z}{t tx e k a2 gT b off j A tb}{cs}{news}{y}{g1 g2:Bool}{H'}[dZ:fF P t (e,k,a2)][jZ:eC P tx gT](a3:o.guard=none)(a6:o.dst=some d)(hn:Nat.blt d c.n)
  (h:o.op= .call {callee:=.builtin .append,args:=#[s,z],argTypes:=#[t,tx]}) (b6:aN (aD env) s=some (g1,.val (.slice (some ⟨b,off,none⟩) j A))) (W:g1=true) (aH:aN (aD env) z=some (g2,y)) (Y:g2=true) (hy:an y (.ai k news))
  (q:j+news.length<=A) (ae:news.all dB=true) (hN:off+j*k+news.flatten.length<=cs.length)
  (hu:bG H (.au b tb cs) (.au b tb (cs.take (off+j*k)++news.flatten++cs.drop (off+j*k+news.flatten.length))) H')
  (next:aj c r P ops rest ⟨(d,.val (.slice (some ⟨b,off,none⟩) (j+news.length) A))::env,H'⟩ Q):aj c r P ops (o::rest) ⟨env,H⟩ Q:=by
 intro a w sat;refine wpListIn_plain a3 λK eX=>?_;obtain⟨I,hw,he,aU,bd⟩:=sat.mem;have bb:=bd.ops o;obtain⟨i,zv,a4,aQ,im,F,gF,a9,fw⟩:=oN dZ.h;obtain⟨e',_,Z,_⟩:=nP jZ.h;have X:=bX (bb.get gB b6 W);obtain⟨us,aC,g⟩:=uD (P:=P) (tx:=tx) Z (hy _ _ _ (bb.get gB aH Y)) ae;rw[<-F] at g;obtain⟨gS,O,m,l,S⟩:=aU.ok _ hu.mem;have a5:O.size=cs.length:=by have:=l.length;simpa using this
 have L:us.length=news.flatten.length:=aC.length;have G:=run_storeCells_at P b (off+j*k) tb us 0 O w m (by rw[L];omega) g.one;simp only[Nat.add_zero,L] at G;generalize N:(O.toList.take (off+j*k)++us++O.toList.drop (off+j*k+news.flatten.length)).toArray=cur at G;have bH:(Builtin.append_ #[t,tx] o.type #[a.eval s,a.eval z]).run P w= .ok (.slice (some ⟨b,off,none⟩) (j+news.length) A) (w.setRow b cur):=by
  have T:=g.cells;rw[F] at T;rw[X];rcases g.kind with⟨bL,mE⟩ | mE <;> simp[Builtin.append_,run_underlying a4,run_underlying mE,sizeOf,typeInfo,aQ,g.len,q,T,Addr.add_lit,F,G]
 have f:er I w I (w.setRow b cur):=⟨λ_ _ x=>x,λdI M U=>by
  have D:dI≠b:=λe=>by subst e;exact S M U
  exact World.cell?_of_block (a:=⟨dI,M,none⟩) (setRow_other w b dI cur D)⟩
 have J:Ext c.B I w I (w.setRow b cur):=⟨f.il,f.cell,⟨rfl,rfl,rfl,aS,λk bD=>setRow_other w b k cur aa⟩⟩;have bF:bV c.B I (w.setRow b cur):=⟨wo,λdI M U=>by rw[f.cell dI M U];exact hw.there dI M U⟩;have C:bQ I w (cs.take (off+j*k)++news.flatten++cs.drop (off+j*k+news.flatten.length)) cur.toList:=by
  rw[<-N];exact ((l.take _).append aC).append (l.drop _)
 have a0:a7 c.B I (w.setRow b cur) H':=by
  refine aU.fE hu f (λk bD D=>setRow_other w b k cur λe=>D wy) (λ_ _ x=>.inl x) ⟨gS,cur,setRow_heap w b O cur tb (0,0) m,C.bs f,S⟩ λk bD=>.inl bD
 refine dt.e3 (R:=λv w'=>v= .slice (some ⟨b,off,none⟩) (j+news.length) A/\w'=w.setRow b cur) (E:=λ_ _=>False) cf (pD h a w bH) ⟨rfl,rfl⟩ K Q ?_ λ_ _ h=>h.elim;rintro v w' ⟨rfl,rfl⟩;refine eX _ _ (next _ _ ⟨yh,yf,I,bF,he.trans J,a0,?_⟩);have:=(bd.bs f).put (dst:=some d) (x:=.val (.slice (some ⟨b,off,none⟩) (j+news.length) A)) (v:=.slice (some ⟨b,off,none⟩) (j+news.length) A) (by rw[sat.size];exact hn) (.val _);rw[a6];exact this
def aj.oM{st}{d b n cap k}{t}{els}{more}{H'}(f:aD st.env d=some (.val (.slice (some ⟨b,0,none⟩) n cap)))(m:fU st.H (.au b t (els.flatten++more)) H')
  (hn:els.length=n) (j:∀e∈els,e.length=k) (g:n<=cap) (hm:cap<=maxLen) (h:aj c r P ops l ⟨(d,.ai k els)::st.env,H'⟩ Q):aj c r P ops l st Q:=
 λa w s=>h a w (s.oM f m hn j g hm)
end
def e4.imp{B}{l}{j}{g f E h}(q:∀y H,g y H->f y H)(m:∀y H,E y H->h y H):∀e w,e4 B l j g E e w->e4 B l j f h e w:=by
 rintro e w ⟨o,r,a,b,c,d⟩;refine⟨o,r,a,b,c,?_⟩;rcases d with⟨v,x,bM,bL,fh⟩ | ⟨v,x,bM,bL,fh⟩
 ·exact .inl ⟨v,x,bM,bL,q _ _ fh⟩
 ·exact .inr ⟨v,x,bM,bL,m _ _ fh⟩
def eK.imp{B}{P}{f}{xs}{H}{c a E g}(h:eK B P f xs H c E)(l:∀y H,c y H->a y H)(m:∀y H,E y H->g y H):eK B P f xs H a g:=
 ⟨h.1,λI w q r o j=>(h.2 I w q r o j).mono (e4.imp l m)⟩
def bO.imp{P}{f}{xs}{H}{c a E g}(h:bO P f xs H c E)(l:∀y H,c y H->a y H)(m:∀y H,E y H->g y H):bO P f xs H a g:=
 ⟨h.1,λB I w q r o j=>(h.2 B I w q r o j).mono (e4.imp l m)⟩
section
variable{c:Ctx}{r:Option Nat}{P:Program}{st:dU}{Q:Exit->Act->World->Prop}
def aB.Wy{p q}(h:aB c r P q st Q):aB c r P (.cond (.const (.bool false)) p q) st Q:=λa w s=>by
 have:=h a w s;exact wpIn_cond_false rfl this
end
def aZ.Cr{c:Type}{st}{B}{f}{h}{n l D}{g}{ρ}{L:List c}{a}{J:List c->aA->Prop}{o}{pre:List c}{H Hx}{ds}
  (q:(.loop l g ρ::.obj D (.deferred (some []))::(H++Hx)).Sublist st.H) (j:pre=L->a=false) (m:J pre H):aZ ⟨B,f,h,n,ds⟩ st .normal (Gq B f h l D g ρ L a J o pre Hx):=λa w s=>
 let ⟨I,hw,he,aU,_⟩:=s.mem;⟨I,H,hw,he,aU.sub q,j,m⟩
def aZ.zi{c:Type}{st}{B}{f}{j}{n l D}{g}{ρ}{L:List c}{a}{J:List c->aA->Prop}{h}{pre:List c}{H Hx}{y}{v}
  (r:(.loop l g ρ::.obj D (.deferred (some []))::(H++Hx)).Sublist st.H) (hy:y.Const v) (m:pre=L) (q:a=true) (o:h y H):aZ ⟨B,f,j,n,[]⟩ st (.panic [{v:=v,recovered:=false}]) (Gq B f j l D g ρ L a J h pre Hx):=λa w s=>
 let ⟨I,hw,he,aU,_⟩:=s.mem;⟨I,H,hw,he,aU.sub r,s.ds,m,q,v,y,rfl,hy.rel _ _,o⟩
section
variable{P:Program}{H:aA}{ρ:Nat->Option ab}{o:Oper}{G:Type}
def qS(H:aA)(ρ:Nat->Option ab)(o:Oper)(y:Operand)(k te:Nat)(Wz:bl):Prop:=∀(B:Nat) (I:cp) (w:World) (a:Act),a7 B I w H->fm I w ρ a o->
 ∃b2 fx zj us,a.eval y= .slice (some ⟨b2,fx,none⟩) te zj/\bQ I w Wz us/\us.length=te*k/\∀j v,us[j]? =some v->w.cell? ⟨b2,fx+j,none⟩=some v
def qS.ai{y}{k}{els}{g}{z}(hm:y∈o.op.operands)(q:aN ρ y=some (g,z))(F:g=true)(f:an z (.ai k els))(h:els≠ []):qS H ρ o y k els.length els.flatten:=by
 intro B I w a L s;have m:=f _ _ _ (s.get hm q F);generalize a.eval y=u at m;cases m with
 | dQ _ a K=>exact absurd rfl h
 | ai _ _ b off len c E J r G=>
  subst E;obtain⟨us,aC,gn,uE⟩:=G.values;exact⟨b,off,c,us,rfl,aC,gn,λj v A=>by have:=uE j v A;rwa [Addr.add_lit] at this⟩
def qS.au{y}{k b2 j f m tb}{cs}{g}(hm:y∈o.op.operands)(s:aN ρ y=some (g,.val (.slice (some ⟨b2,j,none⟩) f m)))(C:g=true)(A:.au b2 tb cs∈H)(hfit:j+f*k<=cs.length):
  qS H ρ o y k f ((cs.drop j).take (f*k)):=by
 intro B I w a z x;have t:=bX (x.get hm s C);obtain⟨E,q,h,c,D⟩:=z.ok _ A;have F:q.size=cs.length:=by have:=c.length;simpa using this
 refine⟨b2,j,m,(q.toList.drop j).take (f*k),t,(c.drop _).take _,?_,λj v l=>?_⟩
 ·rw[List.length_take,List.length_drop,Array.length_toList];omega
 ·rw[List.getElem?_take] at l;split at l
  ·rw[List.getElem?_drop] at l;rw[jC h];simpa using l
  ·cases l
def Mx{l}{n}(h:dB l):dB (l.take n)=true:=List.all_eq_true.2 λx a=>List.all_eq_true.1 h x (List.mem_of_mem_take a)
def My{x y}{t wK}{k b l zk r7 Z m tb}{cs q}{H'}{g1}[ht:eC P t k](h:o.op= .call {callee:=.builtin .copy,args:=#[x,y],argTypes:=#[t,wK]})
  (aK:aN ρ x=some (g1,.val (.slice (some ⟨b,l,none⟩) zk r7))) (T:g1=true) (hy:qS H ρ o y k Z q) (ae:dB (q.take (m*k))) (hm:min Z zk=m) (hfit:l+m*k<=cs.length)
  (hu:bG H (.au b tb cs) (.au b tb (cs.take l++q.take (m*k)++cs.drop (l+m*k))) H') {B} {I} {w} {r} {a} (hw:bV B I w) (Y:a7 B I w H) (bb:fm I w ρ a o):
  dt P r o a w (λv w'=>bV B I w'/\Ext B I w I w'/\a7 B I w' H'/\Rel I w' (.i m) v) (λ_ _=>False):=by
 have X:=bX (bb.get gB aK T);obtain⟨b2,fx,zj,N,U,aC,gn,uE⟩:=hy B I w a Y bb;obtain⟨gS,L,s,f,M⟩:=Y.ok _ hu.mem;have a2:L.size=cs.length:=by have:=f.length;simpa using this
 have a3:m*k<=N.length:=by rw[gn];exact Nat.mul_le_mul_right k aa
 have g:(N.take (m*k)).length=m*k:=by rw[List.length_take];omega
 obtain⟨el,i,a0,aQ,K⟩:=nP ht.h;have J:=uA (aC.take (m*k)) ae;have b8:=run_firstCells_some (P:=P) w i.size m ⟨b2,fx,none⟩ Z zj (N.take (m*k)) (by rw[K];exact g) (λj v S=>by
  rw[List.getElem?_take] at S;split at S
  ·rw[Addr.add_lit];exact uE j v S
  ·cases S)
 have C:=run_storeCells_at P b l tb (N.take (m*k)) 0 L w s (by rw[g];omega) J;simp only[Nat.add_zero,g] at C;generalize G:(L.toList.take l++N.take (m*k)++L.toList.drop (l+m*k)).toArray=cur at C;have bH:(Builtin.copy_ #[t,wK] o.type #[a.eval x,a.eval y]).run P w= .ok (.int .i64 (m:Nat)) (w.setRow b cur):=by
  rw[X,U];simp[Builtin.copy_,run_underlying a0,sizeOf,typeInfo,aQ,Builtin.lenOf,hm,b8,C,goInt]
 have c:er I w I (w.setRow b cur):=⟨λ_ _ x=>x,λdI F O=>by
  have A:dI≠b:=λe=>by subst e;exact M F O
  exact World.cell?_of_block (a:=⟨dI,F,none⟩) (setRow_other w b dI cur A)⟩
 have D:Ext B I w I (w.setRow b cur):=⟨c.il,c.cell,⟨rfl,rfl,rfl,aS,λk K=>setRow_other w b k cur aa⟩⟩;have W:bV B I (w.setRow b cur):=⟨wo,λdI F O=>by rw[c.cell dI F O];exact hw.there dI F O⟩;have z:bQ I w (cs.take l++q.take (m*k)++cs.drop (l+m*k)) cur.toList:=by
  rw[<-G];exact ((f.take _).append (aC.take _)).append (f.drop _)
 have V:a7 B I (w.setRow b cur) H':=by
  refine Y.fE hu c (λk K A=>setRow_other w b k cur (λe=>A wy)) (λ_ _ x=>.inl x) ⟨gS,cur,setRow_heap w b L cur tb (0,0) s,z.bs c,M⟩ (λk K=>.inl K)
 exact dt.e3 (R:=λv w'=>bV B I w'/\Ext B I w I w'/\a7 B I w' H'/\Rel I w' (.i m) v) (E:=λ_ _=>False) cf (v:=.int .i64 (m:Nat)) (w':=w.setRow b cur) (by simp[execOp,h,resolve,invoke,builtin,bH]) ⟨W,D,V,.val _⟩
def ir.copy{x y}{t A}{k b j q J s tb}{cs c}{H':G->Value->aA}{g1}(g:G)(m)[ht:eC P t k](h:o.op= .call {callee:=.builtin .copy,args:=#[x,y],argTypes:=#[t,A]})
  (z:aN ρ x=some (g1,.val (.slice (some ⟨b,j,none⟩) q J))) (l:g1=true) (hy:qS H ρ o y k s c) (F:dB c) (hm:min s q=m) (hfit:j+m*k<=cs.length)
  (hu:∀v,bG H (.au b tb cs) (.au b tb (cs.take j++c.take (m*k)++cs.drop (j+m*k))) (H' g v)):ir P H H' ρ o (.i m):=λB I w r a E C B=>
 (My h z l hy (Mx F) hm hfit (hu (.int .i64 m)) E C B).mono (λv L ⟨D,a2,a3,a4⟩=>⟨I,g,D,a2,(by have e:=bX a4;rw[e];exact a3),a4⟩) λ_ _ h=>h
section
variable{c:Ctx}{r:Option Nat}{ops:Array Oper}{l rest:cc}{env:List (Nat×ab)}{Q:Exit->Act->World->Prop}{d:Nat}
def aj.WA{x y}{t G}{k b j s R z tb}{cs f}{H'}{g1}(m)[ht:eC P t k](q:o.guard=none)(N:o.dst=some d)(hn:Nat.blt d c.n)(h:o.op= .call {callee:=.builtin .copy,args:=#[x,y],argTypes:=#[t,G]})
  (C:aN (aD env) x=some (g1,.val (.slice (some ⟨b,j,none⟩) s R))) (l:g1=true) (hy:qS H (aD env) o y k z f) (O:dB (f.take (m*k))) (hm:min z s=m) (hfit:j+m*k<=cs.length)
  (hu:bG H (.au b tb cs) (.au b tb (cs.take j++f.take (m*k)++cs.drop (j+m*k))) H') (next:aj c r P ops rest ⟨(d,.i m)::env,H'⟩ Q):aj c r P ops (o::rest) ⟨env,H⟩ Q:=by
 intro a w sat;refine wpListIn_plain q λK J=>?_;obtain⟨I,F,T,L,A⟩:=sat.mem;have:=My (P:=P) (r:=r) (a:=a) h C l hy O hm hfit hu F L (A.ops o);refine this K Q ?_ λ_ _ h=>h.elim;rintro v U ⟨M,B,E,D⟩;refine J _ _ (next _ _ ⟨yh,yf,I,M,T.trans B,E,?_⟩);have:=(A.bs B.keeps).put (dst:=some d) (by rw[sat.size];exact hn) D;rw[N];exact this
def aj.WB{x y}{t A}{k b g q B s tb}{cs a}{H'}{g1}(m)[ht:eC P t k](j:o.guard=none)(w:o.dst=some d)(hn:Nat.blt d c.n)(h:o.op= .call {callee:=.builtin .copy,args:=#[x,y],argTypes:=#[t,A]})
  (v:aN (aD env) x=some (g1,.val (.slice (some ⟨b,g,none⟩) q B))) (l:g1=true) (hy:qS H (aD env) o y k s a) (z:dB a) (hm:min s q=m) (hfit:g+m*k<=cs.length)
  (hu:bG H (.au b tb cs) (.au b tb (cs.take g++a.take (m*k)++cs.drop (g+m*k))) H') (next:aj c r P ops rest ⟨(d,.i m)::env,H'⟩ Q):aj c r P ops (o::rest) ⟨env,H⟩ Q:=.WA m j w hn h v l hy (Mx z) hm hfit hu next
end
end
def Gu(P:Program)(t:TypeId):Bool:=match P.underlying t with
 | some (.interface _)=>false
 | some _=>(match P.info? t with | some i=>i.zero.isSome | none=>false)
 | none=>false
class zl (P:Program) (t:Nat):Prop where h:Gu P t=true
def Gv{P}{t}(h:Gu P t):∃d i z,P.underlying t=some d/\(∀l,d≠ .interface l)/\P.info? t=some i/\i.zero=some z:=by
 unfold Gu at h;split at h
 ·cases h
 ·rename_i d a c;split at h
  ·rename_i i g;obtain⟨z,f⟩:=Option.isSome_iff_exists.1 h;exact⟨d,i,z,c,λl e=>a l (by rw[<-e]),g,f⟩
  ·cases h
 ·cases h
section
variable{P:Program}{H:aA}{ρ:Nat->Option ab}{o:Oper}
def ad.T9{x}{r t}{y}{g}[A:zl P t](h:o.op= .typeAssert x r t true)(c:aN ρ x=some (g,.iface t y))(s:g=true):ad P H ρ o (.bk [y,.b true]):=by
 obtain⟨d,i,z,B,q,D,C⟩:=Gv A.h;refine .same cf λI w f l=>?_;have a:=l.get cb c s;generalize m:f.eval x=u at a;cases a with
 | iface _ _ v j=>
  refine⟨.tuple #[v,.bool true],?_,.bk _ _ (.cons _ _ _ _ j (.cons _ _ _ _ (.val _) .nil))⟩;cases d <;> first | (exact absurd rfl (q _)) | simp[execOp,h,m,Instr.typeAssert,run_underlying B]
def ad.Ua{x}{A t c}{y}{g}[E:zl P t](h:o.op= .typeAssert x A t true)(m:aN ρ x=some (g,.iface c y))(C:g=true)(j:Nat.beq c t=false):ad P H ρ o (.bk [.any,.b false]):=by
 obtain⟨d,i,z,F,s,G,B⟩:=Gv E.h;have D:c≠t:=λe=>by subst e;simp at j
 refine .same cf λI w f q=>?_;have l:=q.get cb m C;generalize r:f.eval x=u at l;have a:(zeroValue t).run P w= .ok z w:=by simp[zeroValue,typeInfo,G,B]
 cases l with
 | iface _ _ v I=>
  refine⟨.tuple #[z,.bool false],?_,.bk _ _ (.cons _ _ _ _ (.any _) (.cons _ _ _ _ (.val _) .nil))⟩;cases d <;> first | (exact absurd rfl (s _)) | simp[execOp,h,r,Instr.typeAssert,run_underlying F,D,a]
def ad.Ub{x}{q t}{g}[v:zl P t](h:o.op= .typeAssert x q t true)(c:aN ρ x=some (g,.val .nilIface))(s:g=true):ad P H ρ o (.bk [.any,.b false]):=by
 obtain⟨d,i,z,A,m,B,r⟩:=Gv v.h;refine .same cf λI w f j=>?_;have l:=bX (j.get cb c s);have a:(zeroValue t).run P w= .ok z w:=by simp[zeroValue,typeInfo,B,r]
 refine⟨.tuple #[z,.bool false],?_,.bk _ _ (.cons _ _ _ _ (.any _) (.cons _ _ _ _ (.val _) .nil))⟩;cases d <;> first | (exact absurd rfl (m _)) | simp[execOp,h,l,Instr.typeAssert,run_underlying A,a]
end
abbrev dW(b:Nat)(l:List (Int×ab)):bn:=.map b (l.map λp=>(.int .i64 p.1,p.2))
def fV(k:Int):Prop:=-9223372036854775808<=k/\k<=9223372036854775807
structure lx(l:List (Int×ab)):Prop where
 small:∀p∈l,fV p.1
 nodup:(l.map (·.1)).Nodup
def hz:List (Int×ab)->Int->Option ab
 | [],_=>none
 | p::r,k=>if p.1=k then some p.2 else hz r k
def eP:List (Int×ab)->Int->ab->List (Int×ab)
 | [],k,v=>[(k,v)]
 | p::r,k,v=>if p.1=k then (k,v)::r else p::eP r k v
theorem zm:∀(l:List (Int×ab)) (k:Int) (v:ab) (c:Int),hz (eP l k v) c=if c=k then some v else hz l c
 | [],k,v,c=>by
  simp[eP,hz];by_cases h:k=c
  ·rw[if_pos h,if_pos h.symm]
  ·rw[if_neg h,if_neg (λe=>h e.symm)]
 | p::r,k,v,c=>by
  by_cases h:p.1=k
  ·simp[eP,if_pos h,hz];by_cases a:c=k
   ·rw[if_pos a.symm,if_pos a]
   ·rw[if_neg (λe=>a e.symm),if_neg a,if_neg (λe=>a (by rw[<-e,h]))]
  ·simp[eP,if_neg h,hz,zm r k v c];by_cases a:p.1=c
   ·rw[if_pos a,if_pos a,if_neg (λe=>h (a.trans e))]
   ·rw[if_neg a,if_neg a]
theorem Gw:∀(l:List (Int×ab)) (k:Int) (v:ab),(eP l k v).map (·.1)=if k∈l.map (·.1) then l.map (·.1) else l.map (·.1)++[k]
 | [],k,v=>by simp[eP]
 | p::r,k,v=>by
  by_cases h:p.1=k
  ·simp[eP,h]
  ·have c:=Gw r k v;simp only[eP,if_neg h,List.map_cons,c];by_cases a:k∈r.map (·.1)
   ·rw[if_pos a,if_pos (List.mem_cons_of_mem _ a)]
   ·rw[if_neg a,if_neg (by simp only[List.mem_cons,not_or];exact⟨λe=>h e.symm,a⟩)];rfl
def lx.nil:lx []:=⟨λp a=>(by cases a),aS⟩
def lx.put{l}(h:lx l){k}(o:fV k)(v):lx (eP l k v):=by
 refine⟨λp j=>?_,?_⟩
 ·have a:p.1∈(eP l k v).map (·.1):=List.mem_map_of_mem j;rw[Gw] at a;have c:∀x∈l.map (·.1),fV x:=λx g=>by
   obtain⟨q,m,rfl⟩:=List.mem_map.1 g;exact h.small q m
  split at a
  ·exact c _ a
  ·rcases List.mem_append.1 a with a | a
   ·exact c _ a
   ·simp at a;rw[a];exact o
 ·rw[Gw];split
  ·exact h.nodup
  ·rename_i r;refine List.nodup_append.2 ⟨h.nodup,aS,λa s b f=>?_⟩;simp at f;subst f;exact λe=>r (e▸s)
theorem Gx:∀(l:List (Int×ab)) (k:Int) (v:ab),(∀p∈l,p.1≠k)->eP l k v=l++[(k,v)]
 | [],k,v,_=>rfl
 | p::r,k,v,h=>by rw[eP,if_neg (h p (.head _)),Gx r k v (λq a=>h q (.tail _ a))];rfl
theorem Gy:∀(l:List (Int×ab)) (k:Int),(∀p∈l,p.1≠k)->hz l k=none
 | [],k,_=>rfl
 | p::r,k,h=>by rw[hz,if_neg (h p (.head _)),Gy r k (λq a=>h q (.tail _ a))]
theorem Cs:∀(l:List (Int×ab)) (k:Int) (v:ab) (j:Nat) (u:ab),(l.map (·.1)).Nodup->l[j]? =some (k,u)->eP l k v=l.set j (k,v)/\hz l k=some u
 | [],k,v,j,u,_,h=>by simp at h
 | p::r,k,v,0,u,c,h=>by
  simp at h;subst h;simp[eP,hz]
 | p::r,k,v,j+1,u,c,h=>by
  have f:r[j]? =some (k,u):=by simpa using h
  have a:p.1≠k:=by
   rw[List.map_cons,List.nodup_cons] at c;intro e;exact c.1 (by rw[e];exact List.mem_map.2 ⟨(k,u),List.mem_of_getElem? f,rfl⟩)
  obtain⟨m,g⟩:=Cs r k v j u (by rw[List.map_cons,List.nodup_cons] at c;exact c.2) f;rw[eP,hz,if_neg a,if_neg a,m,g];exact⟨rfl,rfl⟩
class qT (P:Program) (t:Nat) (x:outParam (Nat×Nat)):Prop where
 h:P.underlying t=some (.map x.1 x.2)
 int:P.underlying x.1=some (.int .i64)
class uU (P:Program) (t:Nat) (z:outParam Value):Prop where
 h:((P.info? t).bind (·.zero))=some z
theorem Mz{I}{w}:∀{c:bl} {a:dg},bQ I w c a->∀{x:ab} {v:Value},Rel I w x v->∀{j:Nat},bQ I w (c.set j x) (a.set j v)
 | _,_,.nil,x,v,h,j=>.nil
 | _,_,.cons m l c a g f,x,v,h,0=>.cons _ _ _ _ h f
 | _,_,.cons m l c a g f,x,v,h,j+1=>.cons _ _ _ _ g (Mz f h)
def w5{P}{k}(a:P.underlying k=some (.int .i64)){n}(hn:fV n):ev P k (.int .i64 n):=by
 refine⟨.int .i64 n,?_⟩;have:(Go.Lit.int .i64 n).wf=true:=by
  simp only[Go.Lit.wf];rw[Bool.and_eq_true,decide_eq_true_eq,decide_eq_true_eq];exact hn
 simp[keyOf,a,mapKey,this]
section
variable{P:Program}{H:aA}{ρ:Nat->Option ab}{o:Oper}
def Gz{t}{z}(h:((P.info? t).bind (·.zero))=some z)(w):(zeroValue t).run P w= .ok z w:=by
 cases aQ:P.info? t with
 | none=>simp[aQ] at h
 | some a=>simp[aQ] at h;simp[zeroValue,typeInfo,aQ,h]
def ad.tm{t}{x W}{b}{ke}{l}{k}{g1 V}{zv}[E:qT P t ke][hZ:uU P ke.2 zv](h:o.op= .lookup t x W false)
  (Z:aN ρ x=some (g1,.val (.map (some b)))) (L:g1=true) (bD:aN ρ W=some (V,.i k)) (S:V=true) (hm:dW b l∈H) (X:lx l) (J:fV k):ad P H ρ o ((hz l k).getD (.val zv)):=by
 intro B I w r a m5 Y Q b6 U;have C:=bX (U.get cb Z L);have F:=bX (U.get cb bD S);obtain⟨gS,⟨cq,dr,a8,c,z⟩,a0⟩:=Q.ok _ (b6 _ hm);have K:=Go.Maps.int_keyed E.int;obtain⟨r2,G⟩:=w5 E.int J;have D:∀e∈cq.toList,∃l,keyOf P ke.1 e.key=some l:=λe he=>by
  have:e.key∈(l.map λp=>((.int .i64 p.1,p.2):Value×ab)).map (·.1):=by rw[<-c];exact List.mem_map_of_mem he
  rw[List.map_map] at this;obtain⟨p,s,T⟩:=List.mem_map.1 this;rw[<-T];exact w5 E.int (X.small p s)
 have m:=K.check w cq.isEmpty G;have q:(getObj b).run P w= .ok (.map cq dr) w:=by simp[getObj,Sem.run,a8]
 rcases K.find w G cq.toList D with⟨b8,hv⟩ | ⟨j,e,b8,cm,jG⟩
 ·have aH:=Gz hZ.h w;have g:(execOp a.eval o).run P w= .ok (.value zv) w:=by
   simp[execOp,h,Instr.lookup,run_underlying E.h,C,F,q,m,b8,aH]
  have aw:hz l k=none:=Gy l k λp s e=>by
   have:(.int .i64 p.1)∈cq.toList.map (·.key):=by rw[c,List.map_map];exact List.mem_map.2 ⟨p,s,rfl⟩
   obtain⟨e',M,N⟩:=List.mem_map.1 this;exact hv e' M (by rw[N,e])
  refine .e3 cf g ⟨I,Y,.refl _ _ _,Q,?_⟩;rw[aw];exact .val _
 ·have g:(execOp a.eval o).run P w= .ok (.value e.val) w:=by
   simp[execOp,h,Instr.lookup,run_underlying E.h,C,F,q,m,b8]
  obtain⟨u,f,R⟩:=wR z (i:=j) (v:=e.val) (by rw[List.getElem?_map,cm];rfl);have O:l[j]? =some (k,u):=by
   rw[List.map_map,List.getElem?_map] at f;cases s:l[j]? with
   | none=>rw[s] at f;cases f
   | some p=>
    rw[s] at f;have A:((l.map λp=>((.int .i64 p.1,p.2):Value×ab)).map (·.1))[j]? =some e.key:=by rw[<-c,List.getElem?_map,cm];rfl
    rw[List.map_map,List.getElem?_map,s] at A;simp at f A;rw[jG] at A;simp at A;rw[show p=(k,u) from Prod.ext A f]
  refine .e3 cf g ⟨I,Y,.refl _ _ _,Q,?_⟩;rw[(Cs l k .any j u X.nodup O).2];exact R
def WC{t}{x kx z}{b}{ke}{l}{k}{u u'}{g1 g2 g3}{H'}[da:qT P t ke](h:o.op= .mapUpdate t x kx z\/o.op= .insert t x kx z)
  (aK:aN ρ x=some (g1,.val (.map (some b)))) (gF:g1=true) (bD:aN ρ kx=some (g2,.i k)) (dV:g2=true) (aH:aN ρ z=some (g3,u)) (qz:g3=true) (fw:an u u')
  (hu:bG H (dW b l) (dW b (eP l k u')) H') (br:lx l) (a5:fV k):qH P H H' ρ o:=by
 intro B I w r a hw aU bb;have C:x∈o.op.operands/\kx∈o.op.operands/\z∈o.op.operands:=by rcases h with h | h <;> simp[h,Op.operands]
 have gE:∀c,o.op≠ .defer c:=by rcases h with h | h <;> simp[h]
 have a3:=bX (bb.get C.1 aK gF);have a2:=bX (bb.get C.2.1 bD dV);have W:=fw _ _ _ (bb.get C.2.2 aH qz);obtain⟨gS,⟨cq,dr,a8,D,E⟩,F⟩:=aU.ok _ hu.mem;have K:=Go.Maps.int_keyed da.int;obtain⟨r2,R⟩:=w5 da.int a5;have bF:∀e∈cq.toList,∃l,keyOf P ke.1 e.key=some l:=λe he=>by
  have:e.key∈(l.map λp=>((.int .i64 p.1,p.2):Value×ab)).map (·.1):=by rw[<-D];exact List.mem_map_of_mem he
  rw[List.map_map] at this;obtain⟨p,S,qy⟩:=List.mem_map.1 this;rw[<-qy];exact w5 da.int (br.small p S)
 have J:=K.check w false R;have L:(getObj b).run P w= .ok (.map cq dr) w:=by simp[getObj,Sem.run,a8]
 have N:∀o':Obj,(setObj b o').run P w= .ok () (w.putObj b o'):=λo'=>by simp[setObj,Sem.run,a8,World.putObj]
 have a9:b<w.heap.size:=(Array.getElem?_eq_some_iff.1 a8).1;have a4:∀(q:Array MapEntry) (G:Nat),q.toList.map (·.key)=(eP l k u').map (λp=>.int .i64 p.1)->bQ I w ((eP l k u').map (·.2)) (q.toList.map (·.val))->
   (execOp a.eval o).run P w= .ok .skip (w.putObj b (.map q G))->dt P r o a w (λv w'=>∃c3,bV B c3 w'/\Ext B I w c3 w'/\a7 B c3 w' H') (λ_ _=>False):=by
  intro q G ae Q Y;have a0:er I w I (w.putObj b (.map q G)):=pH (B:=B) F;refine .uw gE Y ⟨I,hw.putObj F,.putObj gS F,(aU.fE hu a0 (λdI _ T=>World.putObj_heap_other (λe=>T (by rw[e];rfl))) (λ_ _ x=>.inl x) ⟨gS,⟨q,G,World.putObj_heap_same a9,?_,?_⟩,F⟩ λ_ a8=>.inl a8)⟩
  ·rw[ae,List.map_map];rfl
  ·rw[List.map_map];exact Q.bs a0
 have g:cq.toList.map (·.key)=l.map λp=>.int .i64 p.1:=by rw[D,List.map_map];rfl
 have m:bQ I w (l.map (·.2)) (cq.toList.map (·.val)):=by rw[List.map_map] at E;exact E
 rcases K.find w R cq.toList bF with⟨b8,T⟩ | ⟨j,e,b8,cm,jG⟩
 ·have O:∀p∈l,p.1≠k:=λp S e=>by
   have:(.int .i64 p.1)∈cq.toList.map (·.key):=by rw[g];exact List.mem_map.2 ⟨p,S,rfl⟩
   obtain⟨e',ac,hN⟩:=List.mem_map.1 this;exact T e' ac (by rw[hN,e])
  refine a4 (cq.push {key:=.int .i64 k,val:=a.eval z,born:=dr}) (dr+1) ?_ ?_ ?_
  ·rw[Gx l k u' O];simp[g]
  ·rw[Gx l k u' O];simp[Array.toList_push,List.map_append,List.map_cons,List.map_nil];exact m.append (.cons _ _ _ _ W .nil)
  ·rcases h with h | h <;> simp[execOp,h,Instr.mapUpdate,run_underlying da.h,a3,a2,L,J,b8,N]
 ·have Z:cq[j]? =some e:=by simpa using cm
  have V:=K.stays w R;obtain⟨GA,s,ah⟩:=wR m (i:=j) (v:=e.val) (by rw[List.getElem?_map,cm];rfl);have im:l[j]? =some (k,GA):=by
   rw[List.getElem?_map] at s;cases S:l[j]? with
   | none=>rw[S] at s;cases s
   | some p=>
    rw[S] at s;have Q:(l.map λp=>.int .i64 p.1)[j]? =some e.key:=by rw[<-g,List.getElem?_map,cm];rfl
    rw[List.getElem?_map,S] at Q;simp at s Q;rw[jG] at Q;simp at Q;rw[show p=(k,GA) from Prod.ext Q s]
  have A:=(Cs l k u' j GA br.nodup im).1;have M:(cq.modify j λe=>{e with key:=.int .i64 k,val:=a.eval z}).toList=cq.toList.set j {e with key:=.int .i64 k,val:=a.eval z}:=by
   apply List.ext_getElem?;intro i;rw[Array.getElem?_toList,Array.getElem?_modify,List.getElem?_set];by_cases U:j=i
   ·subst U;rw[if_pos rfl,if_pos rfl,Z,if_pos (by have:=(List.getElem?_eq_some_iff.1 cm).1;exact this)];rfl
   ·rw[if_neg U,if_neg U];simp
  refine a4 (cq.modify j λe=>{e with key:=.int .i64 k,val:=a.eval z}) dr ?_ ?_ ?_
  ·rw[M,A,List.map_set,List.map_set,g]
  ·rw[M,A,List.map_set,List.map_set];exact Mz m W
  ·rcases h with h | h <;> simp[execOp,h,Instr.mapUpdate,run_underlying da.h,a3,a2,L,J,b8,N,Z,jG,V]
end
section
variable{c:Ctx}{r:Option Nat}{P:Program}{ops:Array Oper}{l rest:cc}{env:List (Nat×ab)}{H:aA}{Q:Exit->Act->World->Prop}{d:Nat}{o:Oper}
def aj.iu{t}{x m z}{b}{ke}{l}{k}{u u'}{g1 D E}{H'}[da:qT P t ke](q:o.guard=none)(W:o.dst=none)(h:o.op= .mapUpdate t x m z\/o.op= .insert t x m z)
  (L:aN (aD env) x=some (g1,.val (.map (some b)))) (j:g1=true) (M:aN (aD env) m=some (D,.i k)) (A:D=true) (R:aN (aD env) z=some (E,u)) (C:E=true) (g:an u u')
  (hu:bG H (dW b l) (dW b (eP l k u')) H') (X:lx l) (f:fV k) (next:aj c r P ops rest ⟨env,H'⟩ Q):aj c r P ops (o::rest) ⟨env,H⟩ Q:=by
 intro a w s;refine wpListIn_plain q λK S=>?_;obtain⟨I,O,Z,T,F⟩:=s.mem;refine (WC h L j M A R C g hu X f) c.B I w r a O T (F.ops o) K Q ?_ λ_ _ h=>h.elim;rintro v w' ⟨V,U,J,N⟩;refine S _ _ ?_;rw[W];exact next _ _ ⟨s.ds,s.size,V,U,Z.trans J,N,F.bs J.keeps⟩
end
section
variable{P:Program}{H:aA}{ρ:Nat->Option ab}{o:Oper}{X:ni}
def ed.own{q}{s z}{t tx e k f N}{els news}{v}{y}{g1 A}{H'}{x}[O:fF P t (e,k,f)][R:eC P tx N]
  (h:o.op= .call {callee:=.builtin .append,args:=#[s,z],argTypes:=#[t,tx]}) (F:aN ρ s=some (g1,q)) (g:g1=true) (l:an q (.as (.ai k els) v)) (J:aN ρ z=some (A,y)) (j:A=true) (hy:an y (.ai k news))
  (G:news.all dB=true) (K:(els.length+news.length)*f<=140737488355328) (m:els.length+news.length<=9223372036854775807) (hu:∀c,bG H (.own e k v) (.own e k c) (H' c)) (aK:∀c,x c= .as (.ai k (els++news)) c):ed X P H H' x ρ o:=λB I w r a L D C=>
 (Lz h F g l J j hy G hu K m L D C).mono (λv Q ⟨E,bF,a2,a3,a4⟩=>⟨E,bF,a2,a3,by rw[aK];exact a4⟩) λ_ _ h=>h.elim
def ed.uS{t e q}{n k}{l}{s}{ys}{els}{H'}{x}[J:fF P t (e,k,q)][hR:jY P t (k,s)](h:o.op= .buildSlice t n l)
  (hy:jg ρ (l.toList.map (·.2))=some ys) (D:ys.all (·.1)=true) (g:(partsOf l.toList ys).map (λx=>cG x.2)=els) (c:Nat.beq els.length n) (z:els.all (λe=>Nat.beq e.length k)=true)
  (m:Nat.ble (n*k) 16777216) (f:Nat.blt 0 (n*k))
  (E:nS (λi=>some (i*k,k)) ((mv n k s).map .val) (partsOf l.toList ys)=some els.flatten) (hu:∀j,H' j= .own e k j::H) (aK:∀j,x j= .as (.ai k els) j):ed X P H H' x ρ o:=λB I w r a F B A=>
 (Mm h hy D g c z m f E F B A).mono (λv K ⟨C,bF,a2,a3,a4⟩=>⟨C,bF,a2,by rw[hu];exact a3,by rw[aK];exact a4⟩) λ_ _ h=>h.elim
def ad.WD{env}(d){u u' z}(s:aD env d=some u)(j:an u u')(h:ad P H (aD ((d,u')::env)) o z):ad P H (aD env) o z:=λB I w r a q hw m v g=>
 h B I w r a q hw m v (λx aK y hy=>by
  cases x with
  | tmp t=>
   simp[iL] at hy;rw[kU] at hy;split at hy
   ·rename_i e;cases hy;subst e;exact j _ _ _ (g _ aK _ s)
   ·exact g _ aK _ hy
  | _=>exact g _ aK y hy)
end
def bG.WE{H H'}{e e'}(h:bG H e e' H'):e=e'->H'=H:=by
 induction h with
 | head e e' H=>intro j;rw[j]
 | tail f a b H H' _ l=>intro j;rw[l j]
def bG.same{H H'}{e}(h:bG H e e H'):H'=H:=h.WE rfl
section
variable{c:Ctx}{r:Option Nat}{P:Program}{ops:Array Oper}{l rest:cc}{env:List (Nat×ab)}{H:aA}{Q:Exit->Act->World->Prop}{d:Nat}{o:Oper}
def aj.MA{s z}{t e k q n}{cs}(news){v}{y:ab}{g1 W:Bool}{H':Value->aA}[dZ:fF P t (e,k,q)](A:o.guard=none)(a6:o.dst=some d)(hn:Nat.blt d c.n)
  (h:o.op= .call {callee:=.builtin .append,args:=#[s,z],argTypes:=#[t,t]}) (b6:aN (aD env) s=some (g1,.val v)) (j:g1=true) (X:aN (aD env) z=some (W,y)) (C:W=true) (hy:an y (.ai k news))
  (ae:news.all dB=true) (hu:∀D,bG H (.row e k v n cs) (.row e k D (n+news.length) (cs++news.flatten)) (H' D)) (a8:(n+news.length)*q<=140737488355328) (N:n+news.length<=9223372036854775807)
  (next:∀D,aj c r P ops rest ⟨(d,.val D)::env,H' D⟩ Q):aj c r P ops (o::rest) ⟨env,H⟩ Q:=by
 cases news with
 | cons a r=>exact .Cd A a6 hn h b6 j X C hy aS ae hu a8 N next
 | nil=>
  intro a w sat;refine wpListIn_plain A λK eX=>?_;obtain⟨I,hw,he,aU,O⟩:=sat.mem;obtain⟨i,zv,B,aQ,a3,M,a0,bF,a2⟩:=oN dZ.h;have l:=bX ((O.ops o).get gB b6 j);have T:=hy _ _ _ ((O.ops o).get gB X C);obtain⟨us,aC,Z⟩:=uD (P:=P) (tx:=t) B T ae;have L:us= []:=by cases aC;rfl
  subst L;rw[<-M] at Z;obtain⟨xs,f,_,_⟩:=aU.ok _ (hu v).mem;obtain⟨S,m,F,G,J⟩:∃S m F,v= .slice S m F/\m<=F:=by
   rcases f.2 with⟨rfl,_⟩ | ⟨g,cap,cur,rfl,_,_,a1,_⟩
   ·exact⟨_,_,_,rfl,Nat.le_refl _⟩
   ·exact⟨_,_,_,rfl,a1⟩
  have Y:=run_append_nothing (P:=P) w t t o.type e i B aQ S m F J (a.eval z) Z;rw[<-G, <-l] at Y;have iM:H' v=H:=by
   have:=hu v;simp[List.length_nil,Nat.add_zero,List.flatten_nil,List.append_nil] at this;exact this.same
  refine dt.e3 (R:=λx V=>x=a.eval s/\V=w) (E:=λ_ _=>False) cf (pD h a w Y) ⟨rfl,rfl⟩ K Q ?_ λ_ _ h=>h.elim;rintro x V ⟨rfl,rfl⟩;refine eX _ _ (next v _ _ ⟨yh,yf,I,hw,he,by rw[iM];exact aU,?_⟩);rw[l];have:=O.put (dst:=some d) (x:=.val v) (v:=v) (by rw[sat.size];exact hn) (.val _);rw[a6];exact this
end
section
variable{c:Ctx}{r:Option Nat}{P:Program}{ops:Array Oper}{l rest:cc}{o:Oper}{st:dU}{Q:Exit->Act->World->Prop}{x:ab}
end
section
variable{c:Ctx}{r:Option Nat}{P:Program}{ops:Array Oper}{rest:cc}{o:Oper}{env:List (Nat×ab)}{H:aA}{Q:Exit->Act->World->Prop}{d:Nat}
def WG(k):an (.val (.slice none 0 0)) (.as (.ai k []) (.slice none 0 0)):=λI w v h=>by
 cases h;exact .as _ _ (.dQ _ _ _)
def aj.WH{s z}{t tx e k l R}{news}{y}{g1 F}[T:fF P t (e,k,l)][U:eC P tx R](x:o.guard=none)(G:o.dst=some d)(hn:Nat.blt d c.n)
  (h:o.op= .call {callee:=.builtin .append,args:=#[s,z],argTypes:=#[t,tx]}) (K:aN (aD env) s=some (g1,.val (.slice none 0 0))) (A:g1=true) (M:aN (aD env) z=some (F,y)) (B:F=true) (hy:an y (.ai k news))
  (L:news.all dB=true) (C:news.length*l<=140737488355328) (D:news.length<=9223372036854775807)
  (next:∀ez,aj c r P ops rest ⟨(d,.as (.ai k news) ez)::env,.own e k ez::H⟩ Q):aj c r P ops (o::rest) ⟨env,H⟩ Q:=by
 intro a w g;obtain⟨I,O,S,E,J⟩:=g.mem;have j:Sat c ⟨env,.own e k (.slice none 0 0)::H⟩ a w:=⟨g.ds,g.size,I,O,S,⟨λf q=>by
  rcases List.mem_cons.1 q with rfl | q
  ·exact⟨0,[],World.ownsRow_nil _ _ _ _,λg N=>by simp[Value.ownBlock] at N⟩
  ·exact E.ok f q,List.pairwise_cons.2 ⟨λf q b C=>by simp[bn.dY,Value.ownBlock] at C,E.apart⟩⟩,J⟩
 refine aj.LB (els:=[]) (v:=.slice none 0 0) (H':=λez=>.own e k ez::H) x (gH G hn) h K A (WG k) M B hy L (λez=>.head _ _ _) (by simpa using C) (by simpa using D) (λez=>?_) a w j;rw[G];exact next ez
end
end Go.Eng

