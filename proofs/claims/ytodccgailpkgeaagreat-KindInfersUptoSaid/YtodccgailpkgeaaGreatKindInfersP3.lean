/- A part of the proof. No condition. -/
import Derived.Test.YtodccgailpkgeaaGreatKindInfersP2
import Derived.Laws.Cover3
set_option linter.defProp false
set_option maxHeartbeats 1000000
set_option linter.unusedVariables false
set_option linter.unusedSimpArgs false
namespace Go.Eng
open Go.RowKit (Below)
def oQ{α:Type}(B:Nat)(P:Program)(g:ab)(enc:α->ab)(L:List α)(F:aA->Prop)(J Jx:List α->aA->Prop):Prop:=
 ∀pre x H Hx,pre++[x]<+:L->F Hx->J pre H->eY B P g [enc x] (H++Hx) (λy H'=>∃b H1,y= .b b/\H'=H1++Hx/\(b=true->J (pre++[x]) H1)/\(b=false->Jx (pre++[x]) H1)) (λ_ _=>False)
def yC{α:Type}(B:Nat)(P:Program)(rV:ab)(enc:α->ab)(L:List α):Prop:=
 ∀(J Jx:List α->aA->Prop) (f:Fn) (cz cs:bl),oQ B P (.fn f cz cs) enc L (λ_=>True) J Jx->∀H Hx,J [] H->
  eY B P rV [.fn f cz cs] (H++Hx) (λ_ H'=>∃H1,H'=H1++Hx/\(J L H1\/∃pre,pre<+:L/\Jx pre H1)) (λ_ _=>False)
def a7.newObj{B}{I}{w}{H}(h:a7 B I w H)(a:bV B I w)(o):a7 B I (w.alloc o) (.obj w.heap.size o::H):=by
 have j:=h.alloc a o;refine⟨λe c=>?_,List.pairwise_cons.2 ⟨λf m b g=>?_,j.apart⟩⟩
 ·rcases List.mem_cons.1 c with rfl | c
  ·exact⟨a.base,World.alloc_heap_new w o,λo' l=>absurd (a.lt l) (Nat.lt_irrefl _)⟩
  ·exact j.ok e c
 ·simp[bn.dY] at g;subst g;intro e;exact absurd (bn.lO (h.ok f m) e).2 (Nat.lt_irrefl _)
def pH{B:Nat}{I}{w}{b}{o'}(c:∀o,¬I b o):er I w I (w.putObj b o'):=
 ⟨λ_ _ x=>x,λdI o x=>World.cell?_of_block (a:=⟨dI,o,none⟩) (World.putObj_heap_other (λe=>c o (e▸x)))⟩
def bV.putObj{B}{I}{w}(h:bV B I w){b}{o'}(a:∀o,¬I b o):bV B I (w.putObj b o'):=
 ⟨by simpa using h.base,λdI o x=>by rw[(pH (B:=B) (o':=o') a).cell dI o x];exact h.there dI o x⟩
def U2{B b}{w}{o}(h:B<=b):Below B w (w.putObj b o):=
 ⟨rfl,rfl,rfl,aS,λj a=>World.putObj_heap_other aa⟩
def a7.uH{B}{I}{w}{H H'}{b}{g lp'}{ρ}(h:a7 B I w H)(hu:bG H (.loop b g ρ) (.loop b lp' ρ) H')(ht:lp'.tmps=g.tmps):a7 B I (w.putObj b (.loop lp')) H':=by
 obtain⟨m,q,o,a⟩:=h.ok _ hu.mem;refine h.fE hu (pH (B:=B) a) (λk f c=>World.putObj_heap_other (λe=>c (by rw[e];rfl))) (λ_ _ x=>.inl x) ⟨m,World.putObj_heap_same (Array.getElem?_eq_some_iff.1 q).1,λt x l=>?_,a⟩ λk f=>.inl f;rw[ht];exact (o t x l).bs (pH (B:=B) a)
def a7.LD{B}{I}{w}{H}(h:a7 B I w H)(c:bV B I w)(a)(ρ)(g:∀t x,ρ t=some x->Rel I w x (a.tmps.getD t undef)):a7 B I (w.alloc (.loop a)) (.loop w.heap.size a ρ::H):=by
 have m:=h.alloc c (.loop a);refine⟨λe j=>?_,List.pairwise_cons.2 ⟨λf q b l=>?_,m.apart⟩⟩
 ·rcases List.mem_cons.1 j with rfl | j
  ·exact⟨c.base,World.alloc_heap_new w _,λt x o=>(g t x o).bs (lP c _),λo' r=>absurd (c.lt r) (Nat.lt_irrefl _)⟩
  ·exact m.ok e j
 ·simp[bn.dY] at l;subst l;intro e;exact absurd (bn.lO (h.ok f q) e).2 (Nat.lt_irrefl _)
def Ext.putObj{B}{I}{w}{b}{o'}(c:B<=b)(a:∀o,¬I b o):Ext B I w I (w.putObj b o'):=
 ⟨λ_ _ x=>x,(pH (B:=B) a).cell,U2 c⟩
def wE{α:Type}(B:Nat)(c5:cp)(bW:World)(l D:Nat)(fD:Loop)(ρ:Nat->Option ab)(J:List α->aA->Prop)(Jx:Code->List α->aA->Prop)(pre:List α)(Hx:aA):Exit->Act->World->Prop:=λe _ w=>
 ∃I H,bV B I w/\Ext B c5 bW I w/\a7 B I w (.loop l fD ρ::.obj D (.deferred (some []))::(H++Hx))/\
  match e with
  | .normal=>J pre H
  | .ret=>Jx .ret pre H
  | .exit id=>Jx (.exit id) pre H
  | _=>False
def uI{α:Type}(B:Nat)(P:Program)(g:ab)(enc:α->ab)(L:List α)(F:aA->Prop)(J Jx:List α->aA->Prop):Prop:=
 ∀pre x H Hx,pre++[x]<+:L->F Hx->J pre H->eY B P g [enc x] (H++Hx) (λy H'=>∃b H1,y= .b b/\H'=H1++Hx/\(b=false->J (pre++[x]) H1)/\(b=true->Jx (pre++[x]) H1)) (λ_ _=>False)
def nf{α:Type}(P:Program)(iz:aA)(g:ab)(enc:α->ab)(l:List α)(p:α->Bool):Prop:=∀x∈l,∀B H,(∀e∈iz,e∈H)->eY B P g [enc x] H (λy H'=>y= .b (p x)/\H'=H) (λ_ _=>False)
def nX{α:Type}(P:Program)(g:ab)(enc:α->ab)(p:α->Bool):Prop:=∀B x H,eY B P g [enc x] H (λy H'=>y= .b (p x)/\H'=H) (λ_ _=>False)
def nX.on{a}{P}{g}{enc}{p}(h:nX P g enc p)(l:List a):nf P [] g enc l p:=λx _ B H _=>h B x H
def nf.find{A:Type}{B}{P}{E}{g}{enc:A->ab}{l:List A}{p:A->Bool}(h:nf P E g enc l p):uI B P g enc l (λHx=>∀e∈E,e∈Hx) (λpre H=>H= []/\∀x∈pre,p x=false) (λpre H=>H= []/\∃q x,pre=q++[x]/\(∀y∈q,p y=false)/\p x=true):=by
 rintro pre x H Hx D L ⟨rfl,F⟩ I w v G J N O C;have:=h x (D.subset aS) B Hx L I w v G J N O C;have m:∀e t,e4 B I w (λy o=>y= .b (p x)/\o=Hx) (λ_ _=>False) e t->e4 B I w (λy o=>∃b s,y= .b b/\o=s++Hx/\(b=false->s= []/\∀y∈pre++[x],p y=false)/\(b=true->s= []/\∃q z,pre++[x]=q++[z]/\(∀y∈q,p y=false)/\p z=true)) (λ_ _=>False) e t:=by
  rintro e t ⟨Q,o,a,b,d,M⟩;refine⟨Q,o,a,b,d,M.elim (λ⟨v,y,bM,bL,fh,oO⟩=>.inl ⟨v,y,bM,bL,p x,[],fh,by simp[oO],λa8=>⟨rfl,λy j=>?_⟩,λa8=>⟨rfl,pre,x,rfl,F,a8⟩⟩) (λ⟨_,_,_,_,h⟩=>h.elim)⟩;rcases List.mem_append.1 j with j | j
  ·exact F y j
  ·simp at j;subst j;exact a8
 exact this.elim (λ⟨f,jA,hr,e,hL,a1⟩=>.inl ⟨f,jA,hr,e,hL,a1.mono m⟩) λ⟨l,e,j⟩=>.inr ⟨l,e,j.mono m⟩
section
variable{c:Ctx}{r:Option Nat}{P:Program}{ops:Array Oper}{rest:cc}{o:Oper}{st:dU}{Q:Exit->Act->World->Prop}{x:ab}
def aZ.mx{a:Type}{B}{c}{g}{n l D}{f}{ρ}{J:List a->aA->Prop}{Jx:Code->List a->aA->Prop}{pre:List a}{H Hx}{ds}
  (j:(.loop l f ρ::.obj D (.deferred (some []))::(H++Hx)).Sublist st.H) (h:J pre H):aZ ⟨B,c,g,n,ds⟩ st .normal (wE B c g l D f ρ J Jx pre Hx):=λa w s=>
 let ⟨I,hw,he,aU,bd⟩:=s.mem;⟨I,H,hw,he,aU.sub j,h⟩
def aZ.Ft{a:Type}{B}{c}{g}{n l D}{f}{ρ}{J:List a->aA->Prop}{Jx:Code->List a->aA->Prop}{pre:List a}{H Hx}{ds}
  (j:(.loop l f ρ::.obj D (.deferred (some []))::(H++Hx)).Sublist st.H) (h:Jx .ret pre H):aZ ⟨B,c,g,n,ds⟩ st .ret (wE B c g l D f ρ J Jx pre Hx):=λa w s=>
 let ⟨I,hw,he,aU,bd⟩:=s.mem;⟨I,H,hw,he,aU.sub j,h⟩
def aZ.U3{a:Type}{B}{c}{g}{n l D id}{f}{ρ}{J:List a->aA->Prop}{Jx:Code->List a->aA->Prop}{pre:List a}{H Hx}{ds}
  (j:(.loop l f ρ::.obj D (.deferred (some []))::(H++Hx)).Sublist st.H) (h:Jx (.exit id) pre H):aZ ⟨B,c,g,n,ds⟩ st (.exit id) (wE B c g l D f ρ J Jx pre Hx):=λa w s=>
 let ⟨I,hw,he,aU,bd⟩:=s.mem;⟨I,H,hw,he,aU.sub j,h⟩
def e4.mono{B}{I}{w}{f c}{E g}{e}{w'}(h:e4 B I w f E e w')(l:∀y H,f y H->c y H)(o:∀y H,E y H->g y H):e4 B I w c g e w':=by
 obtain⟨q,m,a,b,d,j⟩:=h;exact⟨q,m,a,b,d,j.elim (λ⟨v,x,bM,bL,fh⟩=>.inl ⟨v,x,bM,bL,l _ _ fh⟩) (λ⟨v,x,bM,bL,fh⟩=>.inr ⟨v,x,bM,bL,o _ _ fh⟩)⟩
def BT.mono{v}{vs}{w}{R c}(h:BT P v vs w R)(a:∀e w,R e w->c e w):BT P v vs w c:=
 h.elim (λ⟨f,jA,hr,e,hL,a1⟩=>.inl ⟨f,jA,hr,e,hL,a1.mono a⟩) λ⟨l,e,hy⟩=>.inr ⟨l,e,hy.mono a⟩
def eY.mono{B}{g}{xs}{H}{f a}{E j}(h:eY B P g xs H f E)(m:∀y H,f y H->a y H)(o:∀y H,E y H->j y H):eY B P g xs H a j:=
 λI w v r t q s c=>(h I w v r t q s c).mono λ_ _ l=>l.mono m o
def Fu{I}{w}{env}{a}{p}{v}{y}(h:fM I w (aD env) a)(f:p<a.tmps.size)(hy:Rel I w y v)(ds):fM I w (aD ((p,y)::env)) {tmps:=a.tmps.setIfInBounds p v,defers:=ds}:=by
 intro t z c;rw[kU] at c;show Rel I w z ((a.tmps.setIfInBounds p v).getD t undef);split at c
 ·rename_i e;subst e;simp at c;subst c;simp[Array.getD,f];exact hy
 ·rename_i e;have:=h t z c;simp[Array.getD_eq_getD_getElem?] at this ⊢;rwa [Array.getElem?_setIfInBounds_ne (Ne.symm e)]
def Fv{α:Type}(B:Nat)(P:Program)(g:ab)(enc:Nat->α->ab)(own:Nat->α->aA)(L:List α)(J Jx:List α->aA->Prop):Prop:=
 ∀b pre x H Hx,pre++[x]<+:L->J pre H->eY B P g [enc b x] (H++(own b x++Hx)) (λy H'=>∃r H1,y= .b r/\H'=H1++(own b x++Hx)/\(r=true->J (pre++[x]) H1)/\(r=false->Jx (pre++[x]) H1)) (λ_ _=>False)
def BU{α:Type}(B:Nat)(P:Program)(rV:ab)(enc:Nat->α->ab)(own:Nat->α->aA)(L:List α):Prop:=
 ∀(J Jx:List α->aA->Prop) (f:Fn) (cz cs:bl),Fv B P (.fn f cz cs) enc own L J Jx->∀H Hx,J [] H->
  eY B P rV [.fn f cz cs] (H++Hx) (λ_ H'=>∃H1,H'=H1++Hx/\(J L H1\/∃pre,pre<+:L/\Jx pre H1)) (λ_ _=>False)
def aB.LF{α}{t p}{assign body}{f}{wz}(enc:Nat->α->ab)(own:Nat->α->aA)(L:List α)(J:List α->aA->Prop)(Jx:Code->List α->aA->Prop)(H Hx)(s7:Nat->α->List (Nat×ab))
  (bH:r=none) (iM:st.H=H++Hx) (aw:aD st.env t=some (.fn (.func f) [] wz)) (ck:Nat.blt p c.n) (Fw:BU c.B P (.fn (.func f) [] wz) enc own L) (eD:J [] H)
  (Fx:∀(l:Nat) (I:cp) (w:World) (k:Nat) (x:α) (eE:aA),aB ⟨c.B,I,w,c.n,[]⟩ (some l) P assign ⟨(p,enc k x)::st.env,eE⟩ (Exit.then (λa w'=>∃st',st'=(⟨s7 k x,eE⟩:dU)/\Sat ⟨c.B,I,w,c.n,[]⟩ st' a w') (λ_ _ _=>False)))
  (round:∀(l D:Nat) (fD:Loop) (pre:List α) (k:Nat) (x:α) (H1 eE:aA) (I:cp) (w:World),pre++[x]<+:L->J pre H1->
   aB ⟨c.B,I,w,c.n,[]⟩ (some l) P body ⟨s7 k x,.loop l fD (aD st.env)::.obj D (.deferred (some []))::(H1++(own k x++eE))⟩ (wE c.B I w l D fD (aD st.env) J Jx (pre++[x]) (own k x++eE)))
  (done:∀(D:Nat) (H1:aA),J L H1->aZ ⟨c.B,c.c5,c.bW,c.n,{target:=.collected D,args:=#[]}::c.ds⟩ ⟨st.env,.obj D (.deferred (some []))::(H1++Hx)⟩ .normal Q)
  (jump:∀(D:Nat) (code:Code) (pre:List α) (H1:aA),pre<+:L->Jx code pre H1->aB ⟨c.B,c.c5,c.bW,c.n,{target:=.collected D,args:=#[]}::c.ds⟩ r P code ⟨st.env,.obj D (.deferred (some []))::(H1++Hx)⟩ Q):
  aB c r P (.rangeFunc (.tmp t) #[p] assign body) st Q:=by
 intro a w s;subst bH;obtain⟨I,hw,he,aU,bd⟩:=s.mem;rw[iM] at aU;refine wpIn_rangeFunc λfn pI=>?_;obtain⟨ea,ku⟩:∃ea:Loop,ea={state:=.ready,pending:=none,fn,tmps:=a.tmps,params:=#[p],assign,body,defers:=w.heap.size}:=⟨_,rfl⟩;have yD:=bd t _ aw;generalize hu:a.tmps.getD t undef=u at yD;cases yD with
 | fn _ _ _ jA hr b8 a1=>
 have Fy:jA= #[]:=by cases jA with | mk l=>cases b8;rfl
 subst Fy;have Fz:=aU.newObj hw (.deferred (some []));have uJ:=hw.alloc (.deferred (some []));have j0:=bd.bs (lP hw (.deferred (some [])));have yE:=Fz.LD uJ ea (aD st.env) (by rw[ku];exact j0);have FA:=uJ.alloc (.loop ea);rw[World.size_alloc] at yE;have cv:Ext c.B I w I ((w.alloc (.deferred (some []))).alloc (.loop ea)):=(jB hw _).trans (jB uJ _)
 let uK:List α->aA->Prop:=λpre jD=>∃H1,J pre H1/\jD= .loop (w.heap.size+1) ea (aD st.env)::.obj w.heap.size (.deferred (some []))::(H1++Hx)
 let BV:List α->aA->Prop:=λpre jD=>∃code H1,Jx code pre H1/\jD= .loop (w.heap.size+1) {ea with state:=.done,pending:=some code} (aD st.env)::.obj w.heap.size (.deferred (some []))::(H1++Hx)
 have rW:a.tmps.size=c.n:=s.size;have FB:p<c.n:=Nat.lt_of_succ_le (by simpa [Nat.blt] using ck);have yF:Fv c.B P (.fn (.yield (w.heap.size+1)) [] []) enc own L uK BV:=by
  rintro k pre x jD eE wF ⟨H1,kr,rfl⟩ ng W v vs FC yG FD my;obtain rfl:v= .func (.yield (w.heap.size+1)) #[] #[]:=by
   cases FD with
   | fn _ _ _ jA hr b8 a1=>
    cases jA with
    | mk nY=>cases hr with
     | mk lc=>cases b8;cases a1;rfl
  cases my with
  | cons _ v1 _ U4 yc ht=>
  cases ht;obtain⟨U5,yH,uL,U6⟩:=yG.ok (.loop (w.heap.size+1) ea (aD st.env)) aS;have hy:=run_yield (P:=P) (args:=#[v1]) yH (by rw[ku];rfl);refine .inr ⟨_,rfl,fn,a.tmps.setIfInBounds p v1,assign,body,?_,?_⟩
  ·rw[ku] at hy;simpa using hy
  ·refine roundIn_of_wpIn (F:=bt none) trivial ?_;have FE:a7 c.B ng W (.loop (w.heap.size+1) ea (aD st.env)::.obj w.heap.size (.deferred (some []))::(H1++(own k x++(Hx++eE)))):=
    yG.perm KF
   have lp:Sat ⟨c.B,ng,W,c.n,[]⟩ ⟨(p,enc k x)::st.env,.loop (w.heap.size+1) ea (aD st.env)::.obj w.heap.size (.deferred (some []))::(H1++(own k x++(Hx++eE)))⟩ {tmps:=a.tmps.setIfInBounds p v1,defers:=[]} W:=by
    refine⟨rfl,by simpa using rW,ng,FC,Ext.refl _ _ _,FE,?_⟩;refine Fu (a:=a) (λt y FF=>?_) (by rw[rW];exact FB) yc [];have:=uL t y FF;rw[ku] at this;exact this
   refine wpIn_mono (Fx (w.heap.size+1) ng W k x _ _ W lp) λe a3 uM lU=>?_;cases e with
   | normal=>
    obtain⟨st',rfl,rX⟩:=lU;obtain⟨uN,FG,FH,yI,wG⟩:=rX.mem;obtain⟨FI,FJ,_,yJ⟩:=yI.ok _ (.head _);refine⟨_,run_beginRound FJ (by rw[ku]),?_⟩;have FK:=yI.uH (lp':={ea with state:=.busy}) (.head _ _ _) rfl;have yK:Ext c.B uN uM uN (uM.putObj (w.heap.size+1) (.loop {ea with state:=.busy})):=.putObj FI yJ;have yL:Sat ⟨c.B,ng,W,c.n,[]⟩ ⟨s7 k x,.loop (w.heap.size+1) {ea with state:=.busy} (aD st.env)::.obj w.heap.size (.deferred (some []))::(H1++(own k x++(Hx++eE)))⟩ a3 (uM.putObj (w.heap.size+1) (.loop {ea with state:=.busy})):=
     ⟨rX.ds,rX.size,uN,FG.putObj yJ,FH.trans yK,FK,wG.bs yK.keeps⟩
    refine wpIn_mono (round _ _ _ pre k x H1 (Hx++eE) ng W wF kr a3 _ yL) λe a5 BW FL=>?_;obtain⟨BX,rY,BY,BZ,wH,nh⟩:=FL;obtain⟨FM,FN,_,yM⟩:=wH.ok _ (.head _);have fin:∀jp:Option Code,(Instr.endRound (w.heap.size+1) jp).run P BW= .ok (.bool jp.isNone) (BW.putObj (w.heap.size+1) (.loop {ea with state:=if jp.isNone then .ready else .done,pending:=jp}))/\
      ∀(b:Bool) (nZ:aA),b=jp.isNone->nZ= .loop (w.heap.size+1) {ea with state:=if jp.isNone then .ready else .done,pending:=jp} (aD st.env)::.obj w.heap.size (.deferred (some []))::(rY++Hx)->(b=true->uK (pre++[x]) nZ)->(b=false->BV (pre++[x]) nZ)->
       e4 c.B ng W (λy H'=>∃b H1,y= .b b/\H'=H1++(own k x++eE)/\(b=true->uK (pre++[x]) H1)/\(b=false->BV (pre++[x]) H1)) (λ_ _=>False) (.returned (.bool jp.isNone)) (BW.putObj (w.heap.size+1) (.loop {ea with state:=if jp.isNone then .ready else .done,pending:=jp})):=by
     intro jp;refine⟨by have c7:=run_endRound (P:=P) jp FN;exact c7,λb nZ a8 B0 ae ao=>?_⟩;have oR:=wH.uH (lp':={ea with state:=if jp.isNone then .ready else .done,pending:=jp}) (.head _ _ _) rfl;refine⟨BX,nZ++(own k x++eE),BY.putObj yM,BZ.trans (.putObj FM yM),?_,.inl ⟨_,.b b,rfl,by rw[a8];exact .val _,b,nZ,rfl,rfl,ae,ao⟩⟩;rw[B0];exact oR.perm KF
    cases e with
    | normal=>
     obtain⟨bM,bL⟩:=fin none;exact⟨_,_,bM,bL true _ rfl rfl (λ_=>⟨rY,nh,by rw[ku];rfl⟩) (λh=>by cases h)⟩
    | ret=>
     obtain⟨bM,bL⟩:=fin (some .ret);exact⟨_,_,bM,bL false _ rfl rfl (λh=>by cases h) (λ_=>⟨.ret,rY,nh,rfl⟩)⟩
    | exit id=>
     obtain⟨bM,bL⟩:=fin (some (.exit id));exact⟨_,_,bM,bL false _ rfl rfl (λh=>by cases h) (λ_=>⟨.exit id,rY,nh,rfl⟩)⟩
    | goto t=>exact nh.elim
    | panic ch=>exact nh.elim
    | outgrown=>exact nh.elim
   | exit id=>exact lU.elim
   | goto t=>exact lU.elim
   | ret=>exact lU.elim
   | panic ch=>exact lU.elim
   | outgrown=>exact lU.elim
 have nW:=Fw uK BV _ _ _ yF _ [] ⟨H,eD,rfl⟩ I _ (.func (.func f) #[] hr) [.func (.yield (w.heap.size+1)) #[] #[]] FA (by simpa using yE) (.fn _ _ _ _ _ .nil (a1.bs cv.keeps)) (.cons _ _ _ _ (.fn _ _ _ _ _ .nil .nil) .nil);rcases nW with⟨f',vf',vc',bM,hL,hcalls⟩ | ⟨l,bM,_⟩
 ·simp[Value.func.injEq,Fn.func.injEq] at bM;obtain⟨rfl,rfl,rfl⟩:=bM;refine⟨w.heap.size+1,[{target:=.collected w.heap.size,args:=#[]}],(w.alloc (.deferred (some []))).alloc (.loop ea),{target:=.fn (.func f) hr,args:=#[.func (.yield (w.heap.size+1)) #[] #[]]},(w.alloc (.deferred (some []))).alloc (.loop ea),f,
   #[.func (.yield (w.heap.size+1)) #[] #[]]++hr,(w.alloc (.deferred (some []))).alloc (.loop ea),?_,?_,λ_ _=>trivial,?_,by simp[bt],?_⟩
  ·rw[ku];exact run_enterLoop_outer fn a.tmps #[p] assign body
  ·have wI:a.eval (.tmp t)= .func (.func f) #[] hr:=hu;simp[resolve,rangeCall,wI];simp[Deferred.ofValue,Act.eval]
  ·simp[invoke,wB hL]
  ·have fl:(#[]++[.func (Fn.yield (w.heap.size+1)) #[] #[]].toArray++hr)= #[.func (Fn.yield (w.heap.size+1)) #[] #[]]++hr:=by simp
   rw[fl] at hcalls;refine E5 (hcalls.mono λe W hR=>?_);obtain⟨oS,U7,yN,rZ,oR,lV⟩:=hR;rcases lV with lV | lV
   ·obtain⟨v,y,rfl,_,lV⟩:=lV;obtain⟨nZ,B0,U8⟩:=lV;rw[List.append_nil] at B0;subst B0;rcases U8 with⟨H1,FO,rfl⟩ | ⟨pre,lW,code,H1,hJX,rfl⟩
    ·obtain⟨yO,yP,_,s8⟩:=oR.ok _ (.head _);have yQ:ea.pending=none:=by rw[ku]
     have yR:=run_endLoop (P:=P) yP (by rw[ku];simp);rw[yQ] at yR;refine⟨none,_,yR,?_⟩;have uO:=(oR.uH (lp':={ea with state:=.exhausted}) (.head _ _ _) rfl).tail;have qB:Ext c.B oS W oS (W.putObj (w.heap.size+1) (.loop {ea with state:=.exhausted})):=.putObj yO s8;rw[yQ] at qB uO;refine done w.heap.size H1 FO _ _ ⟨?_,s.size,oS,yN.putObj s8,(he.trans (cv.trans rZ)).trans qB,uO,(bd.bs (cv.trans rZ).keeps).bs qB.keeps⟩;show _::a.defers=_;rw[s.ds]
    ·obtain⟨yO,yP,_,s8⟩:=oR.ok _ (.head _);refine⟨some code,_,run_endLoop (P:=P) yP aS,?_⟩;have uO:=(oR.uH (lp':={ea with state:=.exhausted,pending:=some code}) (.head _ _ _) rfl).tail;have qB:Ext c.B oS W oS (W.putObj (w.heap.size+1) (.loop {ea with state:=.exhausted,pending:=some code})):=.putObj yO s8;refine jump w.heap.size code pre H1 lW hJX _ _ ⟨?_,s.size,oS,yN.putObj s8,(he.trans (cv.trans rZ)).trans qB,uO,(bd.bs (cv.trans rZ).keeps).bs qB.keeps⟩;show _::a.defers=_;rw[s.ds]
   ·obtain⟨_,_,_,_,hF⟩:=lV;exact hF.elim
 ·simp at bM
def yC.b{j:Type}{B}{P}{g}{enc:j->ab}{L:List j}(h:yC B P g enc L):BU B P g (λ_=>enc) (λ_ _=>[]) L:=
 λJ q f r o m H a c=>h J q f r o (λpre x H a l _ c=>m 0 pre x H a l c) H a c
def aB.rangeFunc{m}{t p}{assign s}{f}{q}(enc:m->ab)(L:List m)(J:List m->aA->Prop)(Jx:Code->List m->aA->Prop)(H Hx)(j:m->List (Nat×ab))
  (K:r=none) (N:st.H=H++Hx) (R:aD st.env t=some (.fn (.func f) [] q)) (M:Nat.blt p c.n) (F:yC c.B P (.fn (.func f) [] q) enc L) (S:J [] H)
  (h:∀(l:Nat) (I:cp) (w:World) (x:m) (A:aA),aB ⟨c.B,I,w,c.n,[]⟩ (some l) P assign ⟨(p,enc x)::st.env,A⟩ (Exit.then (λa O=>∃C,C=(⟨j x,A⟩:dU)/\Sat ⟨c.B,I,w,c.n,[]⟩ C a O) (λ_ _ _=>False)))
  (z:∀(l D:Nat) (G:Loop) (g:List m) (x:m) (o A:aA) (I:cp) (w:World),g++[x]<+:L->J g o->
   aB ⟨c.B,I,w,c.n,[]⟩ (some l) P s ⟨j x,.loop l G (aD st.env)::.obj D (.deferred (some []))::(o++A)⟩ (wE c.B I w l D G (aD st.env) J Jx (g++[x]) A))
  (done:∀(D:Nat) (o:aA),J L o->aZ ⟨c.B,c.c5,c.bW,c.n,{target:=.collected D,args:=#[]}::c.ds⟩ ⟨st.env,.obj D (.deferred (some []))::(o++Hx)⟩ .normal Q)
  (E:∀(D:Nat) (v:Code) (g:List m) (o:aA),g<+:L->Jx v g o->aB ⟨c.B,c.c5,c.bW,c.n,{target:=.collected D,args:=#[]}::c.ds⟩ r P v ⟨st.env,.obj D (.deferred (some []))::(o++Hx)⟩ Q):
  aB c r P (.rangeFunc (.tmp t) #[p] assign s) st Q:=
 .LF (λ_=>enc) (λ_ _=>[]) L J Jx H Hx (λ_=>j) K N R M F.b S (λl I w _=>h l I w) (λl D G g _=>z l D G g) done E
end
section
variable{c:Ctx}{r:Option Nat}{P:Program}{ops:Array Oper}{l rest:cc}{o:Oper}{st:dU}{Q:Exit->Act->World->Prop}{x:ab}
abbrev mark(D:Nat):Deferred:={target:=.collected D,args:=#[]}
def bO.qC{f}{fn}{a}{xs}{H}{c}{E}{n}(b8:P.funcs[f]? =some fn)(a8:fn.body=some a)(rK:(fn.name== "runtime.NumGoroutine")=false)
  (hn:fn.ntmps=n) (q:Nat.ble xs.length n) (h:∀B I w,aB ⟨B,I,w,n,[]⟩ none P a ⟨na 0 xs,H⟩ (bodyPostM (bt none) 0 P fn (e4 B I w c E))):bO P f xs H c E:=by
 refine⟨uk,λB I w g r o j=>uv (n:=0) (callsIn_of_wp_marks b8 a8 trivial ?_ rfl)⟩;refine h B I w _ w ⟨rfl,?_,I,r,Ext.refl _ _ _,o,λt y hy=>?_⟩
 ·have:=j.length;have:=Nat.le_of_ble_eq_true q;simp;omega
 ·obtain⟨v,l,m⟩:=j.get ye;have:(g.toArray++Array.replicate (fn.ntmps - g.toArray.size) undef).getD t undef=v:=by
   have kT:=(List.getElem?_eq_some_iff.1 l).1;simp only[Array.getD_eq_getD_getElem?];rw[Array.getElem?_append_left wu];simp[l]
  rw[this];exact m
def c0.iy{ys fY:bl}(h:c0 ys fY):an (iy ys) (iy fY):=by
 cases h with
 | nil=>exact an.refl _
 | cons aK ht=>
  cases ht with
  | nil=>exact aK
  | cons hy ht=>exact an.bk (.cons aK (.cons hy ht))
def aZ.U9{fn}{B}{l}{g}{n}{o}{E}{rs}{ys m}{H'}(r:fn.results=rs.toArray)(h:iq P st rs ys)(j:c0 ys m)
  (z:H'.Sublist st.H) (f:o (iy m) H'):aZ ⟨B,l,g,n,[]⟩ st .ret (bodyPostM (bt none) 0 P fn (e4 B l g o E)):=by
 intro a w s;obtain⟨I,C,D,q,x⟩:=s.mem;obtain⟨v,A,t⟩:=h.res (c:=⟨B,l,g,n,[]⟩) q x r;show LeavesInM _ _ _ _ _ _ a.defers _ _;rw[show a.defers= [] from s.ds];exact⟨v,A,I,H',C,D,q.sub z,.inl ⟨v,_,rfl,j.iy _ _ _ t,f⟩⟩
def aZ.B1{fn}{B D}{A}{r}{n}{F}{E}{rs}{ys C}{H' g}(J:fn.results=rs.toArray)(q:fU st.H (.obj D (.deferred (some []))) g)(h:iq P ⟨st.env,g⟩ rs ys)(t:c0 ys C)
  (M:H'.Sublist g) (m:F (iy C) H'):aZ ⟨B,A,r,n,[mark D]⟩ st .ret (bodyPostM (bt none) 0 P fn (e4 B A r F E)):=by
 intro a w s;obtain⟨I,S,T,o,L⟩:=s.mem;obtain⟨N,R,j⟩:=o.ok _ q.mem;show LeavesInM _ _ _ _ _ _ a.defers _ _;rw[show a.defers= [mark D] from s.ds];have G:er I w I (w.putObj D (.deferred none)):=pH (B:=B) j;have l:a7 B I (w.putObj D (.deferred none)) g:=by
  refine (o.sub q.sub).bs G (λf Q b z=>World.putObj_heap_other λe=>?_) λ_ _ _ _ _ x=>x;subst e;exact q.apart o.apart f Q _ rfl z
 obtain⟨v,O,K⟩:=h.res (c:=⟨B,A,r,n,[]⟩) (st:=⟨st.env,g⟩) l (L.bs G) J;exact⟨aS,.inl ⟨D,_,rfl,run_takeDeferred R,v,O,I,H',S.putObj j,T.trans (.putObj N j),l.sub M,.inl ⟨v,_,rfl,t.iy _ _ _ K,m⟩⟩⟩
def aj.s9{f}{xs}{D}{E}(X:o.guard=none)(a6:ix c.n o.dst)(M:gD P (aD st.env) o f xs)(h:eK c.B P f xs st.H D E)
  (next:∀y g,D y g->aj c r P ops rest ⟨iK o.dst y st.env,g⟩ Q)
  (oP:∀y g,E y g->∀a w,Sat c ⟨st.env,g⟩ a w->∀I v,Rel I w y v->Q (.panic [{v,recovered:=false}]) a w):aj c r P ops (o::rest) st Q:=by
 intro a w s;refine wpListIn_plain X λK U=>?_;obtain⟨I,Y,N,V,J⟩:=s.mem;obtain⟨S,W,O⟩:=M.run I w a (J.ops o);obtain⟨F,C⟩:=h;refine dt.qu (R:=λv q=>∃l g x,bV c.B l q/\Ext c.B I w l q/\a7 c.B l q g/\Rel l q x v/\D x g)
  (E:=λch q=>∃l g v x,bV c.B l q/\Ext c.B I w l q/\a7 c.B l q g/\ch= [{v,recovered:=false}]/\Rel l q x v/\E x g) M.rO (O F) ((C I w S Y V W).mono λe q G=>?_) K Q ?_ ?_
 ·obtain⟨l,g,t,j,m,G⟩:=G;rcases G with⟨v,x,rfl,z,A⟩ | ⟨v,x,rfl,z,L⟩
  ·exact⟨l,g,x,t,j,m,z,A⟩
  ·exact⟨l,g,v,x,t,j,m,rfl,z,L⟩
 ·rintro v q ⟨l,g,x,t,j,m,z,A⟩;refine U _ _ (next x g A _ _ ⟨iJ,iI,l,t,N.trans j,m,((J.bs j.keeps).put rI z)⟩)
 ·rintro ch q ⟨l,g,v,x,t,j,m,rfl,z,L⟩;exact oP x g L a q ⟨s.ds,s.size,l,t,N.trans j,m,J.bs j.keeps⟩ l v z
def Rel.LG{I}{w}{k}{els}{v}(h:Rel I w (.ai k els) v):els.length<=maxLen:=by
 cases h with
 | dQ=>simp
 | ai _ _ b off len a l j g m=>omega
def aB.FP{m}{F}{enc}[hF:pB F enc]{xs:List m}{p}{t k i:Nat}{cs:bl}(ht:aD st.env t=some (.ptr cs))(q:cs[i]? =some (.ai k (F xs)))(h:xs.length<=9223372036854775807->aB c r P p st Q):aB c r P p st Q:=by
 intro a w s;refine h ?_ a w s;obtain⟨I,z,A,x,l⟩:=s.mem;have f:=l t _ ht;generalize a.tmps.getD t undef=u at f;cases f with
 | ptr _ b o g=>
  obtain⟨v,_,_,j⟩:=g.get q;have:=j.LG;rw[hF.h,List.length_map] at this;simpa [maxLen] using this
def aB.n0{m}{F}{enc}[hF:pB F enc]{xs:List m}{p}{t k i:Nat}{cs:bl}(ht:aD st.env t=some (.agg cs))(o:cs[i]? =some (.ai k (F xs)))(h:xs.length<=9223372036854775807->aB c r P p st Q):aB c r P p st Q:=by
 intro a w s;refine h ?_ a w s;obtain⟨I,z,A,q,l⟩:=s.mem;have f:=l t _ ht;generalize a.tmps.getD t undef=u at f;cases f with
 | agg _ x g=>
  obtain⟨v,_,j⟩:=g.get o;have:=j.LG;rw[hF.h,List.length_map] at this;simpa [maxLen] using this
def nX.of{f:Type}{a}{c cs}{enc:f->ab}{p:f->Bool}(h:∀x,aG P a (c++[enc x]++cs) (.b (p x))):nX P (.fn (.func a) c cs) enc p:=λB x H=>eY.fn (h x H)
def nX.gG{j}{B}{g}{enc}{p}(h:nX P g enc p)(L:List j):oQ B P g enc L (λ_=>True) (λpre H=>H= []/\∀x∈pre,p x=true) (λpre H=>H= []/\∃q x,pre=q++[x]/\p x=false):=by
 rintro pre x H m _ _ ⟨rfl,f⟩;refine eY.mono (h B x m) ?_ λ_ _ h=>h;rintro _ _ ⟨rfl,rfl⟩;refine⟨p x,[],rfl,rfl,λa8=>⟨rfl,λy c=>?_⟩,λa8=>⟨rfl,pre,x,rfl,a8⟩⟩;rcases List.mem_append.1 c with c | c
 ·exact f y c
 ·simp at c;subst c;exact a8
def an.Va{c}[Decidable c]{x}(g:fa x)(f:∀h,x≠ .agg h):an x (if c then x else .one):=by
 split
 ·exact .refl _
 ·exact .one g f
def wJ{α:Type}(J Jx:List α->aA->Prop)(l:List α)(Hx:aA)(y:ab)(H':aA):Prop:=
 ∃H1,H'=H1++Hx/\((y= .i (-1)/\J l H1)\/∃pre x rest,l=pre++x::rest/\y= .i pre.length/\Jx (pre++[x]) H1)
def hP(P:Program)(iz:aA)(f:FuncId)(xs:bl)(y:ab):Prop:=∀H,(∀e∈iz,e∈H)->bO P f xs H (λx H'=>x=y/\H'=H) (λ_ _=>False)
def yS(P:Program)(iz:aA)(f:FuncId)(xs:bl)(eu:ab->Prop):Prop:=∀H,(∀e∈iz,e∈H)->bO P f xs H (λx H'=>eu x/\H'=H) (λ_ _=>False)
def hP.pure{P}{f}{xs}{y}(h:hP P [] f xs y):aG P f xs y:=λH=>h H aS
def nf.of{c:Type}{f}{a}{g cs}{enc:c->ab}{l:List c}{p:c->Bool}(h:∀x∈l,hP P f a (g++[enc x]++cs) (.b (p x))):nf P f (.fn (.func a) g cs) enc l p:=λx j B H m=>eY.fn (h x j H m)
def FQ{K}{a}{xs}{g}{enc}{r}{p}{l}(o:m4 P a)(L:∀(B:Nat) (F:aA->Prop) (J s:List K->aA->Prop),uI B P g enc l F J s->∀H c,F c->J [] H->eK B P a xs (H++c) (wJ J s l c) (λ_ _=>False))
  (C:nf P r g enc l p):yS P r a xs (λy=>∃n:Int,y= .i n/\decide (n>=0)=l.any p):=by
 intro c m;refine⟨o,λB I w G M E j=>((L B _ _ _ C.find [] c m ⟨rfl,aS⟩).2 I w G M E j).mono λe O A=>A.mono (λy H f=>?_) λ_ _ h=>h⟩;obtain⟨N,rfl,f⟩:=f;rcases f with⟨rfl,rfl,yT⟩ | ⟨pre,x,rest,rfl,rfl,rfl,q,z,cd,hqq,aH⟩
 ·refine⟨⟨-1,rfl,?_⟩,rfl⟩;rw[show decide ((-1:Int)>=0)=false from rfl];symm;rw[List.any_eq_false];intro x v;simp[yT x v]
 ·refine⟨⟨pre.length,rfl,?_⟩,rfl⟩;have D:=List.append_inj' cd rfl;obtain⟨rfl,t⟩:=D;simp at t;subst t;rw[show decide (((pre.length:Nat):Int)>=0)=true from by simp];symm;rw[List.any_eq_true];exact⟨x,aS,aH⟩
def aj.isNil{t wK}{x y}{k}{els}{g F}{u}(z:o.guard=none)(a6:ix c.n o.dst)(h:o.op= .binOp .eql t x y wK)(ht:pA P t)(aK:aN (aD st.env) x=some (g,u))(T:g=true)(hu:an u (.ai k els))
  (hy:aN (aD st.env) y=some (F,.val (.slice none 0 0))) (B:F=true) (next:∀b:Bool,(b=true->els= [])->aj c r P ops rest ⟨iK o.dst (.b b) st.env,st.H⟩ Q):aj c r P ops (o::rest) st Q:=by
 intro a w s;refine wpListIn_plain z λK L=>?_;obtain⟨I,hw,V,M,A⟩:=s.mem;have D:=hu _ _ _ ((A.ops o).get cb aK T);have S:=bX ((A.ops o).get cb hy B);obtain⟨j,n,f,Vb,l⟩:∃j n f,a.eval x= .slice j n f/\(j=none->els= []):=by
  generalize a.eval x=v at D;cases D with
  | dQ=>exact⟨_,_,_,rfl,λ_=>rfl⟩
  | ai=>exact⟨_,_,_,rfl,λe=>by cases e⟩
 refine dt.e3 (R:=λv w'=>v= .bool j.isNone/\w'=w) (E:=λ_ _=>False) cf (v:=.bool j.isNone) (w':=w) ?_ ⟨rfl,rfl⟩ K Q ?_ λ_ _ h=>h.elim
 ·have m:=E9 ht;have:=run_equal_slice_nil (P:=P) w t _ j n f m;simp[execOp,h,Vb,S,eqGuard,binOp,this]
 rintro v w' ⟨rfl,rfl⟩;refine L _ _ (next j.isNone (λe=>l (by simpa using e)) _ _ ⟨iJ,iI,I,hw,V,M,(A.put rI (.val _))⟩)
end
section
variable{c:Ctx}{r:Option Nat}{P:Program}{ops:Array Oper}{l rest:cc}{o:Oper}{env:List (Nat×ab)}{H:aA}{Q:Exit->Act->World->Prop}{x:ab}{d n:Nat}
def gH(a:o.dst=some d)(hn:Nat.blt d n):ix n o.dst=true:=by rw[a];exact hn
def aj.cn(a:o.guard=none)(a6:o.dst=some d)(hn:Nat.blt d c.n)(h:ad P H (aD env) o x)(next:aj c r P ops rest ⟨(d,x)::env,H⟩ Q):aj c r P ops (o::rest) ⟨env,H⟩ Q:=
 .pop a (gH a6 hn) h fW
def aj.db{j k}{a G}(g:o.guard=some (j,a))(m:(ops[j]?).bind (·.dst)=some k)(f:Nat.blt k c.n)(l:m6 (aD env k) a=some G)
  (a6:o.dst=some d) (hn:Nat.blt d c.n) (h:G=true->ad P H (aD env) o x) (next:aj c r P ops rest ⟨(d,.opt G x)::env,H⟩ Q):aj c r P ops (o::rest) ⟨env,H⟩ Q:=
 .guarded g m f l (gH a6 hn) h fW
def aj.uP{t}{f}[g:hf P t f](a:o.guard=none)(a6:o.dst=some d)(hn:Nat.blt d c.n)(h:o.op= .alloc t)
  (next:∀b,aj c r P ops rest ⟨(d,.p b 0)::env,.au b t (f.map .val)::H⟩ Q):aj c r P ops (o::rest) ⟨env,H⟩ Q:=.rP a (gH a6 hn) h fW
def aj.qD{t}{z}{y}{g}(a:o.guard=none)(a6:o.dst=some d)(hn:Nat.blt d c.n)(h:o.op= .box t z)(f:aN (aD env) z=some (g,y))(j:g=true)(l:fa y)
  (next:∀b,aj c r P ops rest ⟨(d,.p b 0)::env,.au b t (cG y)::H⟩ Q):aj c r P ops (o::rest) ⟨env,H⟩ Q:=.box a (gH a6 hn) h f j l fW
def aj.fZ{t tb}{p z}{y}{m g}{b off n}{cs ds}{H'}{agg}[ht:cX P t (agg,n)](j:o.guard=none)(a6:o.dst=none)(h:o.op= .store t p z)
  (q:aN (aD env) p=some (m,.p b off)) (l:m=true) (v:aN (aD env) z=some (g,y)) (w:g=true) (x:fa y) (s:dB (cG y))
  (hn:Nat.beq (cG y).length n) (hu:bG H (.au b tb cs) (.au b tb ds) H') (hfit:Nat.ble (off+n) cs.length) (hds:cs.take off++cG y++cs.drop (off+n)=ds)
  (next:aj c r P ops rest ⟨env,H'⟩ Q):aj c r P ops (o::rest) ⟨env,H⟩ Q:=.BL j (by rw[a6];rfl) h q l v w x s hn hu hfit hds fW
def aj.FR{f}{xs}{a}(l:o.guard=none)(a6:o.dst=some d)(hn:Nat.blt d c.n)(j:gD P (aD env) o f xs)(h:eK c.B P f xs H a (λ_ _=>False))
  (next:∀y g,a y g->aj c r P ops rest ⟨(d,y)::env,g⟩ Q):aj c r P ops (o::rest) ⟨env,H⟩ Q:=.s9 l (gH a6 hn) j h fW λ_ _ h=>h.elim
def aj.n1{x}{args}{v}{l}{ys}{xs}{g}{q}(f:o.guard=none)(a6:o.dst=some d)(hn:Nat.blt d c.n)
  (h:o.op= .call {callee:=.value x,args:=args,argTypes:=v}) (s:aN (aD env) x=some (g,l)) (t:g=true) (w:jg (aD env) args.toList=some ys) (a:ys.all (·.1)=true) (j:c0 (ys.map (·.2)) xs)
  (z:eY c.B P l xs H q (λ_ _=>False)) (next:∀y m,q y m->aj c r P ops rest ⟨(d,y)::env,m⟩ Q):aj c r P ops (o::rest) ⟨env,H⟩ Q:=.Fs f (gH a6 hn) h s t w a j z fW λ_ _ h=>h.elim
def aj.dJ{s z}{t tx e k f D}{els news}{v}{y}{g1 q}{H':Value->aA}[F:fF P t (e,k,f)][E:eC P tx D](l:o.guard=none)(a6:o.dst=some d)(hn:Nat.blt d c.n)
  (h:o.op= .call {callee:=.builtin .append,args:=#[s,z],argTypes:=#[t,tx]}) (w:aN (aD env) s=some (g1,.as (.ai k els) v)) (m:g1=true) (A:aN (aD env) z=some (q,y)) (g:q=true) (hy:an y (.ai k news))
  (x:news.all dB=true) (hu:∀a,bG H (.own e k v) (.own e k a) (H' a)) (B:(els.length+news.length)*f<=140737488355328) (j:els.length+news.length<=9223372036854775807)
  (next:∀a,aj c r P ops rest ⟨(d,.as (.ai k (els++news)) a)::env,H' a⟩ Q):aj c r P ops (o::rest) ⟨env,H⟩ Q:=aj.U1 l (gH a6 hn) h w m A g hy x hu B j fW
def aj.uQ{t m}{x y}{k}{els}{g j}{u}(f:o.guard=none)(a6:o.dst=some d)(hn:Nat.blt d c.n)(h:o.op= .binOp .eql t x y m)(ht:pA P t)(l:aN (aD env) x=some (g,u))(q:g=true)(hu:an u (.ai k els))
  (hy:aN (aD env) y=some (j,.val (.slice none 0 0))) (a:j=true) (next:∀b:Bool,(b=true->els= [])->aj c r P ops rest ⟨(d,.b b)::env,H⟩ Q):aj c r P ops (o::rest) ⟨env,H⟩ Q:=.isNil f (gH a6 hn) h ht l q hu hy a fW
def eO.cn{L}{K}(a:o.guard=none)(a6:o.dst=some d)(hn:Nat.blt d n)(h:ad P H (aD env) o x)(next:eO P H L n rest ((d,x)::env) K):eO P H L n (o::rest) env K:=
 .pop a (gH a6 hn) h fW
def eO.db{L}{K}{j k}{a G}(c:o.guard=some (j,a))(g:(L[j]?).bind (·.dst)=some k)(f:m6 (aD env k) a=some G)
  (a6:o.dst=some d) (hn:Nat.blt d n) (h:G=true->ad P H (aD env) o x) (next:eO P H L n rest ((d,.opt G x)::env) K):eO P H L n (o::rest) env K:=
 .guarded c g f (gH a6 hn) h fW
def Sat.pJ{c}{st}{a}{w}{b t e k i}{cs ds}{H'}(s:Sat c st a w)(hu:bG st.H (.au b t cs) (.au b t ds) H')(R:cs[i]? =some (.val (.slice none 0 0)))(hds:cs.set i (.as (.ai k []) (.slice none 0 0))=ds):
  Sat c ⟨st.env,.own e k (.slice none 0 0)::H'⟩ a w:=by
 obtain⟨I,Q,S,G,N⟩:=s.mem;subst hds;have L:er I w I w:=⟨λ_ _ x=>x,λ_ _ _=>rfl⟩;obtain⟨O,F,j,z,r⟩:=G.ok _ hu.mem;have C:bQ I w (cs.set i (.as (.ai k []) (.slice none 0 0))) F.toList:=by
  have o:∀(g:bl) (m:dg) (i:Nat),bQ I w g m->g[i]? =some (.val (.slice none 0 0))->bQ I w (g.set i (.as (.ai k []) (.slice none 0 0))) m:=by
   intro g
   induction g with
   | nil=>intro m i _ h;simp at h
   | cons x g M=>
    intro m i z h;cases z with
    | cons _ v _ A D J=>
     cases i with
     | zero=>
      simp at h;subst h;cases D;exact .cons _ _ _ _ (.as _ _ (.dQ _ _ _)) J
     | succ i=>exact .cons _ _ _ _ D (M A i J gQ)
  exact o _ _ _ z R
 have E:a7 c.B I w H':=G.fE hu L (λ_ _ _=>rfl) (λ_ _ x=>.inl x) ⟨O,F,j,C,r⟩ λ_ j=>.inl j;refine⟨s.ds,s.size,I,Q,S,⟨λf l=>?_,List.pairwise_cons.2 ⟨λf l b j=>by simp[bn.dY,Value.ownBlock] at j,E.apart⟩⟩,N⟩;rcases List.mem_cons.1 l with rfl | l
 ·exact⟨0,[],World.ownsRow_nil _ _ _ _,λg P=>by simp[Value.ownBlock] at P⟩
 ·exact E.ok f l
def aB.pJ{p}{b t}(e k i){cs ds}{H'}(hu:bG H (.au b t cs) (.au b t ds) H')(g:cs[i]? =some (.val (.slice none 0 0)))(hds:cs.set i (.as (.ai k []) (.slice none 0 0))=ds)(h:aB c r P p ⟨env,.own e k (.slice none 0 0)::H'⟩ Q):aB c r P p ⟨env,H⟩ Q:=
 λa w s=>h a w (s.pJ hu g hds)
def aZ.qx{st}{f}(d e k)(g:aD st.env d=some (.val (.slice none 0 0)))(h:aZ c ⟨(d,.as (.ai k []) (.slice none 0 0))::st.env,.own e k (.slice none 0 0)::st.H⟩ f Q):aZ c st f Q:=
 λa w s=>h a w (s.qx g)
def aj.yU{t e k m}[J:fF P t (e,k,m)](q:o.guard=none)(U:o.dst=some d)(hn:Nat.blt d c.n)(h:o.op= .buildSlice t 0 #[])
  (next:∀v,aj c r P ops rest ⟨(d,.as (.ai k []) v)::env,.own e k v::H⟩ Q):aj c r P ops (o::rest) ⟨env,H⟩ Q:=by
 intro a w s;refine wpListIn_plain q λK O=>?_;obtain⟨I,g,X,D,S⟩:=s.mem;obtain⟨i,z,V,W,Z,Y,M,N,T⟩:=oN J.h;have uo:(Instr.buildSlice t 0 #[]).run P w= .ok (.slice (some ⟨w.heap.size,0,none⟩) 0 0) (w.alloc (.cells #[] e)):=by
  simp[Instr.buildSlice,run_underlying V,sizeOf,typeInfo,W,Instr.fill,newRow,show Array.range 0= #[] from by decide+kernel]
 refine dt.e3 (R:=λv w'=>v= .slice (some ⟨w.heap.size,0,none⟩) 0 0/\w'=w.alloc (.cells #[] e)) (E:=λ_ _=>False) cf (v:=.slice (some ⟨w.heap.size,0,none⟩) 0 0) (w':=w.alloc (.cells #[] e)) yj ⟨rfl,rfl⟩ K Q ?_ λ_ _ h=>h.elim;rintro v w' ⟨rfl,rfl⟩;have F:=D.alloc g (.cells #[] e);have j:(w.alloc (.cells #[] e)).ownsRow c.B e k (.slice (some ⟨w.heap.size,0,none⟩) 0 0) 0 []:=⟨aS,.inr ⟨w.heap.size,0,#[],rfl,g.base,heap_alloc_new w _,Nat.le_refl _,by simp[maxLen],aS,aS⟩⟩;refine O _ _ (next (.slice (some ⟨w.heap.size,0,none⟩) 0 0) _ _ ⟨iJ,iI,I,g.alloc _,X.trans (jB g _),⟨λf l=>?_,List.pairwise_cons.2 ⟨λf l b C e=>?_,F.apart⟩⟩,?_⟩)
 ·rcases List.mem_cons.1 l with rfl | l
  ·refine⟨0,[],j,λg G o _ L=>?_⟩;simp[Value.ownBlock] at G;subst G;exact absurd (g.lt L) (Nat.lt_irrefl _)
  ·exact F.ok f l
 ·simp[bn.dY,Value.ownBlock] at C;subst C;exact absurd (bn.lO (D.ok f l) e).2 (Nat.lt_irrefl _)
 ·rw[U];have:=(S.bs (lP g (.cells #[] e))).put (dst:=some d) (x:=.as (.ai k []) (.slice (some ⟨w.heap.size,0,none⟩) 0 0)) (v:=.slice (some ⟨w.heap.size,0,none⟩) 0 0) oI (.as _ _ (.dQ _ _ _));exact this
def ad.LH{m:Type}{F:List m->List bl}{enc:m->bl}{xs:List m}{ρ}{t}{x:Operand}{B s:Option Operand}{k:Nat}{l n:Nat}{A gl gh:Bool}{kl kh:IntKind}[ht:eC P t k][hF:pB F enc](h:o.op= .slice t x B s none)(v:aN ρ x=some (A,.ai k (F xs)))(g:A=true)
  (r:match B with | none=>l=0 | some y=>aN ρ y=some (gl,.val (.int kl (l:Int)))) (f:gl=true) (q:match s with | none=>n=xs.length | some y=>aN ρ y=some (gh,.val (.int kh (n:Int)))) (j:gh=true)
  (ae:l<=n/\n<=xs.length):ad P H ρ o (.ai k (F ((xs.take n).drop l))):=by
 rw[hF.h] at v;have:=ad.UJ (H:=H) (ht:=ht) h v g r f (n:=n) (by cases s <;> simpa using q) j m2;rw[hF.h,List.map_drop,List.map_take];exact this
def ad.B2{c:Type}{F:List c->List bl}{enc:c->bl}{xs:List c}{ρ}{t}{x y}{k:Nat}{n:Nat}{j gh:Bool}{kh}[ht:eC P t k][hF:pB F enc](h:o.op= .slice t x none (some y) none)(m:aN ρ x=some (j,.ai k (F xs)))(f:j=true)
  (a:aN ρ y=some (gh,.val (.int kh (n:Int)))) (g:gh=true) (q:n<=xs.length):ad P H ρ o (.ai k (F (xs.take n))):=by
 have:=ad.LH (H:=H) (kl:=.i64) (gl:=true) (l:=0) (ht:=ht) (hF:=hF) h m f rfl rfl a g ⟨Nat.zero_le _,q⟩;simpa using this
def ad.LI{c:Type}{F:List c->List bl}{enc:c->bl}{xs:List c}{ρ}{t}{x y}{k:Nat}{n:Nat}{j gh:Bool}{kh}[ht:eC P t k][hF:pB F enc](h:o.op= .slice t x (some y) none none)(l:aN ρ x=some (j,.ai k (F xs)))(f:j=true)
  (a:aN ρ y=some (gh,.val (.int kh (n:Int)))) (g:gh=true) (m:n<=xs.length):ad P H ρ o (.ai k (F (xs.drop n))):=by
 have:=ad.LH (H:=H) (kh:=.i64) (gh:=true) (n:=xs.length) (ht:=ht) (hF:=hF) h l f a g rfl rfl ⟨m,Nat.le_refl _⟩;simpa using this
end
def yV(l:cc)(k m:Nat)(x:Nat->Bool):Bool:=
 let ms:=hM l []
 (l.zipIdx.all λp=>(m9 p.1).all λj=>Nat.blt j p.2) &&
 (l.zipIdx.all λp=>Nat.blt p.2 m || (List.range m).all λj=>Nat.blt j k || (ms.getD p.2 0).testBit j) &&
 ((l.take m).zipIdx.all λp=>Nat.blt p.2 k || ((l.take m).zipIdx.all λq=>match q.1.dst with
  | some d=>(Nat.beq p.2 q.2 || Nat.blt q.2 k || !(match p.1.dst with | some FT=>Nat.beq d FT | none=>false)) && (!((looks l p.1).any (Nat.beq d)) || x d || Nat.blt q.2 k || (Nat.blt q.2 p.2 && (ms.getD p.2 0).testBit q.2))
  | none=>true))
abbrev mz(l:cc)(k m:Nat):Bool:=yV l k m λ_=>false
structure Vc(l:cc)(k m:Nat)(x:Nat->Bool):Prop where
 back:∀i o,l[i]? =some o->∀j∈m9 o,j<i
 tail:∀i,m<=i->i<l.length->∀j,k<=j->j<m->((hM l []).getD i 0).testBit j=true
 apart:∀i lX j mA d,k<=i->i<m->l[i]? =some lX->k<=j->j<m->l[j]? =some mA->mA.dst=some d->i≠j->lX.dst≠some d
 looked:∀i lX j mA d,k<=i->i<m->l[i]? =some lX->k<=j->j<m->l[j]? =some mA->mA.dst=some d->d∈looks l lX->x d=true\/(j<i/\((hM l []).getD i 0).testBit j=true)
def ta{a b}(h:Nat.blt a b):a<b:=Nat.lt_of_succ_le (by simpa [Nat.blt] using h)
def LJ{a b}(h:a<b):Nat.blt a b=true:=Nat.ble_eq_true_of_le h
def FU{l}{k m}{x}(h:yV l k m x):Vc l k m x:=by
 simp only[yV,Bool.and_eq_true,List.all_eq_true,Bool.or_eq_true] at h;obtain⟨⟨H,F⟩,I⟩:=h;have key:∀i lX j mA d,k<=i->i<m->l[i]? =some lX->k<=j->j<m->l[j]? =some mA->mA.dst=some d->(i=j\/lX.dst≠some d)/\(d∈looks l lX->x d=true\/(j<i/\((hM l []).getD i 0).testBit j=true)):=by
  intro i lX j mA d r0 aQ yW tc cm qE a6;have FV:∀x,k<=x->¬Nat.blt x k=true:=λx aK c=>by have:=ta c;omega
  have at_:∀{i:Nat} {o:Oper},i<m->l[i]? =some o->(l.take m)[i]? =some o:=λaQ bb=>by rw[List.getElem?_take,if_pos aQ];exact bb
  have:=((I _ (wC (at_ aQ yW))).resolve_left (FV i r0)) _ (wC (at_ cm qE));simp only[a6,Bool.and_eq_true,Bool.or_eq_true,Bool.not_eq_true'] at this;obtain⟨s,c⟩:=this;refine⟨?_,λhm=>?_⟩
  ·rcases s with (s | s) | s
   ·exact .inl (Nat.eq_of_beq_eq_true s)
   ·exact absurd s (FV j tc)
   ·exact .inr λe=>by rw[e] at s;simp at s
  ·rcases c with ((c | c) | c) | c
   ·rw[List.any_eq_false] at c;exact absurd aS (c d hm)
   ·exact .inl c
   ·exact absurd c (FV j tc)
   ·exact .inr ⟨ta c.1,c.2⟩
 refine⟨λi o bb j cm=>ta (H _ (wC bb) j cm),λi aQ br j tc cm=>?_,λi lX j mA d r0 aQ yW tc cm qE a6 hv=>((key i lX j mA d r0 aQ yW tc cm qE a6).1).resolve_left hv,λi lX j mA d r0 aQ yW tc cm qE a6 hm=>(key i lX j mA d r0 aQ yW tc cm qE a6).2 hm⟩;rcases F _ (wC (List.getElem?_eq_getElem br)) with h | h
 ·have:=ta h;simp at this;omega
 ·rcases h j (by simpa using cm) with h | h
  ·have:=ta h;omega
  ·exact h
def Vd:∀(c:cc) (a:dq),(hM c a).length=a.length+c.length:=by
 intro c;induction c with
 | nil=>intro a;simp[hM]
 | cons o c f=>intro a;rw[hM,f];simp;omega
def LK{F}{n}{P}{o:Oper}{a:Act}{w}{K yX}{Q Q'}(h:∀a w,K a w->yX a w)(ck:∀ch a w,Q (.panic ch) a w->Q' (.panic ch) a w)(bb:∀a w,Q .outgrown a w->Q' .outgrown a w)
  (aU:o.wpIn F n P a w K Q):o.wpIn F n P a w yX Q':=by
 have br:LetsOut Q->LetsOut Q':=λ⟨a,w,h⟩=>⟨a,w,bb a w h⟩;unfold Oper.wpIn at*;refine⟨aU.1,?_⟩;have aU:=aU.2;generalize (o.semAt F.round a.eval).run P w=r at*;cases r with
 | ok x w'=>
  cases x <;> simp[Oper.uponIn] at aU ⊢ <;>
   first
    | exact h _ _ aU
    | exact⟨aU.1,CallsIn.mono aU.2 (λe jW he=>by cases e <;> first | exact h _ _ he | exact ck _ _ _ he | exact br he)⟩
    | exact⟨aU.1,RowsIn.mono aU.2 (λ_ _ he=>h _ _ he)⟩
    | exact⟨aU.1,RoundIn.mono aU.2 (λe jW he=>by cases e <;> first | exact h _ _ he | exact ck _ _ _ he | exact br he)⟩
 | halt x w'=>cases x <;> simp[Oper.uponIn] at aU ⊢ <;> first | exact ck _ _ _ aU | exact aU
def FW(l:cc)(S:Nat->Bool):Prop:=∀i lX,l[i]? =some lX->S i=true->∀j,((hM l []).getD i 0).testBit j=true->S j=true
def eL(S:Nat->Bool)(i:Nat):Nat->Bool:=λj=>if j=i then true else S j
def kv{S}{i j}(h:j≠i):eL S i j=S j:=if_neg h
def wL{S}{i}:eL S i i=true:=if_pos rfl
abbrev Mem:=Nat->Act->cp->World->Prop
abbrev ni:=Nat->cp->World->List PanicEntry->World->Prop
abbrev n2:ni:=λ_ _ _ _ _=>False
def gI(X:ni)(P:Program)(Ve B3:Mem)(l:cc)(env:List (Nat×ab))(o:Oper)(y:ab):Prop:=
 ∀(B:Nat) (I:cp) (w:World) (r:Option Nat) (a:Act) (i:Nat) (Q:Exit->Act->World->Prop) (K:Act->World->Prop),l[i]? =some o->bV B I w->Ve B a I w->(∀t∈looks l o,∀z,aD env t=some z->Rel I w z (a.tmps.getD t undef))->(∀t∈looks l o,t<a.tmps.size)->(∀d,o.dst=some d->d<a.tmps.size)->
  (∀v w' c3,bV B c3 w'->Ext B I w c3 w'->B3 B (a.put o.dst v) c3 w'->Rel c3 w' y v->K (a.put o.dst v) w')->(∀ch w',X B I w ch w'->Q (.panic ch) a w')->wpOpIn (bt r) 0 P l.toArray Q i K a w
def gI.congr{X}{P}{g f}{ops}{env c}{o}{y}(h:gI X P g f ops env o y)(same:∀t∈looks ops o,aD env t=aD c t):gI X P g f ops c o y:=
 λB I w r a i Q K v s l m=>h B I w r a i Q K v s l λt j z q=>m t j z (same t j▸q)
def gI.of{X}{P}{D B3}{l}{env}{o}{y}(aw:o.guard=none)(h:∀(B:Nat) (I:cp) (w:World) (r:Option Nat) (a:Act),bV B I w->D B a I w->fm I w (aD env) a o->(∀d,o.dst=some d->d<a.tmps.size)->
  dt P r o a w (λv w'=>∃j,bV B j w'/\Ext B I w j w'/\B3 B (a.put o.dst v) j w'/\Rel j w' y v) (X B I w)):gI X P D B3 l env o y:=λB I w r a i Q K aQ hw hm bd hn aH eX jZ=>by
 have BI:fm I w (aD env) a o:=λx aK z aH=>by
  cases x with
  | tmp t=>exact bd t (Lq (by simpa using aK)) z aH
  | const v=>simp[iL] at aH;subst aH;exact E6 v
  | global g=>simp[iL] at aH;subst aH;exact .val _
  | func f=>simp[iL] at aH;subst aH;exact .fn _ _ _ _ _ .nil .nil
 unfold wpOpIn;simp[show l.toArray[i]? =some o by simpa using aQ];rw[if_pos (by simp[Region.wanted,aw])];exact h B I w r a hw hm BI aH K Q (λv w' ⟨j,ae,ao,aV,bu⟩=>eX v w' j ae ao aV bu) jZ
def yt.e{X}{P}{H}{l}{env}{o}{y}(h:yt P H l env o y):gI X P (λB _ I w=>a7 B I w H) (λB _ I w=>a7 B I w H) l env o y:=λB I w r a i Q K s q f j m v g t=>
 h.run (c:=⟨B,I,w,0,[]⟩) s q f j m g
def FX(X:ni)(P:Program)(M:(Nat->Bool)->Mem)(l:cc)(i:Nat)(env:List (Nat×ab))(o:Oper)(x:ab):Prop:=
 ∀S,FW l S->(∀j,((hM l []).getD i 0).testBit j=true->S j=true)->S i=false->gI X P (M S) (M (eL S i)) l env o x
def jE(X:ni)(P:Program)(M:(Nat->Bool)->Mem)(l:cc)(n:Nat):Nat->cc->List (Nat×ab)->(List (Nat×ab)->Prop)->Prop
 | _,[],env,K=>K env
 | i,o::rest,env,K=>∃x,FX X P M l i env o x/\ix n o.dst=true/\jE X P M l n (i+1) rest (iK o.dst x env) K
abbrev cH:=jE n2
def LL{X}{P}{M}{ops}{n}:∀(k:Nat) (l:cc) (a:List (Nat×ab)) (K:List (Nat×ab)->Prop),jE X P M ops n k l a K->
  ∃g:bl,g.length=l.length/\K (ln a l g)/\∀i o x,l[i]? =some o->g[i]? =some x->FX X P M ops (k+i) (ln a (l.take i) (g.take i)) o x/\ix n o.dst=true
 | k,[],a,K,h=>⟨[],rfl,h,aS⟩
 | k,o::l,a,K,⟨x,t,q,v⟩=>by
  obtain⟨g,s,r,j⟩:=LL (k+1) l _ K v;refine⟨x::g,by simp[s],r,λi w m f c=>?_⟩;cases i with
  | zero=>
   simp at f c;subst f;subst c;exact⟨t,q⟩
  | succ i=>
   simp at f c;have:=j i w m f c;rw[show k+1+i=k+(i+1) by omega] at this;exact this
theorem jE.mono{X}{P}{M}{ops}{n}{K f}(c:∀a,K a->f a):∀{k:Nat} {l:cc} {a:List (Nat×ab)},jE X P M ops n k l a K->jE X P M ops n k l a f
 | _,[],_,h=>c _ h
 | _,_::_,_,⟨x,g,j,m⟩=>⟨x,g,j,m.mono c⟩
def FY{a:Array Bool}{n k}(g:a.size=n)(h:∀i,a.getD i false=true↔i<k):a.toList.countP (λb=>!b)=n - k:=by
 have e:a.toList=List.replicate (min k n) true++List.replicate (n - k) false:=by
  refine List.ext_getElem (by simp[g];omega) λi j m=>?_;have l:i<a.size:=by simpa using j
  have f:=h i;rw[show a.getD i false=a[i] by simp[Array.getD,l]] at f;rw[List.getElem_append,Array.getElem_toList];split
  ·rename_i c;rw[f.2 (by simp at c;omega)];simp
  ·rename_i c;cases dK:a[i] with
   | false=>simp
   | true=>have:=f.1 dK;simp at c;omega
 rw[e];simp[List.countP_replicate]
def Vf{a:Array Bool}{i c}(h:i<a.size)(f:a.getD i false=false)(j:a.toList.countP (λb=>!b)<=c+1):(a.setIfInBounds i true).toList.countP (λb=>!b)<=c:=by
 have g:a[i]=false:=by simpa [Array.getD,h] using f
 rw[Array.toList_setIfInBounds,List.countP_set gQ];simp[g] at j ⊢;omega
section
variable{c:Ctx}{r:Option Nat}{P:Program}{l:cc}{st:dU}{Q:Exit->Act->World->Prop}
def gp(c:Ctx)(r:Option Nat)(P:Program)(l:cc)(Q:Exit->Act->World->Prop)(k:Nat)(a:Act)(w:World):Prop:=
 ∀(fuel:Nat) (FZ:Array Bool),FZ.size=l.length->(∀i,FZ.getD i false=true↔i<k)->l.length - k<=fuel->wpAnyIn (bt r) 0 P .any l.toArray Q fuel FZ a w
def b0(c:Ctx)(r:Option Nat)(P:Program)(l:cc)(Q:Exit->Act->World->Prop)(k:Nat)(st:dU):Prop:=∀a w,Sat c st a w->gp c r P l Q k a w
def aB.cw{id}(hm:P.follows .mixedOrders=true)(h:b0 c r P l Q 0 st):aB c r P (.region id l.toArray true) st Q:=by
 intro a w s;refine wpIn_region_any hm ?_;show wpAnyIn (bt r) 0 P .any l.toArray Q l.toArray.size (Array.replicate l.toArray.size false) a w.drew;refine h a w.drew ⟨s.ds,s.size,?_⟩ _ _ aS (λi=>by simp[Array.getD]) aS;obtain⟨I,j,m,f,g⟩:=s.mem;exact⟨I,j.drew,m.drew,f.drew,g.bs UP⟩
def aZ.cw{k}(h:b0 c r P l Q k st):aZ c st .normal (Exit.then (gp c r P l Q k) Q):=h
def gp.done{a}{w}(h:Q .normal a w):gp c r P l Q l.length a w:=by
 intro f g s j t;refine wpAnyIn_done (List.eq_nil_iff_forall_not_mem.2 λi x=>?_) h f;obtain⟨q,o,v,_⟩:=mem_ready.1 x;have m:i<l.length:=by simpa using (Array.getElem?_eq_some_iff.1 v).1
 rw[Fh aa,(j i).2 m] at q;cases q
def b0.done{k}(f:k=l.length)(h:aZ c st .normal Q):b0 c r P l Q k st:=λa w s=>by subst f;exact gp.done (h a w s)
def gp.any{k m}{J:(Nat->Bool)->Act->World->Prop}(K:∀i o,l[i]? =some o->∀j∈m9 o,j<i)(tail:∀i,m<=i->i<l.length->∀j,k<=j->j<m->((hM l []).getD i 0).testBit j=true)(a9:k<=m)(im:m<=l.length)
  (V:∀S i o a w,l[i]? =some o->k<=i->i<m->FW l S->(∀j,((hM l []).getD i 0).testBit j=true->S j=true)->S i=false->J S a w->wpOpIn (bt r) 0 P l.toArray Q i (J (eL S i)) a w)
  (a0:∀a w,J (λi=>Nat.blt i m) a w->gp c r P l Q m a w) {a:Act} {w:World} (h:J (λi=>Nat.blt i k) a w):gp c r P l Q k a w:=by
 have A:∀{k:Nat} {f:Array Bool},(∀i,f.getD i false=true↔i<k)->(λs=>f.getD s false)=λi=>Nat.blt i k:=λlY=>funext λi=>by
  rw[Bool.eq_iff_iff,lY];exact⟨λh=>Nat.ble_eq_true_of_le h,λh=>Nat.lt_of_succ_le (by simpa [Nat.blt] using h)⟩
 have L:∀{f:Array Bool} {i:Nat} {o:Oper},Ff l (λi=>f.getD i false=true)->l[i]? =some o->(∀k∈m9 o,f.getD k false=true)->∀j,((hM l []).getD i 0).testBit j=true->f.getD j false=true:=λ{f i o} x E a6=>by
  have:i<(hM l []).length:=by rw[Vd];simpa using (List.getElem?_eq_some_iff.1 E).1
  exact Lm l _ x l [] aS aS aS i _ o (by simp[List.getD,this]) E a6
 have a3:∀(q:Nat) (f:Array Bool) (a:Act) (w:World),f.size=l.length->f.toList.countP (λb=>!b)<=q->Ff l (λi=>f.getD i false=true)->
   (∀i,i<k->f.getD i false=true)->(∀i,f.getD i false=true->i<m)->J (λs=>f.getD s false) a w->wpAnyIn (bt r) 0 P .any l.toArray Q q f a w:=by
  intro q
  induction q with
  | zero=>
   intro f a w v z x F G U;have lY:∀i,f.getD i false=true↔i<m:=λi=>⟨G i,λaQ=>by
    have:=List.countP_eq_zero.1 (Nat.le_zero.1 z) (f[i]'aa) aS;simpa [Array.getD,show i<f.size by omega] using this⟩
   rw[A lY] at U;exact a0 a w U 0 f v lY (by rw[<-FY v lY];exact z)
  | succ q fv=>
   intro f a w v z x F G U;by_cases B4:∀i,i<m->f.getD i false=true
   ·have lY:∀i,f.getD i false=true↔i<m:=λi=>⟨G i,B4 i⟩;rw[A lY] at U;exact a0 a w U _ f v lY (by rw[<-FY v lY];exact z)
   obtain⟨M,X,H,Y⟩:∃i,i<m/\f.getD i false=false/\∀j,j<i->f.getD j false=true:=by
    obtain⟨i,D⟩:=Classical.not_forall.1 B4
    induction i using Nat.strongRecOn with
    | _ i a4=>
     by_cases aK:∃j,j<i/\f.getD j false=false
     ·obtain⟨j,t,Z⟩:=aK;exact a4 j t λh=>by rw[h (by have:=Classical.not_imp.1 D;omega)] at Z;cases Z
     ·obtain⟨O,ao⟩:=Classical.not_imp.1 D;exact⟨i,O,sZ,λj t=>by simpa using λh=>aK ⟨j,t,h⟩⟩
   have bF:k<=M:=Nat.le_of_not_lt λh=>by rw[F M h] at H;cases H
   refine⟨λaf=>?_,λi D=>?_⟩
   ·have:M∈Region.ready .any l.toArray f:=by
     rw[mem_ready];refine⟨by rw[Fh aa];exact H,l[M],aS,λe he T=>Y _ (K M _ (List.getElem?_eq_getElem aa) e.on ?_)⟩;simp only[m9,List.mem_filterMap];exact⟨e,by simpa using he,by simp[T]⟩
    rw[af] at this;cases this
   ·obtain⟨O,o,ao,aV⟩:=mem_ready.1 D;have E:l[i]? =some o:=by simpa using ao
    have fw:i<l.length:=(List.getElem?_eq_some_iff.1 E).1;rw[Fh aa] at O;have C:∀k∈m9 o,f.getD k false=true:=by
     intro k W;simp only[m9,List.mem_filterMap] at W;obtain⟨e,he,T⟩:=W;split at T
     ·rename_i hN;simp at T;subst T;exact aV e (by simpa using he) hN
     ·cases T
    have I:=L x E C;have a5:k<=i:=Nat.le_of_not_lt λh=>by rw[F i h] at O;cases O
    have gF:i<m:=Nat.lt_of_not_le λh=>by
     have:=I M (tail i h fw M bF X);rw[H] at this;cases this
    have B:∀j,(f.setIfInBounds i true).getD j false=if i=j then true else f.getD j false:=λj=>uB _ _ _ aa
    have N:(λs=>(f.setIfInBounds i true).getD s false)=eL (λs=>f.getD s false) i:=funext λj=>by
     rw[B];unfold eL;by_cases e:i=j
     ·rw[if_pos e,if_pos e.symm]
     ·rw[if_neg e,if_neg λh=>e h.symm]
    refine wpOpIn_mono (λkA w' t=>fv (f.setIfInBounds i true) kA w' (by simp[v]) (Vf aa O z) ?_ ?_ ?_ (by rw[N];exact t)) (V _ i o a w E a5 gF (λs os a2 b6 j t=>L x a2 (λj t=>x s _ b6 a2 j t) j t) I O U)
    ·intro j mA t R gT W;rw[B] at t ⊢;split
     ·rfl
     ·split at t
      ·rename_i e;subst e;rw[E] at R;cases R;exact C gT W
      ·exact x j mA t R gT W
    ·intro j t;rw[B];split
     ·rfl
     ·exact F j t
    ·intro j t;rw[B] at t;split at t
     ·omega
     ·exact G j t
 intro q f v lY z;exact a3 q f a w v (by rw[FY v lY];exact z) (λi o D E j t=>(lY j).2 (by have:=K i o E j t;have:=(lY i).1 D;omega)) (λi D=>(lY i).2 D) (λi D=>by have:=(lY i).1 D;omega) (by rw[A lY];exact h)
def gp.one{k}{o}(m:∀i o,l[i]? =some o->∀j∈m9 o,j<i)(tail:∀i,k<i->i<l.length->((hM l []).getD i 0).testBit k=true)(s:l[k]? =some o){a}{w}(h:wpListIn (bt r) 0 P l.toArray (Exit.then (gp c r P l Q (k+1)) Q) [o] a w):gp c r P l Q k a w:=by
 have fo:Nat.blt k k=false:=by rw[Bool.eq_false_iff];intro h;have:=Nat.lt_of_succ_le (by simpa [Nat.blt] using h);omega
 have t:Nat.blt k (k+1)=true:=Nat.ble_eq_true_of_le (Nat.le_refl _);refine gp.any (J:=λS a w=>if S k then gp c r P l Q (k+1) a w else wpListIn (bt r) 0 P l.toArray (Exit.then (gp c r P l Q (k+1)) Q) [o] a w) m (λi x v j A C=>by obtain rfl:j=k:=aa;exact tail i x v) (Nat.le_succ k) (List.getElem?_eq_some_iff.1 s).1 (λS i B a w q x v _ _ z g=>?_) (λa w g=>by rwa [if_pos t] at g) (by rw[if_neg (by show ¬Nat.blt k k=true;rw[fo];simp)];exact h);obtain rfl:i=k:=by omega
 rw[s] at q;cases q;rw[if_neg (by rw[z];simp)] at g;have e:(λa w=>if eL S i i then gp c r P l Q (i+1) a w else wpListIn (bt r) 0 P l.toArray (Exit.then (gp c r P l Q (i+1)) Q) [o] a w)=gp c r P l Q (i+1):=by funext a w;rw[if_pos wL]
 unfold wpOpIn;simp[show l.toArray[i]? =some o by simpa using s,e];unfold wpListIn at g;split at g
 ·rename_i f;rw[if_pos f];exact LK (λ_ _ h=>h) (λ_ _ _ h=>h) (λ_ _ h=>h) g
 ·rename_i f;rw[if_neg f,if_pos wL];exact g
def b0.one{k}{o}(f:mz l k (k+1))(m:l[k]? =some o)(h:aj c r P l.toArray [o] st (Exit.then (gp c r P l Q (k+1)) Q)):b0 c r P l Q k st:=λa w s=>gp.one (FU f).back (λi g j=>(FU f).tail i g j k (Nat.le_refl _) (Nat.lt_succ_self _)) m (h a w s)
def F0(l:cc)(k:Nat):Bool:=
 let ms:=hM l []
 (l.zipIdx.all λp=>(m9 p.1).all λj=>Nat.blt j p.2) &&
 (l.zipIdx.all λp=>Nat.blt p.2 k || (List.range p.2).all λj=>Nat.blt j k || (ms.getD p.2 0).testBit j)
def b0.tail{k}(g:F0 l k)(H:k<=l.length)(h:aj c r P l.toArray (l.drop k) st Q):b0 c r P l Q k st:=by
 simp only[F0,Bool.and_eq_true,List.all_eq_true,Bool.or_eq_true] at g;obtain⟨E,B⟩:=g;have lt:∀{a b:Nat},Nat.blt a b=true->a<b:=λh=>Nat.lt_of_succ_le (by simpa [Nat.blt] using h);have x:∀(q p:Nat) (a:Act) (w:World),k<=p->p+q=l.length->wpListIn (bt r) 0 P l.toArray Q (l.drop p) a w->gp c r P l Q p a w:=by
  intro q
  induction q with
  | zero=>
   intro p a w A G h;obtain rfl:p=l.length:=by omega
   rw[List.drop_length] at h;exact gp.done h
  | succ q F=>
   intro p a w A G h;have m:p<l.length:=by omega
   rw[List.drop_eq_getElem_cons m] at h;refine gp.one (λi o C j I=>lt (E _ (wC C) j I)) (λi aQ D=>?_) (List.getElem?_eq_getElem m) ?_
   ·rcases B _ (wC (List.getElem?_eq_getElem D)) with v | v
    ·have:=lt v;simp at this;omega
    ·rcases v p m3 with t | t
     ·have:=lt t;omega
     ·exact t
   ·have z:∀a w,wpListIn (bt r) 0 P l.toArray Q (l.drop (p+1)) a w->wpListIn (bt r) 0 P l.toArray (Exit.then (gp c r P l Q (p+1)) Q) [] a w:=λa w h=>F (p+1) a w aa aa h;unfold wpListIn at h ⊢;split at h
    ·rename_i f;rw[if_pos f];exact LK z (λ_ _ _ h=>h) (λ_ _ h=>h) h
    ·rename_i f;rw[if_neg f];exact⟨h.1,z _ _ h.2⟩
 exact λa w s=>x (l.length - k) k a w (Nat.le_refl _) aa (h a w s)
def gp.LM{X}{k m}{x}{M}{env}(aK:∀t,x t=true->aD env t=some .any)(kB:yV l k m x)(lq:k<=m)(gO:m<=l.length)(mu:(l.all λo=>(looks l o).all λt=>Nat.blt t c.n)=true)
  (oP:∀(I:cp) (w:World) (a:Act) ch w',a.defers=c.ds->a.tmps.size=c.n->bV c.B I w->Ext c.B c.c5 c.bW I w->X c.B I w ch w'->Q (.panic ch) a w')
  (h:jE X P M l c.n k ((l.drop k).take (m - k)) env λenv=>(∀t,x t=true->aD env t=some .any)/\∀a w I,a.defers=c.ds->a.tmps.size=c.n->bV c.B I w->Ext c.B c.c5 c.bW I w->M (λi=>Nat.blt i m) c.B a I w->fM I w (aD env) a->gp c r P l Q m a w)
  {a} {w} {I} (s1:a.defers=c.ds) (s2:a.tmps.size=c.n) (rX:bV c.B I w) (yL:Ext c.B c.c5 c.bW I w) (Vg:M (λi=>Nat.blt i k) c.B a I w) (Vh:fM I w (aD env) a):gp c r P l Q k a w:=by
 have ok:=FU kB;obtain⟨xs,B5,⟨F1,LN⟩,Vi⟩:=LL _ _ _ _ h;have wM:xs.length=m - k:=by rw[B5,List.length_take,List.length_drop];omega
 generalize jF:(l.drop k).take (m - k)=S at*;have wN:∀(i:Nat) (o:Oper),S[i]? =some o↔i<m - k/\l[k+i]? =some o:=by
  intro i o;rw[<-jF,List.getElem?_take];by_cases aQ:i<m - k
  ·rw[if_pos aQ,List.getElem?_drop];simp[aQ]
  ·rw[if_neg aQ];simp[aQ]
 generalize hF:ln env S xs=envF at LN F1;have Vj:∀(i:Nat) (o:Oper),l[i]? =some o->∀t∈looks l o,t<c.n:=by
  intro i o bb t ht;simp only[List.all_eq_true] at mu;have:=mu o (List.mem_of_getElem? bb) t ht;exact Nat.lt_of_succ_le (by simpa [Nat.blt] using this)
 have Vk:∀(i:Nat) (o:Oper) (x:ab) (t:Nat),i<m - k->l[k+i]? =some o->xs[i]? =some x->o.dst=some t->aD envF t=some x:=by
  intro i o x t aQ bb aK a6;rw[<-hF];refine Lo S xs env i t o x ((wN i o).2 ⟨aQ,bb⟩) aK a6 (λj o' lZ e=>?_);obtain⟨cm,qE⟩:=(wN _ _).1 lZ;rcases Nat.decEq j i with hv | he
  ·exact absurd a6 (ok.apart (k+i) o (k+j) o' t aa aa bb aa aa qE e aa)
  ·exact he
 have fin:∀(i:Nat) (o:Oper) (y:ab),i<m - k->l[k+i]? =some o->xs[i]? =some y->FX X P M l (k+i) envF o y/\ix c.n o.dst=true:=by
  intro i o y aQ bb hy;obtain⟨ae,ao⟩:=Vi i o y ((wN i o).2 ⟨aQ,bb⟩) hy;refine⟨λT Vl Vm Vn=>(ae T Vl Vm Vn).congr λt ht=>?_,ao⟩;have sp:=Lp i S xs env B5;by_cases hw:∃j o',S[i+j]? =some o'/\o'.dst=some t
  ·obtain⟨j,o',lZ,e⟩:=hw;obtain⟨cm,qE⟩:=(wN _ _).1 lZ;rcases ok.looked (k+i) o (k+(i+j)) o' t aa aa bb aa aa qE e ht with aV | aV
   ·rw[F1 t aV,yu _ _ _ _ λuR fx yY bL=>?_]
    ·exact aK t aV
    ·have td:uR<i:=by
      have:=(List.getElem?_eq_some_iff.1 yY).1;rw[List.length_take] at this;omega
     rw[List.getElem?_take,if_pos td] at yY;obtain⟨bu,cr⟩:=(wN _ _).1 yY;exact ok.apart (k+uR) fx (k+(i+j)) o' t aa aa cr aa aa qE e aa bL
   ·omega
  ·rw[<-hF,sp];refine (yu _ _ _ _ λj o' lZ e=>hw ⟨j,o',by rw[List.getElem?_drop] at lZ;exact lZ,e⟩).symm
 refine gp.any (J:=λS a w=>a.defers=c.ds/\a.tmps.size=c.n/\∃I,bV c.B I w/\Ext c.B c.c5 c.bW I w/\M S c.B a I w/\∀t y,aD envF t=some y->(∀(i:Nat) (o:Oper),i<m - k->l[k+i]? =some o->o.dst=some t->S (k+i)=true)->Rel I w y (a.tmps.getD t undef)) ok.back ok.tail lq gO ?_ ?_ ?_
 ·rintro S i o a w bb r0 Vo B6 LO F2 ⟨a6,wO,I,hw,he,aU,bd⟩;obtain⟨q,rfl⟩:∃q,i=k+q:=⟨i - k,aa⟩;have cd:q<m - k:=by omega
  have LP:xs[q]? =some xs[q]:=List.getElem?_eq_getElem aa;obtain⟨dZ,LQ⟩:=fin q o _ cd bb LP;have LR:∀d,o.dst=some d->d<a.tmps.size:=λd a6=>by rw[wO];rw[a6] at LQ;exact Nat.lt_of_succ_le (by simpa [ix,Nat.blt] using LQ)
  refine dZ S B6 LO F2 c.B I w r a _ _ _ bb hw aU (λt ht z aH=>by
   cases wP:x t with
   | true=>rw[F1 t wP] at aH;cases aH;exact .any _
   | false=>exact bd t z aH λuR o' td lZ B7=>LO _ ((ok.looked (k+q) o (k+uR) o' t r0 Vo bb aa aa lZ B7 ht).resolve_left (by rw[wP];simp)).2) (λt ht=>by rw[wO];exact Vj _ o bb t ht) LR ?_ (λch w' aK=>oP I w a ch w' a6 wO hw he aK)
  intro v w' c3 n3 wQ yZ aK;refine⟨by rw[put_defers];exact a6,by rw[EH];exact wO,c3,n3,he.trans wQ,yZ,λt x wP F3=>?_⟩;by_cases y0:o.dst=some t
  ·rw[Vk q o _ t cd bb LP y0] at wP;cases wP;rw[y0,px (LR t y0)];exact aK
  ·have hold:Rel I w x (a.tmps.getD t undef):=bd t x wP λuR o' td lZ B7=>by
    have:=F3 uR o' td lZ B7;rwa [kv λe=>by
     obtain rfl:uR=q:=by omega
     rw[bb] at lZ;cases lZ;exact y0 B7] at this
   rw[show (a.put o.dst v).tmps.getD t undef=a.tmps.getD t undef by
    cases hod:o.dst with
    | none=>rfl
    | some d=>exact lk (λe=>y0 (by rw[hod,e]))]
   exact hold.bs wQ.keeps
 ·rintro a w ⟨a6,wO,I,hw,he,aU,bd⟩;exact LN a w I a6 wO hw he aU λt x aK=>bd t x aK λi _ aQ _ _=>Nat.ble_eq_true_of_le aa
 ·refine⟨s1,s2,I,rX,yL,Vg,λt y hy F3=>Vh t y ?_⟩;rw[<-hy, <-hF];refine (yu _ _ _ _ λi o bb e=>?_).symm;obtain⟨ae,ao⟩:=(wN i o).1 bb;have:=ta (F3 i o ae ao e);omega
def b0.LS{X}{k m}{M}(f:mz l k m)(j:k<=m)(v:m<=l.length)(q:(l.all λo=>(looks l o).all λt=>Nat.blt t c.n)=true)(C:∀B a I w,a7 B I w st.H->M (λi=>Nat.blt i k) B a I w)
  (oP:∀(I:cp) (w:World) (a:Act) ch w',a.defers=c.ds->a.tmps.size=c.n->bV c.B I w->Ext c.B c.c5 c.bW I w->X c.B I w ch w'->Q (.panic ch) a w')
  (h:jE X P M l c.n k ((l.drop k).take (m - k)) st.env λenv=>∀a w I,a.defers=c.ds->a.tmps.size=c.n->bV c.B I w->Ext c.B c.c5 c.bW I w->M (λi=>Nat.blt i m) c.B a I w->fM I w (aD env) a->gp c r P l Q m a w):b0 c r P l Q k st:=λa w s=>by
 obtain⟨I,D,E,z,A⟩:=s.mem;exact gp.LM (x:=λ_=>false) (λ_ h=>by cases h) f j v q oP (.mono (λenv h=>⟨λ_ h=>(by cases h),h⟩) h) s.ds s.size D E (C _ _ _ _ z) A
def b0.B8{k m}{M}(f:mz l k m)(q:k<=m)(g:m<=l.length)(s:(l.all λo=>(looks l o).all λt=>Nat.blt t c.n)=true)(v:∀B a I w,a7 B I w st.H->M (λi=>Nat.blt i k) B a I w)
  (h:cH P M l c.n k ((l.drop k).take (m - k)) st.env λenv=>∀a w I,a.defers=c.ds->a.tmps.size=c.n->bV c.B I w->Ext c.B c.c5 c.bW I w->M (λi=>Nat.blt i m) c.B a I w->fM I w (aD env) a->gp c r P l Q m a w):b0 c r P l Q k st:=
 .LS f q g s v (λ_ _ _ _ _ _ _ _ _ h=>h.elim) h
theorem eO.u{X}{H}{ops}{n}:∀{l:cc} {i:Nat} {env:List (Nat×ab)} {K:List (Nat×ab)->Prop},eO P H ops n l env K->jE X P (λ_ B _ I w=>a7 B I w H) ops n i l env K
 | [],_,_,_,h=>h
 | _::_,_,_,_,⟨x,a,c,f⟩=>⟨x,λ_ _ _ _=>a.e,c,f.u⟩
def b0.any{k m}(f:mz l k m)(j:k<=m)(s:m<=l.length)(q:(l.all λo=>(looks l o).all λt=>Nat.blt t c.n)=true)
  (h:eO P st.H l c.n ((l.drop k).take (m - k)) st.env λenv=>b0 c r P l Q m ⟨env,st.H⟩):b0 c r P l Q k st:=b0.B8 (M:=λ_ B _ I w=>a7 B I w st.H) f j s q (λ_ _ _ _ h=>h) (jE.mono (λenv z a w I E v x C A D=>z a w ⟨E,v,I,x,C,A,D⟩) h.u)
def b0.dG{env}{H}(k m n)(hn:c.n=n)(f:mz l k m)(j:Nat.ble k m)(g:Nat.ble m l.length)(mu:(l.all λo=>(looks l o).all λt=>Nat.blt t n)=true)
  (h:eO P H l c.n ((l.drop k).take (m - k)) env λenv=>b0 c r P l Q m ⟨env,H⟩):b0 c r P l Q k ⟨env,H⟩:=
 .any f (Nat.le_of_ble_eq_true j) (Nat.le_of_ble_eq_true g) qq h
def b0.Vp(k)(a:F0 l k)(f:Nat.ble k l.length)(h:aj c r P l.toArray (l.drop k) st Q):b0 c r P l Q k st:=.tail a (Nat.le_of_ble_eq_true f) h
end
section
variable{c:Ctx}{r:Option Nat}{P:Program}{ops:Array Oper}{l rest:cc}{o:Oper}{env:List (Nat×ab)}{H:aA}{Q:Exit->Act->World->Prop}{x:ab}{d n:Nat}
def B9(B:Nat)(I:cp)(w:World)(eu:ab->aA->Prop):Value->World->Prop:=λv w'=>∃c3 H' x,bV B c3 w'/\Ext B I w c3 w'/\a7 B c3 w' H'/\Rel c3 w' x v/\eu x H'
def Ca{a}{w}{I}{f}{xs}{z}{ρ}(t:gD P ρ o f xs)(h:eK c.B P f xs H z (λ_ _=>False))(K:bV c.B I w)(D:a7 c.B I w H)(C:fm I w ρ a o):
  dt P r o a w (B9 c.B I w z) (λ_ _=>False):=by
 obtain⟨E,G,A⟩:=t.run I w a C;obtain⟨q,g⟩:=h;refine .qu t.rO (A q) ((g I w E K D G).mono λe L j=>?_);obtain⟨F,J,s,m,l,j⟩:=j;rcases j with⟨v,x,rfl,aK,r1⟩ | ⟨v,x,rfl,aK,jX⟩
 ·exact⟨F,J,x,s,m,l,aK,r1⟩
 ·exact jX.elim
def Vq{a}{w}{I}{y}{args}{K}{F}{ys}{xs}{g}{q}{ρ}(h:o.op= .call {callee:=.value y,args:=args,argTypes:=K})
  (m:aN ρ y=some (g,F)) (U:g=true) (M:jg ρ args.toList=some ys) (E:ys.all (·.1)=true) (t:c0 (ys.map (·.2)) xs)
  (O:eY c.B P F xs H q (λ_ _=>False)) (W:bV c.B I w) (N:a7 c.B I w H) (J:fm I w ρ a o):dt P r o a w (B9 c.B I w q) (λ_ _=>False):=by
 have R:=J.get gB m U;have L:=t.rel (s3 J args.toList ys (λz T=>by simp[h,Op.operands,Call.operands];right;simpa using T) M (by simpa using E));have j:∀e C,e4 c.B I w q (λ_ _=>False) e C->match e with
   | .returned v=>B9 c.B I w q v C
   | .panicked X=>False
   | .outgrown=>False:=by
  rintro e C ⟨Q,S,D,A,z,⟨v,x,rfl,m,s⟩ | ⟨v,x,rfl,m,V⟩⟩
  ·exact⟨Q,S,x,D,A,z,m,s⟩
  ·exact V
 have G:(args.toList.map a.eval).toArray=args.map a.eval:=by apply Array.ext';simp
 rcases O I w _ _ W N R L with⟨f,jA,hr,bM,hL,nW⟩ | ⟨l,bM,fn,tmps,assign,body,hy,hR⟩
 ·rw[G] at nW;exact .qu cf (Fe h hL a w bM) (nW.mono j)
 ·rw[G] at hy;exact .Le cf (LC h a w bM hy) (hR.mono j)
def aj.LU{j k}{want G}{eu}(V:o.guard=some (j,want))(W:(ops[j]?).bind (·.dst)=some k)(J:Nat.blt k c.n)(T:m6 (aD env k) want=some G)
  (K:o.dst=some d) (hn:Nat.blt d c.n) (h:G=true->∀(a:Act) (w:World) (I:cp),bV c.B I w->a7 c.B I w H->fm I w (aD env) a o->dt P r o a w (B9 c.B I w eu) (λ_ _=>False))
  (next:∀y A,(G=true->eu y A)->(G=false->y= .b false/\A=H)->aj c r P ops rest ⟨(d,.opt G y)::env,A⟩ Q):aj c r P ops (o::rest) ⟨env,H⟩ Q:=by
 intro a w s;obtain⟨I,O,M,N,C⟩:=s.mem;have m:=E7 (I:=I) (w:=w) (a:=a) W V (λz S=>C k z S) T (by rw[s.size];exact Nat.lt_of_succ_le (by simpa [Nat.blt] using J));unfold wpListIn;rw[m];have t:=gH K hn;cases G with
 | true=>
  rw[if_pos rfl];refine h rfl a w I O N (C.ops o) _ Q ?_ λ_ _ h=>h.elim;rintro v w' ⟨U,A,x,E,q,D,R,r1⟩;refine next x A (λ_=>r1) (λe=>by cases e) _ _ ⟨iJ,iI,U,E,M.trans q,D,?_⟩;have:=(C.bs q.keeps).put (dst:=o.dst) (by rw[s.size];exact t) (.opt true x v (λ_=>R) λe=>by cases e);rw[K] at this ⊢;exact this
 | false=>
  rw[if_neg aS];refine⟨λ_ _=>trivial,next (.b false) H (λe=>by cases e) (λ_=>⟨rfl,rfl⟩) _ _ ⟨iJ,iI,I,O,M,N,?_⟩⟩;have:=C.put (dst:=o.dst) (by rw[s.size];exact t) (.opt false (.b false) undef (λe=>by cases e) λ_=>rfl);rw[K] at this ⊢;exact this
def aj.LV{j k}{g G}{f}{xs}{q}(z:o.guard=some (j,g))(D:(ops[j]?).bind (·.dst)=some k)(l:Nat.blt k c.n)(A:m6 (aD env k) g=some G)
  (x:o.dst=some d) (hn:Nat.blt d c.n) (s:G=true->gD P (aD env) o f xs) (h:G=true->eK c.B P f xs H q (λ_ _=>False))
  (next:∀y m,(G=true->q y m)->(G=false->y= .b false/\m=H)->aj c r P ops rest ⟨(d,.opt G y)::env,m⟩ Q):aj c r P ops (o::rest) ⟨env,H⟩ Q:=
 .LU z D l A x hn (λe a w I C v t=>Ca (s e) (h e) C v t) next
def aj.LW{j k}{f G}{y}{args}{A}{v}{ys}{xs}{g}{x}(m:o.guard=some (j,f))(N:(ops[j]?).bind (·.dst)=some k)(l:Nat.blt k c.n)(L:m6 (aD env k) f=some G)
  (J:o.dst=some d) (hn:Nat.blt d c.n) (h:o.op= .call {callee:=.value y,args:=args,argTypes:=A})
  (z:aN (aD env) y=some (g,v)) (K:G=true->g=true) (D:jg (aD env) args.toList=some ys) (t:G=true->ys.all (·.1)=true) (q:c0 (ys.map (·.2)) xs) (F:G=true->eY c.B P v xs H x (λ_ _=>False))
  (next:∀y s,(G=true->x y s)->(G=false->y= .b false/\s=H)->aj c r P ops rest ⟨(d,.opt G y)::env,s⟩ Q):aj c r P ops (o::rest) ⟨env,H⟩ Q:=
 .LU m N l L J hn (λe a w I M E C=>Vq h z (K e) D (t e) q (F e) M E C) next
end
end Go.Eng

