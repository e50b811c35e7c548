/- A part of the proof. No condition. -/
import Derived.Test.YtodccgailpkgeaaGreatKindClosesP2
import Derived.Laws.Cover3
set_option linter.defProp false
set_option maxHeartbeats 1000000
set_option linter.unusedVariables false
set_option linter.unusedSimpArgs false
namespace Go.Eng
open Go.RowKit (Below)
def o0{α:Type}(B:Nat)(P:Program)(g:ab)(enc:α->ab)(L:List α)(F:aC->Prop)(J Jx:List α->aC->Prop):Prop:=
 ∀pre x H Hx,pre++[x]<+:L->F Hx->J pre H->eZ B P g [enc x] (H++Hx) (λy H'=>∃b H1,y= .b b/\H'=H1++Hx/\(b=true->J (pre++[x]) H1)/\(b=false->Jx (pre++[x]) H1)) (λ_ _=>False)
def yK{α:Type}(B:Nat)(P:Program)(r1:ab)(enc:α->ab)(L:List α):Prop:=
 ∀(J Jx:List α->aC->Prop) (f:Fn) (cA cs:bl),o0 B P (.fn f cA cs) enc L (λ_=>True) J Jx->∀H Hx,J [] H->
  eZ B P r1 [.fn f cA cs] (H++Hx) (λ_ H'=>∃H1,H'=H1++Hx/\(J L H1\/∃pre,pre<+:L/\Jx pre H1)) (λ_ _=>False)
def a7.newObj{B}{I}{w}{H}(h:a7 B I w H)(a:bY B I w)(o):a7 B I (w.alloc o) (.obj w.heap.size o::H):=by
 have j:=h.alloc a o;refine⟨λe c=>?_,List.pairwise_cons.2 ⟨λf m b g=>?_,j.apart⟩⟩
 ·rcases List.mem_cons.1 c with rfl | c
  ·exact⟨a.base,World.alloc_heap_new w o,λo' l=>absurd (a.lt l) (Nat.lt_irrefl _)⟩
  ·exact j.ok e c
 ·simp[br.dY] at g;subst g;intro e;exact absurd (br.lX (h.ok f m) e).2 (Nat.lt_irrefl _)
def pN{B:Nat}{I}{w}{b}{o'}(c:∀o,¬I b o):er I w I (w.putObj b o'):=
 ⟨λ_ _ x=>x,λdL o x=>World.cell?_of_block (a:=⟨dL,o,none⟩) (World.putObj_heap_other (λe=>c o (e▸x)))⟩
def bY.putObj{B}{I}{w}(h:bY B I w){b}{o'}(a:∀o,¬I b o):bY B I (w.putObj b o'):=
 ⟨by simpa using h.base,λdL o x=>by rw[(pN (B:=B) (o':=o') a).cell dL o x];exact h.there dL o x⟩
def VH{B b}{w}{o}(h:B<=b):Below B w (w.putObj b o):=
 ⟨rfl,rfl,rfl,aT,λj a=>World.putObj_heap_other aa⟩
def a7.uI{B}{I}{w}{H H'}{b}{g lp'}{ρ}(h:a7 B I w H)(hu:bG H (.loop b g ρ) (.loop b lp' ρ) H')(ht:lp'.tmps=g.tmps):a7 B I (w.putObj b (.loop lp')) H':=by
 obtain⟨m,q,o,a⟩:=h.ok _ hu.mem;refine h.fE hu (pN (B:=B) a) (λk f c=>World.putObj_heap_other (λe=>c (by rw[e];rfl))) (λ_ _ x=>.inl x) ⟨m,World.putObj_heap_same (Array.getElem?_eq_some_iff.1 q).1,λt x l=>?_,a⟩ λk f=>.inl f;rw[ht];exact (o t x l).bw (pN (B:=B) a)
def a7.L1{B}{I}{w}{H}(h:a7 B I w H)(c:bY B I w)(a)(ρ)(g:∀t x,ρ t=some x->Rel I w x (a.tmps.getD t undef)):a7 B I (w.alloc (.loop a)) (.loop w.heap.size a ρ::H):=by
 have m:=h.alloc c (.loop a);refine⟨λe j=>?_,List.pairwise_cons.2 ⟨λf q b l=>?_,m.apart⟩⟩
 ·rcases List.mem_cons.1 j with rfl | j
  ·exact⟨c.base,World.alloc_heap_new w _,λt x o=>(g t x o).bw (lY c _),λo' r=>absurd (c.lt r) (Nat.lt_irrefl _)⟩
  ·exact m.ok e j
 ·simp[br.dY] at l;subst l;intro e;exact absurd (br.lX (h.ok f q) e).2 (Nat.lt_irrefl _)
def Ext.putObj{B}{I}{w}{b}{o'}(c:B<=b)(a:∀o,¬I b o):Ext B I w I (w.putObj b o'):=
 ⟨λ_ _ x=>x,(pN (B:=B) a).cell,VH c⟩
def wH{α:Type}(B:Nat)(c9:cr)(bN:World)(l D:Nat)(fD:Loop)(ρ:Nat->Option ab)(J:List α->aC->Prop)(Jx:Code->List α->aC->Prop)(pre:List α)(Hx:aC):Exit->Act->World->Prop:=λe _ w=>
 ∃I H,bY B I w/\Ext B c9 bN I w/\a7 B I w (.loop l fD ρ::.obj D (.deferred (some []))::(H++Hx))/\
  match e with
  | .normal=>J pre H
  | .ret=>Jx .ret pre H
  | .exit id=>Jx (.exit id) pre H
  | _=>False
def uJ{α:Type}(B:Nat)(P:Program)(g:ab)(enc:α->ab)(L:List α)(F:aC->Prop)(J Jx:List α->aC->Prop):Prop:=
 ∀pre x H Hx,pre++[x]<+:L->F Hx->J pre H->eZ B P g [enc x] (H++Hx) (λy H'=>∃b H1,y= .b b/\H'=H1++Hx/\(b=false->J (pre++[x]) H1)/\(b=true->Jx (pre++[x]) H1)) (λ_ _=>False)
def nu{α:Type}(P:Program)(iH:aC)(g:ab)(enc:α->ab)(l:List α)(p:α->Bool):Prop:=∀x∈l,∀B H,(∀e∈iH,e∈H)->eZ B P g [enc x] H (λy H'=>y= .b (p x)/\H'=H) (λ_ _=>False)
def n6{α:Type}(P:Program)(g:ab)(enc:α->ab)(p:α->Bool):Prop:=∀B x H,eZ B P g [enc x] H (λy H'=>y= .b (p x)/\H'=H) (λ_ _=>False)
def n6.on{a}{P}{g}{enc}{p}(h:n6 P g enc p)(l:List a):nu P [] g enc l p:=λx _ B H _=>h B x H
def nu.find{A:Type}{B}{P}{E}{g}{enc:A->ab}{l:List A}{p:A->Bool}(h:nu P E g enc l p):uJ B P g enc l (λHx=>∀e∈E,e∈Hx) (λpre H=>H= []/\∀x∈pre,p x=false) (λpre H=>H= []/\∃q x,pre=q++[x]/\(∀y∈q,p y=false)/\p x=true):=by
 rintro pre x H Hx D L ⟨rfl,F⟩ I w v G J N O C;have:=h x (D.subset aT) B Hx L I w v G J N O C;have m:∀e t,e5 B I w (λy o=>y= .b (p x)/\o=Hx) (λ_ _=>False) e t->e5 B I w (λy o=>∃b s,y= .b b/\o=s++Hx/\(b=false->s= []/\∀y∈pre++[x],p y=false)/\(b=true->s= []/\∃q z,pre++[x]=q++[z]/\(∀y∈q,p y=false)/\p z=true)) (λ_ _=>False) e t:=by
  rintro e t ⟨Q,o,a,b,d,M⟩;refine⟨Q,o,a,b,d,M.elim (λ⟨v,y,bM,bJ,e6,ns⟩=>.inl ⟨v,y,bM,bJ,p x,[],e6,by simp[ns],λba=>⟨rfl,λy j=>?_⟩,λba=>⟨rfl,pre,x,rfl,F,ba⟩⟩) (λ⟨_,_,_,_,h⟩=>h.elim)⟩;rcases List.mem_append.1 j with j | j
  ·exact F y j
  ·simp at j;subst j;exact ba
 exact this.elim (λ⟨f,jI,hs,e,hO,a1⟩=>.inl ⟨f,jI,hs,e,hO,a1.mono m⟩) λ⟨l,e,j⟩=>.inr ⟨l,e,j.mono m⟩
section
variable{c:Ctx}{r:Option Nat}{P:Program}{ops:Array Oper}{rest:cg}{o:Oper}{st:dT}{Q:Exit->Act->World->Prop}{x:ab}
def aZ.mH{a:Type}{B}{c}{g}{n l D}{f}{ρ}{J:List a->aC->Prop}{Jx:Code->List a->aC->Prop}{pre:List a}{H Hx}{ds}
  (j:(.loop l f ρ::.obj D (.deferred (some []))::(H++Hx)).Sublist st.H) (h:J pre H):aZ ⟨B,c,g,n,ds⟩ st .normal (wH B c g l D f ρ J Jx pre Hx):=λa w s=>
 let ⟨I,hw,he,aW,bd⟩:=s.mem;⟨I,H,hw,he,aW.sub j,h⟩
def aZ.FB{a:Type}{B}{c}{g}{n l D}{f}{ρ}{J:List a->aC->Prop}{Jx:Code->List a->aC->Prop}{pre:List a}{H Hx}{ds}
  (j:(.loop l f ρ::.obj D (.deferred (some []))::(H++Hx)).Sublist st.H) (h:Jx .ret pre H):aZ ⟨B,c,g,n,ds⟩ st .ret (wH B c g l D f ρ J Jx pre Hx):=λa w s=>
 let ⟨I,hw,he,aW,bd⟩:=s.mem;⟨I,H,hw,he,aW.sub j,h⟩
def aZ.VI{a:Type}{B}{c}{g}{n l D id}{f}{ρ}{J:List a->aC->Prop}{Jx:Code->List a->aC->Prop}{pre:List a}{H Hx}{ds}
  (j:(.loop l f ρ::.obj D (.deferred (some []))::(H++Hx)).Sublist st.H) (h:Jx (.exit id) pre H):aZ ⟨B,c,g,n,ds⟩ st (.exit id) (wH B c g l D f ρ J Jx pre Hx):=λa w s=>
 let ⟨I,hw,he,aW,bd⟩:=s.mem;⟨I,H,hw,he,aW.sub j,h⟩
def e5.mono{B}{I}{w}{f c}{E g}{e}{w'}(h:e5 B I w f E e w')(l:∀y H,f y H->c y H)(o:∀y H,E y H->g y H):e5 B I w c g e w':=by
 obtain⟨q,m,a,b,d,j⟩:=h;exact⟨q,m,a,b,d,j.elim (λ⟨v,x,bM,bJ,e6⟩=>.inl ⟨v,x,bM,bJ,l _ _ e6⟩) (λ⟨v,x,bM,bJ,e6⟩=>.inr ⟨v,x,bM,bJ,o _ _ e6⟩)⟩
def B5.mono{v}{vs}{w}{R c}(h:B5 P v vs w R)(a:∀e w,R e w->c e w):B5 P v vs w c:=
 h.elim (λ⟨f,jI,hs,e,hO,a1⟩=>.inl ⟨f,jI,hs,e,hO,a1.mono a⟩) λ⟨l,e,hy⟩=>.inr ⟨l,e,hy.mono a⟩
def eZ.mono{B}{g}{xs}{H}{f a}{E j}(h:eZ B P g xs H f E)(m:∀y H,f y H->a y H)(o:∀y H,E y H->j y H):eZ B P g xs H a j:=
 λI w v r t q s c=>(h I w v r t q s c).mono λ_ _ l=>l.mono m o
def FC{I}{w}{env}{a}{p}{v}{y}(h:fL I w (aE env) a)(f:p<a.tmps.size)(hy:Rel I w y v)(ds):fL I w (aE ((p,y)::env)) {tmps:=a.tmps.setIfInBounds p v,defers:=ds}:=by
 intro t z c;rw[k6] at c;show Rel I w z ((a.tmps.setIfInBounds p v).getD t undef);split at c
 ·rename_i e;subst e;simp at c;subst c;simp[Array.getD,f];exact hy
 ·rename_i e;have:=h t z c;simp[Array.getD_eq_getD_getElem?] at this ⊢;rwa [Array.getElem?_setIfInBounds_ne (Ne.symm e)]
def FD{α:Type}(B:Nat)(P:Program)(g:ab)(enc:Nat->α->ab)(own:Nat->α->aC)(L:List α)(J Jx:List α->aC->Prop):Prop:=
 ∀b pre x H Hx,pre++[x]<+:L->J pre H->eZ B P g [enc b x] (H++(own b x++Hx)) (λy H'=>∃r H1,y= .b r/\H'=H1++(own b x++Hx)/\(r=true->J (pre++[x]) H1)/\(r=false->Jx (pre++[x]) H1)) (λ_ _=>False)
def B6{α:Type}(B:Nat)(P:Program)(r1:ab)(enc:Nat->α->ab)(own:Nat->α->aC)(L:List α):Prop:=
 ∀(J Jx:List α->aC->Prop) (f:Fn) (cA cs:bl),FD B P (.fn f cA cs) enc own L J Jx->∀H Hx,J [] H->
  eZ B P r1 [.fn f cA cs] (H++Hx) (λ_ H'=>∃H1,H'=H1++Hx/\(J L H1\/∃pre,pre<+:L/\Jx pre H1)) (λ_ _=>False)
def aA.L2{α}{t p}{assign body}{f}{wC}(enc:Nat->α->ab)(own:Nat->α->aC)(L:List α)(J:List α->aC->Prop)(Jx:Code->List α->aC->Prop)(H Hx)(ti:Nat->α->List (Nat×ab))
  (bK:r=none) (iV:st.H=H++Hx) (av:aE st.env t=some (.fn (.func f) [] wC)) (bV:Nat.blt p c.n) (FE:B6 c.B P (.fn (.func f) [] wC) enc own L) (eF:J [] H)
  (FF:∀(l:Nat) (I:cr) (w:World) (k:Nat) (x:α) (eG:aC),aA ⟨c.B,I,w,c.n,[]⟩ (some l) P assign ⟨(p,enc k x)::st.env,eG⟩ (Exit.then (λa w'=>∃st',st'=(⟨ti k x,eG⟩:dT)/\Sat ⟨c.B,I,w,c.n,[]⟩ st' a w') (λ_ _ _=>False)))
  (round:∀(l D:Nat) (fD:Loop) (pre:List α) (k:Nat) (x:α) (H1 eG:aC) (I:cr) (w:World),pre++[x]<+:L->J pre H1->
   aA ⟨c.B,I,w,c.n,[]⟩ (some l) P body ⟨ti k x,.loop l fD (aE st.env)::.obj D (.deferred (some []))::(H1++(own k x++eG))⟩ (wH c.B I w l D fD (aE st.env) J Jx (pre++[x]) (own k x++eG)))
  (done:∀(D:Nat) (H1:aC),J L H1->aZ ⟨c.B,c.c9,c.bN,c.n,{target:=.collected D,args:=#[]}::c.ds⟩ ⟨st.env,.obj D (.deferred (some []))::(H1++Hx)⟩ .normal Q)
  (jump:∀(D:Nat) (code:Code) (pre:List α) (H1:aC),pre<+:L->Jx code pre H1->aA ⟨c.B,c.c9,c.bN,c.n,{target:=.collected D,args:=#[]}::c.ds⟩ r P code ⟨st.env,.obj D (.deferred (some []))::(H1++Hx)⟩ Q):
  aA c r P (.rangeFunc (.tmp t) #[p] assign body) st Q:=by
 intro a w s;subst bK;obtain⟨I,hw,he,aW,bd⟩:=s.mem;rw[iV] at aW;refine wpIn_rangeFunc λfn pO=>?_;obtain⟨dZ,kH⟩:∃dZ:Loop,dZ={state:=.ready,pending:=none,fn,tmps:=a.tmps,params:=#[p],assign,body,defers:=w.heap.size}:=⟨_,rfl⟩;have yL:=bd t _ av;generalize hu:a.tmps.getD t undef=u at yL;cases yL with
 | fn _ _ _ jI hs b7 a1=>
 have FG:jI= #[]:=by cases jI with | mk l=>cases b7;rfl
 subst FG;have FH:=aW.newObj hw (.deferred (some []));have uK:=hw.alloc (.deferred (some []));have kb:=bd.bw (lY hw (.deferred (some [])));have yM:=FH.L1 uK dZ (aE st.env) (by rw[kH];exact kb);have FI:=uK.alloc (.loop dZ);rw[World.size_alloc] at yM;have cx:Ext c.B I w I ((w.alloc (.deferred (some []))).alloc (.loop dZ)):=(jJ hw _).trans (jJ uK _)
 let uL:List α->aC->Prop:=λpre jL=>∃H1,J pre H1/\jL= .loop (w.heap.size+1) dZ (aE st.env)::.obj w.heap.size (.deferred (some []))::(H1++Hx)
 let B7:List α->aC->Prop:=λpre jL=>∃code H1,Jx code pre H1/\jL= .loop (w.heap.size+1) {dZ with state:=.done,pending:=some code} (aE st.env)::.obj w.heap.size (.deferred (some []))::(H1++Hx)
 have r2:a.tmps.size=c.n:=s.size;have FJ:p<c.n:=Nat.lt_of_succ_le (by simpa [Nat.blt] using bV);have yN:FD c.B P (.fn (.yield (w.heap.size+1)) [] []) enc own L uL B7:=by
  rintro k pre x jL eG wI ⟨H1,kE,rfl⟩ nv W v vs FK yO FL mI;obtain rfl:v= .func (.yield (w.heap.size+1)) #[] #[]:=by
   cases FL with
   | fn _ _ _ jI hs b7 a1=>
    cases jI with
    | mk n7=>cases hs with
     | mk lc=>cases b7;cases a1;rfl
  cases mI with
  | cons _ v1 _ VJ yl ht=>
  cases ht;obtain⟨VK,yP,uM,VL⟩:=yO.ok (.loop (w.heap.size+1) dZ (aE st.env)) aT;have hy:=run_yield (P:=P) (args:=#[v1]) yP (by rw[kH];rfl);refine .inr ⟨_,rfl,fn,a.tmps.setIfInBounds p v1,assign,body,?_,?_⟩
  ·rw[kH] at hy;simpa using hy
  ·refine roundIn_of_wpIn (F:=bx none) trivial ?_;have FM:a7 c.B nv W (.loop (w.heap.size+1) dZ (aE st.env)::.obj w.heap.size (.deferred (some []))::(H1++(own k x++(Hx++eG)))):=
    yO.perm K1
   have kc:Sat ⟨c.B,nv,W,c.n,[]⟩ ⟨(p,enc k x)::st.env,.loop (w.heap.size+1) dZ (aE st.env)::.obj w.heap.size (.deferred (some []))::(H1++(own k x++(Hx++eG)))⟩ {tmps:=a.tmps.setIfInBounds p v1,defers:=[]} W:=by
    refine⟨rfl,by simpa using r2,nv,FK,Ext.refl _ _ _,FM,?_⟩;refine FC (a:=a) (λt y FN=>?_) (by rw[r2];exact FJ) yl [];have:=uM t y FN;rw[kH] at this;exact this
   refine wpIn_mono (FF (w.heap.size+1) nv W k x _ _ W kc) λe a3 uN l3=>?_;cases e with
   | normal=>
    obtain⟨st',rfl,r3⟩:=l3;obtain⟨uO,FO,FP,yQ,wJ⟩:=r3.mem;obtain⟨FQ,FR,_,yR⟩:=yQ.ok _ (.head _);refine⟨_,run_beginRound FR (by rw[kH]),?_⟩;have FT:=yQ.uI (lp':={dZ with state:=.busy}) (.head _ _ _) rfl;have yS:Ext c.B uO uN uO (uN.putObj (w.heap.size+1) (.loop {dZ with state:=.busy})):=.putObj FQ yR;have yT:Sat ⟨c.B,nv,W,c.n,[]⟩ ⟨ti k x,.loop (w.heap.size+1) {dZ with state:=.busy} (aE st.env)::.obj w.heap.size (.deferred (some []))::(H1++(own k x++(Hx++eG)))⟩ a3 (uN.putObj (w.heap.size+1) (.loop {dZ with state:=.busy})):=
     ⟨r3.ds,r3.size,uO,FO.putObj yR,FP.trans yS,FT,wJ.bw yS.keeps⟩
    refine wpIn_mono (round _ _ _ pre k x H1 (Hx++eG) nv W wI kE a3 _ yT) λe a5 B8 FU=>?_;obtain⟨B9,r4,Ca,Cb,wK,nw⟩:=FU;obtain⟨FV,FW,_,yU⟩:=wK.ok _ (.head _);have fin:∀jp:Option Code,(Instr.endRound (w.heap.size+1) jp).run P B8= .ok (.bool jp.isNone) (B8.putObj (w.heap.size+1) (.loop {dZ with state:=if jp.isNone then .ready else .done,pending:=jp}))/\
      ∀(b:Bool) (n8:aC),b=jp.isNone->n8= .loop (w.heap.size+1) {dZ with state:=if jp.isNone then .ready else .done,pending:=jp} (aE st.env)::.obj w.heap.size (.deferred (some []))::(r4++Hx)->(b=true->uL (pre++[x]) n8)->(b=false->B7 (pre++[x]) n8)->
       e5 c.B nv W (λy H'=>∃b H1,y= .b b/\H'=H1++(own k x++eG)/\(b=true->uL (pre++[x]) H1)/\(b=false->B7 (pre++[x]) H1)) (λ_ _=>False) (.returned (.bool jp.isNone)) (B8.putObj (w.heap.size+1) (.loop {dZ with state:=if jp.isNone then .ready else .done,pending:=jp})):=by
     intro jp;refine⟨by have dc:=run_endRound (P:=P) jp FW;exact dc,λb n8 ba Cc ae ak=>?_⟩;have o1:=wK.uI (lp':={dZ with state:=if jp.isNone then .ready else .done,pending:=jp}) (.head _ _ _) rfl;refine⟨B9,n8++(own k x++eG),Ca.putObj yU,Cb.trans (.putObj FV yU),?_,.inl ⟨_,.b b,rfl,by rw[ba];exact .val _,b,n8,rfl,rfl,ae,ak⟩⟩;rw[Cc];exact o1.perm K1
    cases e with
    | normal=>
     obtain⟨bM,bJ⟩:=fin none;exact⟨_,_,bM,bJ true _ rfl rfl (λ_=>⟨r4,nw,by rw[kH];rfl⟩) (λh=>by cases h)⟩
    | ret=>
     obtain⟨bM,bJ⟩:=fin (some .ret);exact⟨_,_,bM,bJ false _ rfl rfl (λh=>by cases h) (λ_=>⟨.ret,r4,nw,rfl⟩)⟩
    | exit id=>
     obtain⟨bM,bJ⟩:=fin (some (.exit id));exact⟨_,_,bM,bJ false _ rfl rfl (λh=>by cases h) (λ_=>⟨.exit id,r4,nw,rfl⟩)⟩
    | goto t=>exact nw.elim
    | panic ch=>exact nw.elim
    | outgrown=>exact nw.elim
   | exit id=>exact l3.elim
   | goto t=>exact l3.elim
   | ret=>exact l3.elim
   | panic ch=>exact l3.elim
   | outgrown=>exact l3.elim
 have n5:=FE uL B7 _ _ _ yN _ [] ⟨H,eF,rfl⟩ I _ (.func (.func f) #[] hs) [.func (.yield (w.heap.size+1)) #[] #[]] FI (by simpa using yM) (.fn _ _ _ _ _ .nil (a1.bw cx.keeps)) (.cons _ _ _ _ (.fn _ _ _ _ _ .nil .nil) .nil);rcases n5 with⟨f',vf',vc',bM,hO,hcalls⟩ | ⟨l,bM,_⟩
 ·simp[Value.func.injEq,Fn.func.injEq] at bM;obtain⟨rfl,rfl,rfl⟩:=bM;refine⟨w.heap.size+1,[{target:=.collected w.heap.size,args:=#[]}],(w.alloc (.deferred (some []))).alloc (.loop dZ),{target:=.fn (.func f) hs,args:=#[.func (.yield (w.heap.size+1)) #[] #[]]},(w.alloc (.deferred (some []))).alloc (.loop dZ),f,
   #[.func (.yield (w.heap.size+1)) #[] #[]]++hs,(w.alloc (.deferred (some []))).alloc (.loop dZ),?_,?_,λ_ _=>trivial,?_,by simp[bx],?_⟩
  ·rw[kH];exact run_enterLoop_outer fn a.tmps #[p] assign body
  ·have wL:a.eval (.tmp t)= .func (.func f) #[] hs:=hu;simp[resolve,rangeCall,wL];simp[Deferred.ofValue,Act.eval]
  ·simp[invoke,wE hO]
  ·have fm:(#[]++[.func (Fn.yield (w.heap.size+1)) #[] #[]].toArray++hs)= #[.func (Fn.yield (w.heap.size+1)) #[] #[]]++hs:=by simp
   rw[fm] at hcalls;refine Ff (hcalls.mono λe W hR=>?_);obtain⟨o2,VM,yV,r5,o1,l4⟩:=hR;rcases l4 with l4 | l4
   ·obtain⟨v,y,rfl,_,l4⟩:=l4;obtain⟨n8,Cc,VN⟩:=l4;rw[List.append_nil] at Cc;subst Cc;rcases VN with⟨H1,FX,rfl⟩ | ⟨pre,l5,code,H1,hJX,rfl⟩
    ·obtain⟨yW,yX,_,tj⟩:=o1.ok _ (.head _);have yY:dZ.pending=none:=by rw[kH]
     have yZ:=run_endLoop (P:=P) yX (by rw[kH];simp);rw[yY] at yZ;refine⟨none,_,yZ,?_⟩;have uP:=(o1.uI (lp':={dZ with state:=.exhausted}) (.head _ _ _) rfl).tail;have qJ:Ext c.B o2 W o2 (W.putObj (w.heap.size+1) (.loop {dZ with state:=.exhausted})):=.putObj yW tj;rw[yY] at qJ uP;refine done w.heap.size H1 FX _ _ ⟨?_,s.size,o2,yV.putObj tj,(he.trans (cx.trans r5)).trans qJ,uP,(bd.bw (cx.trans r5).keeps).bw qJ.keeps⟩;show _::a.defers=_;rw[s.ds]
    ·obtain⟨yW,yX,_,tj⟩:=o1.ok _ (.head _);refine⟨some code,_,run_endLoop (P:=P) yX aT,?_⟩;have uP:=(o1.uI (lp':={dZ with state:=.exhausted,pending:=some code}) (.head _ _ _) rfl).tail;have qJ:Ext c.B o2 W o2 (W.putObj (w.heap.size+1) (.loop {dZ with state:=.exhausted,pending:=some code})):=.putObj yW tj;refine jump w.heap.size code pre H1 l5 hJX _ _ ⟨?_,s.size,o2,yV.putObj tj,(he.trans (cx.trans r5)).trans qJ,uP,(bd.bw (cx.trans r5).keeps).bw qJ.keeps⟩;show _::a.defers=_;rw[s.ds]
   ·obtain⟨_,_,_,_,hF⟩:=l4;exact hF.elim
 ·simp at bM
def yK.b{j:Type}{B}{P}{g}{enc:j->ab}{L:List j}(h:yK B P g enc L):B6 B P g (λ_=>enc) (λ_ _=>[]) L:=
 λJ q f r o m H a c=>h J q f r o (λpre x H a l _ c=>m 0 pre x H a l c) H a c
def aA.rangeFunc{m}{t p}{assign s}{f}{q}(enc:m->ab)(L:List m)(J:List m->aC->Prop)(Jx:Code->List m->aC->Prop)(H Hx)(j:m->List (Nat×ab))
  (K:r=none) (N:st.H=H++Hx) (R:aE st.env t=some (.fn (.func f) [] q)) (M:Nat.blt p c.n) (F:yK c.B P (.fn (.func f) [] q) enc L) (S:J [] H)
  (h:∀(l:Nat) (I:cr) (w:World) (x:m) (A:aC),aA ⟨c.B,I,w,c.n,[]⟩ (some l) P assign ⟨(p,enc x)::st.env,A⟩ (Exit.then (λa O=>∃C,C=(⟨j x,A⟩:dT)/\Sat ⟨c.B,I,w,c.n,[]⟩ C a O) (λ_ _ _=>False)))
  (z:∀(l D:Nat) (G:Loop) (g:List m) (x:m) (o A:aC) (I:cr) (w:World),g++[x]<+:L->J g o->
   aA ⟨c.B,I,w,c.n,[]⟩ (some l) P s ⟨j x,.loop l G (aE st.env)::.obj D (.deferred (some []))::(o++A)⟩ (wH c.B I w l D G (aE st.env) J Jx (g++[x]) A))
  (done:∀(D:Nat) (o:aC),J L o->aZ ⟨c.B,c.c9,c.bN,c.n,{target:=.collected D,args:=#[]}::c.ds⟩ ⟨st.env,.obj D (.deferred (some []))::(o++Hx)⟩ .normal Q)
  (E:∀(D:Nat) (v:Code) (g:List m) (o:aC),g<+:L->Jx v g o->aA ⟨c.B,c.c9,c.bN,c.n,{target:=.collected D,args:=#[]}::c.ds⟩ r P v ⟨st.env,.obj D (.deferred (some []))::(o++Hx)⟩ Q):
  aA c r P (.rangeFunc (.tmp t) #[p] assign s) st Q:=
 .L2 (λ_=>enc) (λ_ _=>[]) L J Jx H Hx (λ_=>j) K N R M F.b S (λl I w _=>h l I w) (λl D G g _=>z l D G g) done E
end
section
variable{c:Ctx}{r:Option Nat}{P:Program}{ops:Array Oper}{l rest:cg}{o:Oper}{st:dT}{Q:Exit->Act->World->Prop}{x:ab}
abbrev mark(D:Nat):Deferred:={target:=.collected D,args:=#[]}
def bP.qK{f}{fn}{a}{xs}{H}{c}{E}{n}(b7:P.funcs[f]? =some fn)(ba:fn.body=some a)(rO:(fn.name== "runtime.NumGoroutine")=false)
  (hn:fn.ntmps=n) (q:Nat.ble xs.length n) (h:∀B I w,aA ⟨B,I,w,n,[]⟩ none P a ⟨np 0 xs,H⟩ (bodyPostM (bx none) 0 P fn (e5 B I w c E))):bP P f xs H c E:=by
 refine⟨uq,λB I w g r o j=>uy (n:=0) (callsIn_of_wp_marks b7 ba trivial ?_ rfl)⟩;refine h B I w _ w ⟨rfl,?_,I,r,Ext.refl _ _ _,o,λt y hy=>?_⟩
 ·have:=j.length;have:=Nat.le_of_ble_eq_true q;simp;omega
 ·obtain⟨v,l,m⟩:=j.get yn;have:(g.toArray++Array.replicate (fn.ntmps - g.toArray.size) undef).getD t undef=v:=by
   have k5:=(List.getElem?_eq_some_iff.1 l).1;simp only[Array.getD_eq_getD_getElem?];rw[Array.getElem?_append_left wy];simp[l]
  rw[this];exact m
def c5.iG{ys ga:bl}(h:c5 ys ga):aq (iG ys) (iG ga):=by
 cases h with
 | nil=>exact aq.refl _
 | cons aK ht=>
  cases ht with
  | nil=>exact aK
  | cons hy ht=>exact aq.bj (.cons aK (.cons hy ht))
def aZ.VO{fn}{B}{l}{g}{n}{o}{E}{rs}{ys m}{H'}(r:fn.results=rs.toArray)(h:iz P st rs ys)(j:c5 ys m)
  (z:H'.Sublist st.H) (f:o (iG m) H'):aZ ⟨B,l,g,n,[]⟩ st .ret (bodyPostM (bx none) 0 P fn (e5 B l g o E)):=by
 intro a w s;obtain⟨I,C,D,q,x⟩:=s.mem;obtain⟨v,A,t⟩:=h.res (c:=⟨B,l,g,n,[]⟩) q x r;show LeavesInM _ _ _ _ _ _ a.defers _ _;rw[show a.defers= [] from s.ds];exact⟨v,A,I,H',C,D,q.sub z,.inl ⟨v,_,rfl,j.iG _ _ _ t,f⟩⟩
def aZ.Cd{fn}{B D}{A}{r}{n}{F}{E}{rs}{ys C}{H' g}(J:fn.results=rs.toArray)(q:fV st.H (.obj D (.deferred (some []))) g)(h:iz P ⟨st.env,g⟩ rs ys)(t:c5 ys C)
  (M:H'.Sublist g) (m:F (iG C) H'):aZ ⟨B,A,r,n,[mark D]⟩ st .ret (bodyPostM (bx none) 0 P fn (e5 B A r F E)):=by
 intro a w s;obtain⟨I,S,T,o,L⟩:=s.mem;obtain⟨N,R,j⟩:=o.ok _ q.mem;show LeavesInM _ _ _ _ _ _ a.defers _ _;rw[show a.defers= [mark D] from s.ds];have G:er I w I (w.putObj D (.deferred none)):=pN (B:=B) j;have l:a7 B I (w.putObj D (.deferred none)) g:=by
  refine (o.sub q.sub).bw G (λf Q b z=>World.putObj_heap_other λe=>?_) λ_ _ _ _ _ x=>x;subst e;exact q.apart o.apart f Q _ rfl z
 obtain⟨v,O,K⟩:=h.res (c:=⟨B,A,r,n,[]⟩) (st:=⟨st.env,g⟩) l (L.bw G) J;exact⟨aT,.inl ⟨D,_,rfl,run_takeDeferred R,v,O,I,H',S.putObj j,T.trans (.putObj N j),l.sub M,.inl ⟨v,_,rfl,t.iG _ _ _ K,m⟩⟩⟩
def ai.tk{f}{xs}{D}{E}(X:o.guard=none)(a6:iF c.n o.dst)(M:gG P (aE st.env) o f xs)(h:eM c.B P f xs st.H D E)
  (next:∀y g,D y g->ai c r P ops rest ⟨iT o.dst y st.env,g⟩ Q)
  (oZ:∀y g,E y g->∀a w,Sat c ⟨st.env,g⟩ a w->∀I v,Rel I w y v->Q (.panic [{v,recovered:=false}]) a w):ai c r P ops (o::rest) st Q:=by
 intro a w s;refine wpListIn_plain X λK U=>?_;obtain⟨I,Y,N,V,J⟩:=s.mem;obtain⟨S,W,O⟩:=M.run I w a (J.ops o);obtain⟨F,C⟩:=h;refine dw.qD (R:=λv q=>∃l g x,bY c.B l q/\Ext c.B I w l q/\a7 c.B l q g/\Rel l q x v/\D x g)
  (E:=λch q=>∃l g v x,bY c.B l q/\Ext c.B I w l q/\a7 c.B l q g/\ch= [{v,recovered:=false}]/\Rel l q x v/\E x g) M.rS (O F) ((C I w S Y V W).mono λe q G=>?_) K Q ?_ ?_
 ·obtain⟨l,g,t,j,m,G⟩:=G;rcases G with⟨v,x,rfl,z,A⟩ | ⟨v,x,rfl,z,L⟩
  ·exact⟨l,g,x,t,j,m,z,A⟩
  ·exact⟨l,g,v,x,t,j,m,rfl,z,L⟩
 ·rintro v q ⟨l,g,x,t,j,m,z,A⟩;refine U _ _ (next x g A _ _ ⟨iS,iR,l,t,N.trans j,m,((J.bw j.keeps).put rM z)⟩)
 ·rintro ch q ⟨l,g,v,x,t,j,m,rfl,z,L⟩;exact oZ x g L a q ⟨s.ds,s.size,l,t,N.trans j,m,J.bw j.keeps⟩ l v z
def Rel.L3{I}{w}{k}{els}{v}(h:Rel I w (.aj k els) v):els.length<=maxLen:=by
 cases h with
 | dQ=>simp
 | aj _ _ b off len a l j g m=>omega
def aA.FY{m}{F}{enc}[hF:pI F enc]{xs:List m}{p}{t k i:Nat}{cs:bl}(ht:aE st.env t=some (.ptr cs))(q:cs[i]? =some (.aj k (F xs)))(h:xs.length<=9223372036854775807->aA c r P p st Q):aA c r P p st Q:=by
 intro a w s;refine h ?_ a w s;obtain⟨I,z,A,x,l⟩:=s.mem;have f:=l t _ ht;generalize a.tmps.getD t undef=u at f;cases f with
 | ptr _ b o g=>
  obtain⟨v,_,_,j⟩:=g.get q;have:=j.L3;rw[hF.h,List.length_map] at this;simpa [maxLen] using this
def aA.n9{m}{F}{enc}[hF:pI F enc]{xs:List m}{p}{t k i:Nat}{cs:bl}(ht:aE st.env t=some (.agg cs))(o:cs[i]? =some (.aj k (F xs)))(h:xs.length<=9223372036854775807->aA c r P p st Q):aA c r P p st Q:=by
 intro a w s;refine h ?_ a w s;obtain⟨I,z,A,q,l⟩:=s.mem;have f:=l t _ ht;generalize a.tmps.getD t undef=u at f;cases f with
 | agg _ x g=>
  obtain⟨v,_,j⟩:=g.get o;have:=j.L3;rw[hF.h,List.length_map] at this;simpa [maxLen] using this
def n6.of{f:Type}{a}{c cs}{enc:f->ab}{p:f->Bool}(h:∀x,aI P a (c++[enc x]++cs) (.b (p x))):n6 P (.fn (.func a) c cs) enc p:=λB x H=>eZ.fn (h x H)
def n6.gK{j}{B}{g}{enc}{p}(h:n6 P g enc p)(L:List j):o0 B P g enc L (λ_=>True) (λpre H=>H= []/\∀x∈pre,p x=true) (λpre H=>H= []/\∃q x,pre=q++[x]/\p x=false):=by
 rintro pre x H m _ _ ⟨rfl,f⟩;refine eZ.mono (h B x m) ?_ λ_ _ h=>h;rintro _ _ ⟨rfl,rfl⟩;refine⟨p x,[],rfl,rfl,λba=>⟨rfl,λy c=>?_⟩,λba=>⟨rfl,pre,x,rfl,ba⟩⟩;rcases List.mem_append.1 c with c | c
 ·exact f y c
 ·simp at c;subst c;exact ba
def aq.VP{c}[Decidable c]{x}(g:fa x)(f:∀h,x≠ .agg h):aq x (if c then x else .one):=by
 split
 ·exact .refl _
 ·exact .one g f
def wM{α:Type}(J Jx:List α->aC->Prop)(l:List α)(Hx:aC)(y:ab)(H':aC):Prop:=
 ∃H1,H'=H1++Hx/\((y= .i (-1)/\J l H1)\/∃pre x rest,l=pre++x::rest/\y= .i pre.length/\Jx (pre++[x]) H1)
def hS(P:Program)(iH:aC)(f:FuncId)(xs:bl)(y:ab):Prop:=∀H,(∀e∈iH,e∈H)->bP P f xs H (λx H'=>x=y/\H'=H) (λ_ _=>False)
def y0(P:Program)(iH:aC)(f:FuncId)(xs:bl)(eu:ab->Prop):Prop:=∀H,(∀e∈iH,e∈H)->bP P f xs H (λx H'=>eu x/\H'=H) (λ_ _=>False)
def hS.pure{P}{f}{xs}{y}(h:hS P [] f xs y):aI P f xs y:=λH=>h H aT
def nu.of{c:Type}{f}{a}{g cs}{enc:c->ab}{l:List c}{p:c->Bool}(h:∀x∈l,hS P f a (g++[enc x]++cs) (.b (p x))):nu P f (.fn (.func a) g cs) enc l p:=λx j B H m=>eZ.fn (h x j H m)
def FZ{K}{a}{xs}{g}{enc}{r}{p}{l}(o:nh P a)(L:∀(B:Nat) (F:aC->Prop) (J s:List K->aC->Prop),uJ B P g enc l F J s->∀H c,F c->J [] H->eM B P a xs (H++c) (wM J s l c) (λ_ _=>False))
  (C:nu P r g enc l p):y0 P r a xs (λy=>∃n:Int,y= .i n/\decide (n>=0)=l.any p):=by
 intro c m;refine⟨o,λB I w G M E j=>((L B _ _ _ C.find [] c m ⟨rfl,aT⟩).2 I w G M E j).mono λe O A=>A.mono (λy H f=>?_) λ_ _ h=>h⟩;obtain⟨N,rfl,f⟩:=f;rcases f with⟨rfl,rfl,y1⟩ | ⟨pre,x,rest,rfl,rfl,rfl,q,z,cj,hqq,aD⟩
 ·refine⟨⟨-1,rfl,?_⟩,rfl⟩;rw[show decide ((-1:Int)>=0)=false from rfl];symm;rw[List.any_eq_false];intro x v;simp[y1 x v]
 ·refine⟨⟨pre.length,rfl,?_⟩,rfl⟩;have D:=List.append_inj' cj rfl;obtain⟨rfl,t⟩:=D;simp at t;subst t;rw[show decide (((pre.length:Nat):Int)>=0)=true from by simp];symm;rw[List.any_eq_true];exact⟨x,aT,aD⟩
def ai.isNil{t wN}{x y}{k}{els}{g F}{u}(z:o.guard=none)(a6:iF c.n o.dst)(h:o.op= .binOp .eql t x y wN)(ht:pH P t)(aK:aO (aE st.env) x=some (g,u))(T:g=true)(hu:aq u (.aj k els))
  (hy:aO (aE st.env) y=some (F,.val (.slice none 0 0))) (B:F=true) (next:∀b:Bool,(b=true->els= [])->ai c r P ops rest ⟨iT o.dst (.b b) st.env,st.H⟩ Q):ai c r P ops (o::rest) st Q:=by
 intro a w s;refine wpListIn_plain z λK L=>?_;obtain⟨I,hw,V,M,A⟩:=s.mem;have D:=hu _ _ _ ((A.ops o).get cd aK T);have S:=bZ ((A.ops o).get cd hy B);obtain⟨j,n,f,VQ,l⟩:∃j n f,a.eval x= .slice j n f/\(j=none->els= []):=by
  generalize a.eval x=v at D;cases D with
  | dQ=>exact⟨_,_,_,rfl,λ_=>rfl⟩
  | aj=>exact⟨_,_,_,rfl,λe=>by cases e⟩
 refine dw.e4 (R:=λv w'=>v= .bool j.isNone/\w'=w) (E:=λ_ _=>False) ck (v:=.bool j.isNone) (w':=w) ?_ ⟨rfl,rfl⟩ K Q ?_ λ_ _ h=>h.elim
 ·have m:=Fj ht;have:=run_equal_slice_nil (P:=P) w t _ j n f m;simp[execOp,h,VQ,S,eqGuard,binOp,this]
 rintro v w' ⟨rfl,rfl⟩;refine L _ _ (next j.isNone (λe=>l (by simpa using e)) _ _ ⟨iS,iR,I,hw,V,M,(A.put rM (.val _))⟩)
end
section
variable{c:Ctx}{r:Option Nat}{P:Program}{ops:Array Oper}{l rest:cg}{o:Oper}{env:List (Nat×ab)}{H:aC}{Q:Exit->Act->World->Prop}{x:ab}{d n:Nat}
def gL(a:o.dst=some d)(hn:Nat.blt d n):iF n o.dst=true:=by rw[a];exact hn
def ai.cc(a:o.guard=none)(a6:o.dst=some d)(hn:Nat.blt d c.n)(h:ad P H (aE env) o x)(next:ai c r P ops rest ⟨(d,x)::env,H⟩ Q):ai c r P ops (o::rest) ⟨env,H⟩ Q:=
 .pop a (gL a6 hn) h fY
def ai.cG{j k}{a G}(g:o.guard=some (j,a))(m:(ops[j]?).bind (·.dst)=some k)(f:Nat.blt k c.n)(l:nj (aE env k) a=some G)
  (a6:o.dst=some d) (hn:Nat.blt d c.n) (h:G=true->ad P H (aE env) o x) (next:ai c r P ops rest ⟨(d,.opt G x)::env,H⟩ Q):ai c r P ops (o::rest) ⟨env,H⟩ Q:=
 .guarded g m f l (gL a6 hn) h fY
def ai.qL{t}{f}[g:gp P t f](a:o.guard=none)(a6:o.dst=some d)(hn:Nat.blt d c.n)(h:o.op= .alloc t)
  (next:∀b,ai c r P ops rest ⟨(d,.p b 0)::env,.au b t (f.map .val)::H⟩ Q):ai c r P ops (o::rest) ⟨env,H⟩ Q:=.rU a (gL a6 hn) h fY
def ai.r6{t}{z}{y}{g}(a:o.guard=none)(a6:o.dst=some d)(hn:Nat.blt d c.n)(h:o.op= .box t z)(f:aO (aE env) z=some (g,y))(j:g=true)(l:fa y)
  (next:∀b,ai c r P ops rest ⟨(d,.p b 0)::env,.au b t (cJ y)::H⟩ Q):ai c r P ops (o::rest) ⟨env,H⟩ Q:=.box a (gL a6 hn) h f j l fY
def ai.gb{t tb}{p z}{y}{m g}{b off n}{cs ds}{H'}{agg}[ht:cQ P t (agg,n)](j:o.guard=none)(a6:o.dst=none)(h:o.op= .store t p z)
  (q:aO (aE env) p=some (m,.p b off)) (l:m=true) (v:aO (aE env) z=some (g,y)) (w:g=true) (x:fa y) (s:dG (cJ y))
  (hn:Nat.beq (cJ y).length n) (hu:bG H (.au b tb cs) (.au b tb ds) H') (hfit:Nat.ble (off+n) cs.length) (hds:cs.take off++cJ y++cs.drop (off+n)=ds)
  (next:ai c r P ops rest ⟨env,H'⟩ Q):ai c r P ops (o::rest) ⟨env,H⟩ Q:=.BW j (by rw[a6];rfl) h q l v w x s hn hu hfit hds fY
def ai.F0{f}{xs}{a}(l:o.guard=none)(a6:o.dst=some d)(hn:Nat.blt d c.n)(j:gG P (aE env) o f xs)(h:eM c.B P f xs H a (λ_ _=>False))
  (next:∀y g,a y g->ai c r P ops rest ⟨(d,y)::env,g⟩ Q):ai c r P ops (o::rest) ⟨env,H⟩ Q:=.tk l (gL a6 hn) j h fY λ_ _ h=>h.elim
def ai.oa{x}{args}{v}{l}{ys}{xs}{g}{q}(f:o.guard=none)(a6:o.dst=some d)(hn:Nat.blt d c.n)
  (h:o.op= .call {callee:=.value x,args:=args,argTypes:=v}) (s:aO (aE env) x=some (g,l)) (t:g=true) (w:js (aE env) args.toList=some ys) (a:ys.all (·.1)=true) (j:c5 (ys.map (·.2)) xs)
  (z:eZ c.B P l xs H q (λ_ _=>False)) (next:∀y m,q y m->ai c r P ops rest ⟨(d,y)::env,m⟩ Q):ai c r P ops (o::rest) ⟨env,H⟩ Q:=.FA f (gL a6 hn) h s t w a j z fY λ_ _ h=>h.elim
def ai.dJ{s z}{t tx e k f D}{els news}{v}{y}{g1 q}{H':Value->aC}[F:fi P t (e,k,f)][E:eE P tx D](l:o.guard=none)(a6:o.dst=some d)(hn:Nat.blt d c.n)
  (h:o.op= .call {callee:=.builtin .append,args:=#[s,z],argTypes:=#[t,tx]}) (w:aO (aE env) s=some (g1,.as (.aj k els) v)) (m:g1=true) (A:aO (aE env) z=some (q,y)) (g:q=true) (hy:aq y (.aj k news))
  (x:news.all dG=true) (hu:∀a,bG H (.own e k v) (.own e k a) (H' a)) (B:(els.length+news.length)*f<=140737488355328) (j:els.length+news.length<=9223372036854775807)
  (next:∀a,ai c r P ops rest ⟨(d,.as (.aj k (els++news)) a)::env,H' a⟩ Q):ai c r P ops (o::rest) ⟨env,H⟩ Q:=ai.VG l (gL a6 hn) h w m A g hy x hu B j fY
def ai.uQ{t m}{x y}{k}{els}{g j}{u}(f:o.guard=none)(a6:o.dst=some d)(hn:Nat.blt d c.n)(h:o.op= .binOp .eql t x y m)(ht:pH P t)(l:aO (aE env) x=some (g,u))(q:g=true)(hu:aq u (.aj k els))
  (hy:aO (aE env) y=some (j,.val (.slice none 0 0))) (a:j=true) (next:∀b:Bool,(b=true->els= [])->ai c r P ops rest ⟨(d,.b b)::env,H⟩ Q):ai c r P ops (o::rest) ⟨env,H⟩ Q:=.isNil f (gL a6 hn) h ht l q hu hy a fY
def ed.cc{L}{K}(a:o.guard=none)(a6:o.dst=some d)(hn:Nat.blt d n)(h:ad P H (aE env) o x)(next:ed P H L n rest ((d,x)::env) K):ed P H L n (o::rest) env K:=
 .pop a (gL a6 hn) h fY
def ed.cG{L}{K}{j k}{a G}(c:o.guard=some (j,a))(g:(L[j]?).bind (·.dst)=some k)(f:nj (aE env k) a=some G)
  (a6:o.dst=some d) (hn:Nat.blt d n) (h:G=true->ad P H (aE env) o x) (next:ed P H L n rest ((d,.opt G x)::env) K):ed P H L n (o::rest) env K:=
 .guarded c g f (gL a6 hn) h fY
def Sat.qM{c}{st}{a}{w}{b t e k i}{cs ds}{H'}(s:Sat c st a w)(hu:bG st.H (.au b t cs) (.au b t ds) H')(R:cs[i]? =some (.val (.slice none 0 0)))(hds:cs.set i (.as (.aj k []) (.slice none 0 0))=ds):
  Sat c ⟨st.env,.own e k (.slice none 0 0)::H'⟩ a w:=by
 obtain⟨I,Q,S,G,N⟩:=s.mem;subst hds;have L:er I w I w:=⟨λ_ _ x=>x,λ_ _ _=>rfl⟩;obtain⟨O,F,j,z,r⟩:=G.ok _ hu.mem;have C:bU I w (cs.set i (.as (.aj k []) (.slice none 0 0))) F.toList:=by
  have o:∀(g:bl) (m:dj) (i:Nat),bU I w g m->g[i]? =some (.val (.slice none 0 0))->bU I w (g.set i (.as (.aj k []) (.slice none 0 0))) m:=by
   intro g
   induction g with
   | nil=>intro m i _ h;simp at h
   | cons x g M=>
    intro m i z h;cases z with
    | cons _ v _ A D J=>
     cases i with
     | zero=>
      simp at h;subst h;cases D;exact .cons _ _ _ _ (.as _ _ (.dQ _ _ _)) J
     | succ i=>exact .cons _ _ _ _ D (M A i J gU)
  exact o _ _ _ z R
 have E:a7 c.B I w H':=G.fE hu L (λ_ _ _=>rfl) (λ_ _ x=>.inl x) ⟨O,F,j,C,r⟩ λ_ j=>.inl j;refine⟨s.ds,s.size,I,Q,S,⟨λf l=>?_,List.pairwise_cons.2 ⟨λf l b j=>by simp[br.dY,Value.ownBlock] at j,E.apart⟩⟩,N⟩;rcases List.mem_cons.1 l with rfl | l
 ·exact⟨0,[],World.ownsRow_nil _ _ _ _,λg P=>by simp[Value.ownBlock] at P⟩
 ·exact E.ok f l
def aA.qM{p}{b t}(e k i){cs ds}{H'}(hu:bG H (.au b t cs) (.au b t ds) H')(g:cs[i]? =some (.val (.slice none 0 0)))(hds:cs.set i (.as (.aj k []) (.slice none 0 0))=ds)(h:aA c r P p ⟨env,.own e k (.slice none 0 0)::H'⟩ Q):aA c r P p ⟨env,H⟩ Q:=
 λa w s=>h a w (s.qM hu g hds)
def aZ.oY{st}{f}(d e k)(g:aE st.env d=some (.val (.slice none 0 0)))(h:aZ c ⟨(d,.as (.aj k []) (.slice none 0 0))::st.env,.own e k (.slice none 0 0)::st.H⟩ f Q):aZ c st f Q:=
 λa w s=>h a w (s.oY g)
def ai.y2{t e k m}[J:fi P t (e,k,m)](q:o.guard=none)(U:o.dst=some d)(hn:Nat.blt d c.n)(h:o.op= .buildSlice t 0 #[])
  (next:∀v,ai c r P ops rest ⟨(d,.as (.aj k []) v)::env,.own e k v::H⟩ Q):ai c r P ops (o::rest) ⟨env,H⟩ Q:=by
 intro a w s;refine wpListIn_plain q λK O=>?_;obtain⟨I,g,X,D,S⟩:=s.mem;obtain⟨i,z,V,W,Z,Y,M,N,T⟩:=oX J.h;have uu:(Instr.buildSlice t 0 #[]).run P w= .ok (.slice (some ⟨w.heap.size,0,none⟩) 0 0) (w.alloc (.cells #[] e)):=by
  simp[Instr.buildSlice,run_underlying V,sizeOf,typeInfo,W,Instr.fill,newRow,show Array.range 0= #[] from by decide+kernel]
 refine dw.e4 (R:=λv w'=>v= .slice (some ⟨w.heap.size,0,none⟩) 0 0/\w'=w.alloc (.cells #[] e)) (E:=λ_ _=>False) ck (v:=.slice (some ⟨w.heap.size,0,none⟩) 0 0) (w':=w.alloc (.cells #[] e)) yt ⟨rfl,rfl⟩ K Q ?_ λ_ _ h=>h.elim;rintro v w' ⟨rfl,rfl⟩;have F:=D.alloc g (.cells #[] e);have j:(w.alloc (.cells #[] e)).ownsRow c.B e k (.slice (some ⟨w.heap.size,0,none⟩) 0 0) 0 []:=⟨aT,.inr ⟨w.heap.size,0,#[],rfl,g.base,heap_alloc_new w _,Nat.le_refl _,by simp[maxLen],aT,aT⟩⟩;refine O _ _ (next (.slice (some ⟨w.heap.size,0,none⟩) 0 0) _ _ ⟨iS,iR,I,g.alloc _,X.trans (jJ g _),⟨λf l=>?_,List.pairwise_cons.2 ⟨λf l b C e=>?_,F.apart⟩⟩,?_⟩)
 ·rcases List.mem_cons.1 l with rfl | l
  ·refine⟨0,[],j,λg G o _ L=>?_⟩;simp[Value.ownBlock] at G;subst G;exact absurd (g.lt L) (Nat.lt_irrefl _)
  ·exact F.ok f l
 ·simp[br.dY,Value.ownBlock] at C;subst C;exact absurd (br.lX (D.ok f l) e).2 (Nat.lt_irrefl _)
 ·rw[U];have:=(S.bw (lY g (.cells #[] e))).put (dst:=some d) (x:=.as (.aj k []) (.slice (some ⟨w.heap.size,0,none⟩) 0 0)) (v:=.slice (some ⟨w.heap.size,0,none⟩) 0 0) oR (.as _ _ (.dQ _ _ _));exact this
def ad.L4{m:Type}{F:List m->List bl}{enc:m->bl}{xs:List m}{ρ}{t}{x:Operand}{B s:Option Operand}{k:Nat}{l n:Nat}{A gl gh:Bool}{kl kh:IntKind}[ht:eE P t k][hF:pI F enc](h:o.op= .slice t x B s none)(v:aO ρ x=some (A,.aj k (F xs)))(g:A=true)
  (r:match B with | none=>l=0 | some y=>aO ρ y=some (gl,.val (.int kl (l:Int)))) (f:gl=true) (q:match s with | none=>n=xs.length | some y=>aO ρ y=some (gh,.val (.int kh (n:Int)))) (j:gh=true)
  (ae:l<=n/\n<=xs.length):ad P H ρ o (.aj k (F ((xs.take n).drop l))):=by
 rw[hF.h] at v;have:=ad.Vp (H:=H) (ht:=ht) h v g r f (n:=n) (by cases s <;> simpa using q) j nf;rw[hF.h,List.map_drop,List.map_take];exact this
def ad.Ce{c:Type}{F:List c->List bl}{enc:c->bl}{xs:List c}{ρ}{t}{x y}{k:Nat}{n:Nat}{j gh:Bool}{kh}[ht:eE P t k][hF:pI F enc](h:o.op= .slice t x none (some y) none)(m:aO ρ x=some (j,.aj k (F xs)))(f:j=true)
  (a:aO ρ y=some (gh,.val (.int kh (n:Int)))) (g:gh=true) (q:n<=xs.length):ad P H ρ o (.aj k (F (xs.take n))):=by
 have:=ad.L4 (H:=H) (kl:=.i64) (gl:=true) (l:=0) (ht:=ht) (hF:=hF) h m f rfl rfl a g ⟨Nat.zero_le _,q⟩;simpa using this
def ad.L5{c:Type}{F:List c->List bl}{enc:c->bl}{xs:List c}{ρ}{t}{x y}{k:Nat}{n:Nat}{j gh:Bool}{kh}[ht:eE P t k][hF:pI F enc](h:o.op= .slice t x (some y) none none)(l:aO ρ x=some (j,.aj k (F xs)))(f:j=true)
  (a:aO ρ y=some (gh,.val (.int kh (n:Int)))) (g:gh=true) (m:n<=xs.length):ad P H ρ o (.aj k (F (xs.drop n))):=by
 have:=ad.L4 (H:=H) (kh:=.i64) (gh:=true) (n:=xs.length) (ht:=ht) (hF:=hF) h l f a g rfl rfl ⟨m,Nat.le_refl _⟩;simpa using this
end
def y3(l:cg)(k m:Nat)(x:Nat->Bool):Bool:=
 let ms:=hP l []
 (l.zipIdx.all λp=>(nn p.1).all λj=>Nat.blt j p.2) &&
 (l.zipIdx.all λp=>Nat.blt p.2 m || (List.range m).all λj=>Nat.blt j k || (ms.getD p.2 0).testBit j) &&
 ((l.take m).zipIdx.all λp=>Nat.blt p.2 k || ((l.take m).zipIdx.all λq=>match q.1.dst with
  | some d=>(Nat.beq p.2 q.2 || Nat.blt q.2 k || !(match p.1.dst with | some F1=>Nat.beq d F1 | none=>false)) && (!((looks l p.1).any (Nat.beq d)) || x d || Nat.blt q.2 k || (Nat.blt q.2 p.2 && (ms.getD p.2 0).testBit q.2))
  | none=>true))
abbrev mJ(l:cg)(k m:Nat):Bool:=y3 l k m λ_=>false
structure VR(l:cg)(k m:Nat)(x:Nat->Bool):Prop where
 back:∀i o,l[i]? =some o->∀j∈nn o,j<i
 tail:∀i,m<=i->i<l.length->∀j,k<=j->j<m->((hP l []).getD i 0).testBit j=true
 apart:∀i l6 j mK d,k<=i->i<m->l[i]? =some l6->k<=j->j<m->l[j]? =some mK->mK.dst=some d->i≠j->l6.dst≠some d
 looked:∀i l6 j mK d,k<=i->i<m->l[i]? =some l6->k<=j->j<m->l[j]? =some mK->mK.dst=some d->d∈looks l l6->x d=true\/(j<i/\((hP l []).getD i 0).testBit j=true)
def tl{a b}(h:Nat.blt a b):a<b:=Nat.lt_of_succ_le (by simpa [Nat.blt] using h)
def L6{a b}(h:a<b):Nat.blt a b=true:=Nat.ble_eq_true_of_le h
def F2{l}{k m}{x}(h:y3 l k m x):VR l k m x:=by
 simp only[y3,Bool.and_eq_true,List.all_eq_true,Bool.or_eq_true] at h;obtain⟨⟨H,F⟩,I⟩:=h;have key:∀i l6 j mK d,k<=i->i<m->l[i]? =some l6->k<=j->j<m->l[j]? =some mK->mK.dst=some d->(i=j\/l6.dst≠some d)/\(d∈looks l l6->x d=true\/(j<i/\((hP l []).getD i 0).testBit j=true)):=by
  intro i l6 j mK d r7 aN y4 r8 cp qN a6;have F3:∀x,k<=x->¬Nat.blt x k=true:=λx aK c=>by have:=tl c;omega
  have at_:∀{i:Nat} {o:Oper},i<m->l[i]? =some o->(l.take m)[i]? =some o:=λaN bb=>by rw[List.getElem?_take,if_pos aN];exact bb
  have:=((I _ (wF (at_ aN y4))).resolve_left (F3 i r7)) _ (wF (at_ cp qN));simp only[a6,Bool.and_eq_true,Bool.or_eq_true,Bool.not_eq_true'] at this;obtain⟨s,c⟩:=this;refine⟨?_,λhm=>?_⟩
  ·rcases s with (s | s) | s
   ·exact .inl (Nat.eq_of_beq_eq_true s)
   ·exact absurd s (F3 j r8)
   ·exact .inr λe=>by rw[e] at s;simp at s
  ·rcases c with ((c | c) | c) | c
   ·rw[List.any_eq_false] at c;exact absurd aT (c d hm)
   ·exact .inl c
   ·exact absurd c (F3 j r8)
   ·exact .inr ⟨tl c.1,c.2⟩
 refine⟨λi o bb j cp=>tl (H _ (wF bb) j cp),λi aN bq j r8 cp=>?_,λi l6 j mK d r7 aN y4 r8 cp qN a6 hx=>((key i l6 j mK d r7 aN y4 r8 cp qN a6).1).resolve_left hx,λi l6 j mK d r7 aN y4 r8 cp qN a6 hm=>(key i l6 j mK d r7 aN y4 r8 cp qN a6).2 hm⟩;rcases F _ (wF (List.getElem?_eq_getElem bq)) with h | h
 ·have:=tl h;simp at this;omega
 ·rcases h j (by simpa using cp) with h | h
  ·have:=tl h;omega
  ·exact h
def VS:∀(c:cg) (a:du),(hP c a).length=a.length+c.length:=by
 intro c;induction c with
 | nil=>intro a;simp[hP]
 | cons o c f=>intro a;rw[hP,f];simp;omega
def L7{F}{n}{P}{o:Oper}{a:Act}{w}{K y5}{Q Q'}(h:∀a w,K a w->y5 a w)(bV:∀ch a w,Q (.panic ch) a w->Q' (.panic ch) a w)(bb:∀a w,Q .outgrown a w->Q' .outgrown a w)
  (aW:o.wpIn F n P a w K Q):o.wpIn F n P a w y5 Q':=by
 have bq:LetsOut Q->LetsOut Q':=λ⟨a,w,h⟩=>⟨a,w,bb a w h⟩;unfold Oper.wpIn at*;refine⟨aW.1,?_⟩;have aW:=aW.2;generalize (o.semAt F.round a.eval).run P w=r at*;cases r with
 | ok x w'=>
  cases x <;> simp[Oper.uponIn] at aW ⊢ <;>
   first
    | exact h _ _ aW
    | exact⟨aW.1,CallsIn.mono aW.2 (λe j7 he=>by cases e <;> first | exact h _ _ he | exact bV _ _ _ he | exact bq he)⟩
    | exact⟨aW.1,RowsIn.mono aW.2 (λ_ _ he=>h _ _ he)⟩
    | exact⟨aW.1,RoundIn.mono aW.2 (λe j7 he=>by cases e <;> first | exact h _ _ he | exact bV _ _ _ he | exact bq he)⟩
 | halt x w'=>cases x <;> simp[Oper.uponIn] at aW ⊢ <;> first | exact bV _ _ _ aW | exact aW
def F4(l:cg)(S:Nat->Bool):Prop:=∀i l6,l[i]? =some l6->S i=true->∀j,((hP l []).getD i 0).testBit j=true->S j=true
def eN(S:Nat->Bool)(i:Nat):Nat->Bool:=λj=>if j=i then true else S j
def kI{S}{i j}(h:j≠i):eN S i j=S j:=if_neg h
def wO{S}{i}:eN S i i=true:=if_pos rfl
abbrev Mem:=Nat->Act->cr->World->Prop
abbrev nx:=Nat->cr->World->List PanicEntry->World->Prop
abbrev ob:nx:=λ_ _ _ _ _=>False
def gM(X:nx)(P:Program)(VT Cf:Mem)(l:cg)(env:List (Nat×ab))(o:Oper)(y:ab):Prop:=
 ∀(B:Nat) (I:cr) (w:World) (r:Option Nat) (a:Act) (i:Nat) (Q:Exit->Act->World->Prop) (K:Act->World->Prop),l[i]? =some o->bY B I w->VT B a I w->(∀t∈looks l o,∀z,aE env t=some z->Rel I w z (a.tmps.getD t undef))->(∀t∈looks l o,t<a.tmps.size)->(∀d,o.dst=some d->d<a.tmps.size)->
  (∀v w' c7,bY B c7 w'->Ext B I w c7 w'->Cf B (a.put o.dst v) c7 w'->Rel c7 w' y v->K (a.put o.dst v) w')->(∀ch w',X B I w ch w'->Q (.panic ch) a w')->wpOpIn (bx r) 0 P l.toArray Q i K a w
def gM.congr{X}{P}{g f}{ops}{env c}{o}{y}(h:gM X P g f ops env o y)(same:∀t∈looks ops o,aE env t=aE c t):gM X P g f ops c o y:=
 λB I w r a i Q K v s l m=>h B I w r a i Q K v s l λt j z q=>m t j z (same t j▸q)
def gM.of{X}{P}{D Cf}{l}{env}{o}{y}(av:o.guard=none)(h:∀(B:Nat) (I:cr) (w:World) (r:Option Nat) (a:Act),bY B I w->D B a I w->fo I w (aE env) a o->(∀d,o.dst=some d->d<a.tmps.size)->
  dw P r o a w (λv w'=>∃j,bY B j w'/\Ext B I w j w'/\Cf B (a.put o.dst v) j w'/\Rel j w' y v) (X B I w)):gM X P D Cf l env o y:=λB I w r a i Q K aN hw hm bd hn aD eX ka=>by
 have BU:fo I w (aE env) a o:=λx aK z aD=>by
  cases x with
  | tmp t=>exact bd t (LN (by simpa using aK)) z aD
  | const v=>simp[iU] at aD;subst aD;exact Fg v
  | global g=>simp[iU] at aD;subst aD;exact .val _
  | func f=>simp[iU] at aD;subst aD;exact .fn _ _ _ _ _ .nil .nil
 unfold wpOpIn;simp[show l.toArray[i]? =some o by simpa using aN];rw[if_pos (by simp[Region.wanted,av])];exact h B I w r a hw hm BU aD K Q (λv w' ⟨j,ae,ak,aL,bo⟩=>eX v w' j ae ak aL bo) ka
def yC.e{X}{P}{H}{l}{env}{o}{y}(h:yC P H l env o y):gM X P (λB _ I w=>a7 B I w H) (λB _ I w=>a7 B I w H) l env o y:=λB I w r a i Q K s q f j m v g t=>
 h.run (c:=⟨B,I,w,0,[]⟩) s q f j m g
def F5(X:nx)(P:Program)(M:(Nat->Bool)->Mem)(l:cg)(i:Nat)(env:List (Nat×ab))(o:Oper)(x:ab):Prop:=
 ∀S,F4 l S->(∀j,((hP l []).getD i 0).testBit j=true->S j=true)->S i=false->gM X P (M S) (M (eN S i)) l env o x
def jM(X:nx)(P:Program)(M:(Nat->Bool)->Mem)(l:cg)(n:Nat):Nat->cg->List (Nat×ab)->(List (Nat×ab)->Prop)->Prop
 | _,[],env,K=>K env
 | i,o::rest,env,K=>∃x,F5 X P M l i env o x/\iF n o.dst=true/\jM X P M l n (i+1) rest (iT o.dst x env) K
abbrev cN:=jM ob
def L8{X}{P}{M}{ops}{n}:∀(k:Nat) (l:cg) (a:List (Nat×ab)) (K:List (Nat×ab)->Prop),jM X P M ops n k l a K->
  ∃g:bl,g.length=l.length/\K (lD a l g)/\∀i o x,l[i]? =some o->g[i]? =some x->F5 X P M ops (k+i) (lD a (l.take i) (g.take i)) o x/\iF n o.dst=true
 | k,[],a,K,h=>⟨[],rfl,h,aT⟩
 | k,o::l,a,K,⟨x,t,q,v⟩=>by
  obtain⟨g,s,r,j⟩:=L8 (k+1) l _ K v;refine⟨x::g,by simp[s],r,λi w m f c=>?_⟩;cases i with
  | zero=>
   simp at f c;subst f;subst c;exact⟨t,q⟩
  | succ i=>
   simp at f c;have:=j i w m f c;rw[show k+1+i=k+(i+1) by omega] at this;exact this
theorem jM.mono{X}{P}{M}{ops}{n}{K f}(c:∀a,K a->f a):∀{k:Nat} {l:cg} {a:List (Nat×ab)},jM X P M ops n k l a K->jM X P M ops n k l a f
 | _,[],_,h=>c _ h
 | _,_::_,_,⟨x,g,j,m⟩=>⟨x,g,j,m.mono c⟩
def F6{a:Array Bool}{n k}(g:a.size=n)(h:∀i,a.getD i false=true↔i<k):a.toList.countP (λb=>!b)=n - k:=by
 have e:a.toList=List.replicate (min k n) true++List.replicate (n - k) false:=by
  refine List.ext_getElem (by simp[g];omega) λi j m=>?_;have l:i<a.size:=by simpa using j
  have f:=h i;rw[show a.getD i false=a[i] by simp[Array.getD,l]] at f;rw[List.getElem_append,Array.getElem_toList];split
  ·rename_i c;rw[f.2 (by simp at c;omega)];simp
  ·rename_i c;cases dx:a[i] with
   | false=>simp
   | true=>have:=f.1 dx;simp at c;omega
 rw[e];simp[List.countP_replicate]
def VU{a:Array Bool}{i c}(h:i<a.size)(f:a.getD i false=false)(j:a.toList.countP (λb=>!b)<=c+1):(a.setIfInBounds i true).toList.countP (λb=>!b)<=c:=by
 have g:a[i]=false:=by simpa [Array.getD,h] using f
 rw[Array.toList_setIfInBounds,List.countP_set gU];simp[g] at j ⊢;omega
section
variable{c:Ctx}{r:Option Nat}{P:Program}{l:cg}{st:dT}{Q:Exit->Act->World->Prop}
def gq(c:Ctx)(r:Option Nat)(P:Program)(l:cg)(Q:Exit->Act->World->Prop)(k:Nat)(a:Act)(w:World):Prop:=
 ∀(fuel:Nat) (F7:Array Bool),F7.size=l.length->(∀i,F7.getD i false=true↔i<k)->l.length - k<=fuel->wpAnyIn (bx r) 0 P .any l.toArray Q fuel F7 a w
def bW(c:Ctx)(r:Option Nat)(P:Program)(l:cg)(Q:Exit->Act->World->Prop)(k:Nat)(st:dT):Prop:=∀a w,Sat c st a w->gq c r P l Q k a w
def aA.cu{id}(hm:P.follows .mixedOrders=true)(h:bW c r P l Q 0 st):aA c r P (.region id l.toArray true) st Q:=by
 intro a w s;refine wpIn_region_any hm ?_;show wpAnyIn (bx r) 0 P .any l.toArray Q l.toArray.size (Array.replicate l.toArray.size false) a w.drew;refine h a w.drew ⟨s.ds,s.size,?_⟩ _ _ aT (λi=>by simp[Array.getD]) aT;obtain⟨I,j,m,f,g⟩:=s.mem;exact⟨I,j.drew,m.drew,f.drew,g.bw Vv⟩
def aZ.cu{k}(h:bW c r P l Q k st):aZ c st .normal (Exit.then (gq c r P l Q k) Q):=h
def gq.done{a}{w}(h:Q .normal a w):gq c r P l Q l.length a w:=by
 intro f g s j t;refine wpAnyIn_done (List.eq_nil_iff_forall_not_mem.2 λi x=>?_) h f;obtain⟨q,o,v,_⟩:=mem_ready.1 x;have m:i<l.length:=by simpa using (Array.getElem?_eq_some_iff.1 v).1
 rw[Fq aa,(j i).2 m] at q;cases q
def bW.done{k}(f:k=l.length)(h:aZ c st .normal Q):bW c r P l Q k st:=λa w s=>by subst f;exact gq.done (h a w s)
def gq.any{k m}{J:(Nat->Bool)->Act->World->Prop}(K:∀i o,l[i]? =some o->∀j∈nn o,j<i)(tail:∀i,m<=i->i<l.length->∀j,k<=j->j<m->((hP l []).getD i 0).testBit j=true)(a9:k<=m)(iy:m<=l.length)
  (V:∀S i o a w,l[i]? =some o->k<=i->i<m->F4 l S->(∀j,((hP l []).getD i 0).testBit j=true->S j=true)->S i=false->J S a w->wpOpIn (bx r) 0 P l.toArray Q i (J (eN S i)) a w)
  (a0:∀a w,J (λi=>Nat.blt i m) a w->gq c r P l Q m a w) {a:Act} {w:World} (h:J (λi=>Nat.blt i k) a w):gq c r P l Q k a w:=by
 have A:∀{k:Nat} {f:Array Bool},(∀i,f.getD i false=true↔i<k)->(λs=>f.getD s false)=λi=>Nat.blt i k:=λl7=>funext λi=>by
  rw[Bool.eq_iff_iff,l7];exact⟨λh=>Nat.ble_eq_true_of_le h,λh=>Nat.lt_of_succ_le (by simpa [Nat.blt] using h)⟩
 have L:∀{f:Array Bool} {i:Nat} {o:Oper},Fo l (λi=>f.getD i false=true)->l[i]? =some o->(∀k∈nn o,f.getD k false=true)->∀j,((hP l []).getD i 0).testBit j=true->f.getD j false=true:=λ{f i o} x E a6=>by
  have:i<(hP l []).length:=by rw[VS];simpa using (List.getElem?_eq_some_iff.1 E).1
  exact LJ l _ x l [] aT aT aT i _ o (by simp[List.getD,this]) E a6
 have a3:∀(q:Nat) (f:Array Bool) (a:Act) (w:World),f.size=l.length->f.toList.countP (λb=>!b)<=q->Fo l (λi=>f.getD i false=true)->
   (∀i,i<k->f.getD i false=true)->(∀i,f.getD i false=true->i<m)->J (λs=>f.getD s false) a w->wpAnyIn (bx r) 0 P .any l.toArray Q q f a w:=by
  intro q
  induction q with
  | zero=>
   intro f a w v z x F G U;have l7:∀i,f.getD i false=true↔i<m:=λi=>⟨G i,λaN=>by
    have:=List.countP_eq_zero.1 (Nat.le_zero.1 z) (f[i]'aa) aT;simpa [Array.getD,show i<f.size by omega] using this⟩
   rw[A l7] at U;exact a0 a w U 0 f v l7 (by rw[<-F6 v l7];exact z)
  | succ q fv=>
   intro f a w v z x F G U;by_cases Cg:∀i,i<m->f.getD i false=true
   ·have l7:∀i,f.getD i false=true↔i<m:=λi=>⟨G i,Cg i⟩;rw[A l7] at U;exact a0 a w U _ f v l7 (by rw[<-F6 v l7];exact z)
   obtain⟨M,X,H,Y⟩:∃i,i<m/\f.getD i false=false/\∀j,j<i->f.getD j false=true:=by
    obtain⟨i,D⟩:=Classical.not_forall.1 Cg
    induction i using Nat.strongRecOn with
    | _ i a4=>
     by_cases aK:∃j,j<i/\f.getD j false=false
     ·obtain⟨j,t,Z⟩:=aK;exact a4 j t λh=>by rw[h (by have:=Classical.not_imp.1 D;omega)] at Z;cases Z
     ·obtain⟨O,ak⟩:=Classical.not_imp.1 D;exact⟨i,O,ta,λj t=>by simpa using λh=>aK ⟨j,t,h⟩⟩
   have bI:k<=M:=Nat.le_of_not_lt λh=>by rw[F M h] at H;cases H
   refine⟨λaf=>?_,λi D=>?_⟩
   ·have:M∈Region.ready .any l.toArray f:=by
     rw[mem_ready];refine⟨by rw[Fq aa];exact H,l[M],aT,λe he T=>Y _ (K M _ (List.getElem?_eq_getElem aa) e.on ?_)⟩;simp only[nn,List.mem_filterMap];exact⟨e,by simpa using he,by simp[T]⟩
    rw[af] at this;cases this
   ·obtain⟨O,o,ak,aL⟩:=mem_ready.1 D;have E:l[i]? =some o:=by simpa using ak
    have fw:i<l.length:=(List.getElem?_eq_some_iff.1 E).1;rw[Fq aa] at O;have C:∀k∈nn o,f.getD k false=true:=by
     intro k W;simp only[nn,List.mem_filterMap] at W;obtain⟨e,he,T⟩:=W;split at T
     ·rename_i hQ;simp at T;subst T;exact aL e (by simpa using he) hQ
     ·cases T
    have I:=L x E C;have a5:k<=i:=Nat.le_of_not_lt λh=>by rw[F i h] at O;cases O
    have gJ:i<m:=Nat.lt_of_not_le λh=>by
     have:=I M (tail i h fw M bI X);rw[H] at this;cases this
    have B:∀j,(f.setIfInBounds i true).getD j false=if i=j then true else f.getD j false:=λj=>uD _ _ _ aa
    have N:(λs=>(f.setIfInBounds i true).getD s false)=eN (λs=>f.getD s false) i:=funext λj=>by
     rw[B];unfold eN;by_cases e:i=j
     ·rw[if_pos e,if_pos e.symm]
     ·rw[if_neg e,if_neg λh=>e h.symm]
    refine wpOpIn_mono (λkJ w' t=>fv (f.setIfInBounds i true) kJ w' (by simp[v]) (VU aa O z) ?_ ?_ ?_ (by rw[N];exact t)) (V _ i o a w E a5 gJ (λs os a2 b4 j t=>L x a2 (λj t=>x s _ b4 a2 j t) j t) I O U)
    ·intro j mK t R gW W;rw[B] at t ⊢;split
     ·rfl
     ·split at t
      ·rename_i e;subst e;rw[E] at R;cases R;exact C gW W
      ·exact x j mK t R gW W
    ·intro j t;rw[B];split
     ·rfl
     ·exact F j t
    ·intro j t;rw[B] at t;split at t
     ·omega
     ·exact G j t
 intro q f v l7 z;exact a3 q f a w v (by rw[F6 v l7];exact z) (λi o D E j t=>(l7 j).2 (by have:=K i o E j t;have:=(l7 i).1 D;omega)) (λi D=>(l7 i).2 D) (λi D=>by have:=(l7 i).1 D;omega) (by rw[A l7];exact h)
def gq.one{k}{o}(m:∀i o,l[i]? =some o->∀j∈nn o,j<i)(tail:∀i,k<i->i<l.length->((hP l []).getD i 0).testBit k=true)(s:l[k]? =some o){a}{w}(h:wpListIn (bx r) 0 P l.toArray (Exit.then (gq c r P l Q (k+1)) Q) [o] a w):gq c r P l Q k a w:=by
 have fp:Nat.blt k k=false:=by rw[Bool.eq_false_iff];intro h;have:=Nat.lt_of_succ_le (by simpa [Nat.blt] using h);omega
 have t:Nat.blt k (k+1)=true:=Nat.ble_eq_true_of_le (Nat.le_refl _);refine gq.any (J:=λS a w=>if S k then gq c r P l Q (k+1) a w else wpListIn (bx r) 0 P l.toArray (Exit.then (gq c r P l Q (k+1)) Q) [o] a w) m (λi x v j A C=>by obtain rfl:j=k:=aa;exact tail i x v) (Nat.le_succ k) (List.getElem?_eq_some_iff.1 s).1 (λS i B a w q x v _ _ z g=>?_) (λa w g=>by rwa [if_pos t] at g) (by rw[if_neg (by show ¬Nat.blt k k=true;rw[fp];simp)];exact h);obtain rfl:i=k:=by omega
 rw[s] at q;cases q;rw[if_neg (by rw[z];simp)] at g;have e:(λa w=>if eN S i i then gq c r P l Q (i+1) a w else wpListIn (bx r) 0 P l.toArray (Exit.then (gq c r P l Q (i+1)) Q) [o] a w)=gq c r P l Q (i+1):=by funext a w;rw[if_pos wO]
 unfold wpOpIn;simp[show l.toArray[i]? =some o by simpa using s,e];unfold wpListIn at g;split at g
 ·rename_i f;rw[if_pos f];exact L7 (λ_ _ h=>h) (λ_ _ _ h=>h) (λ_ _ h=>h) g
 ·rename_i f;rw[if_neg f,if_pos wO];exact g
def bW.one{k}{o}(f:mJ l k (k+1))(m:l[k]? =some o)(h:ai c r P l.toArray [o] st (Exit.then (gq c r P l Q (k+1)) Q)):bW c r P l Q k st:=λa w s=>gq.one (F2 f).back (λi g j=>(F2 f).tail i g j k (Nat.le_refl _) (Nat.lt_succ_self _)) m (h a w s)
def F8(l:cg)(k:Nat):Bool:=
 let ms:=hP l []
 (l.zipIdx.all λp=>(nn p.1).all λj=>Nat.blt j p.2) &&
 (l.zipIdx.all λp=>Nat.blt p.2 k || (List.range p.2).all λj=>Nat.blt j k || (ms.getD p.2 0).testBit j)
def bW.tail{k}(g:F8 l k)(H:k<=l.length)(h:ai c r P l.toArray (l.drop k) st Q):bW c r P l Q k st:=by
 simp only[F8,Bool.and_eq_true,List.all_eq_true,Bool.or_eq_true] at g;obtain⟨E,B⟩:=g;have lt:∀{a b:Nat},Nat.blt a b=true->a<b:=λh=>Nat.lt_of_succ_le (by simpa [Nat.blt] using h);have x:∀(q p:Nat) (a:Act) (w:World),k<=p->p+q=l.length->wpListIn (bx r) 0 P l.toArray Q (l.drop p) a w->gq c r P l Q p a w:=by
  intro q
  induction q with
  | zero=>
   intro p a w A G h;obtain rfl:p=l.length:=by omega
   rw[List.drop_length] at h;exact gq.done h
  | succ q F=>
   intro p a w A G h;have m:p<l.length:=by omega
   rw[List.drop_eq_getElem_cons m] at h;refine gq.one (λi o C j I=>lt (E _ (wF C) j I)) (λi aN D=>?_) (List.getElem?_eq_getElem m) ?_
   ·rcases B _ (wF (List.getElem?_eq_getElem D)) with v | v
    ·have:=lt v;simp at this;omega
    ·rcases v p ng with t | t
     ·have:=lt t;omega
     ·exact t
   ·have z:∀a w,wpListIn (bx r) 0 P l.toArray Q (l.drop (p+1)) a w->wpListIn (bx r) 0 P l.toArray (Exit.then (gq c r P l Q (p+1)) Q) [] a w:=λa w h=>F (p+1) a w aa aa h;unfold wpListIn at h ⊢;split at h
    ·rename_i f;rw[if_pos f];exact L7 z (λ_ _ _ h=>h) (λ_ _ h=>h) h
    ·rename_i f;rw[if_neg f];exact⟨h.1,z _ _ h.2⟩
 exact λa w s=>x (l.length - k) k a w (Nat.le_refl _) aa (h a w s)
def gq.L9{X}{k m}{x}{M}{env}(aK:∀t,x t=true->aE env t=some .any)(kK:y3 l k m x)(lF:k<=m)(gk:m<=l.length)(mF:(l.all λo=>(looks l o).all λt=>Nat.blt t c.n)=true)
  (oZ:∀(I:cr) (w:World) (a:Act) ch w',a.defers=c.ds->a.tmps.size=c.n->bY c.B I w->Ext c.B c.c9 c.bN I w->X c.B I w ch w'->Q (.panic ch) a w')
  (h:jM X P M l c.n k ((l.drop k).take (m - k)) env λenv=>(∀t,x t=true->aE env t=some .any)/\∀a w I,a.defers=c.ds->a.tmps.size=c.n->bY c.B I w->Ext c.B c.c9 c.bN I w->M (λi=>Nat.blt i m) c.B a I w->fL I w (aE env) a->gq c r P l Q m a w)
  {a} {w} {I} (s1:a.defers=c.ds) (s2:a.tmps.size=c.n) (r3:bY c.B I w) (yT:Ext c.B c.c9 c.bN I w) (VV:M (λi=>Nat.blt i k) c.B a I w) (VW:fL I w (aE env) a):gq c r P l Q k a w:=by
 have ok:=F2 kK;obtain⟨xs,Ch,⟨F9,Ma⟩,VX⟩:=L8 _ _ _ _ h;have wP:xs.length=m - k:=by rw[Ch,List.length_take,List.length_drop];omega
 generalize jN:(l.drop k).take (m - k)=S at*;have wQ:∀(i:Nat) (o:Oper),S[i]? =some o↔i<m - k/\l[k+i]? =some o:=by
  intro i o;rw[<-jN,List.getElem?_take];by_cases aN:i<m - k
  ·rw[if_pos aN,List.getElem?_drop];simp[aN]
  ·rw[if_neg aN];simp[aN]
 generalize hF:lD env S xs=envF at Ma F9;have VY:∀(i:Nat) (o:Oper),l[i]? =some o->∀t∈looks l o,t<c.n:=by
  intro i o bb t ht;simp only[List.all_eq_true] at mF;have:=mF o (List.mem_of_getElem? bb) t ht;exact Nat.lt_of_succ_le (by simpa [Nat.blt] using this)
 have VZ:∀(i:Nat) (o:Oper) (x:ab) (t:Nat),i<m - k->l[k+i]? =some o->xs[i]? =some x->o.dst=some t->aE envF t=some x:=by
  intro i o x t aN bb aK a6;rw[<-hF];refine LL S xs env i t o x ((wQ i o).2 ⟨aN,bb⟩) aK a6 (λj o' l8 e=>?_);obtain⟨cp,qN⟩:=(wQ _ _).1 l8;rcases Nat.decEq j i with hx | he
  ·exact absurd a6 (ok.apart (k+i) o (k+j) o' t aa aa bb aa aa qN e aa)
  ·exact he
 have fin:∀(i:Nat) (o:Oper) (y:ab),i<m - k->l[k+i]? =some o->xs[i]? =some y->F5 X P M l (k+i) envF o y/\iF c.n o.dst=true:=by
  intro i o y aN bb hy;obtain⟨ae,ak⟩:=VX i o y ((wQ i o).2 ⟨aN,bb⟩) hy;refine⟨λT V0 V1 V2=>(ae T V0 V1 V2).congr λt ht=>?_,ak⟩;have sp:=LM i S xs env Ch;by_cases hw:∃j o',S[i+j]? =some o'/\o'.dst=some t
  ·obtain⟨j,o',l8,e⟩:=hw;obtain⟨cp,qN⟩:=(wQ _ _).1 l8;rcases ok.looked (k+i) o (k+(i+j)) o' t aa aa bb aa aa qN e ht with aL | aL
   ·rw[F9 t aL,yD _ _ _ _ λuR fx y6 bJ=>?_]
    ·exact aK t aL
    ·have tm:uR<i:=by
      have:=(List.getElem?_eq_some_iff.1 y6).1;rw[List.length_take] at this;omega
     rw[List.getElem?_take,if_pos tm] at y6;obtain⟨bo,cm⟩:=(wQ _ _).1 y6;exact ok.apart (k+uR) fx (k+(i+j)) o' t aa aa cm aa aa qN e aa bJ
   ·omega
  ·rw[<-hF,sp];refine (yD _ _ _ _ λj o' l8 e=>hw ⟨j,o',by rw[List.getElem?_drop] at l8;exact l8,e⟩).symm
 refine gq.any (J:=λS a w=>a.defers=c.ds/\a.tmps.size=c.n/\∃I,bY c.B I w/\Ext c.B c.c9 c.bN I w/\M S c.B a I w/\∀t y,aE envF t=some y->(∀(i:Nat) (o:Oper),i<m - k->l[k+i]? =some o->o.dst=some t->S (k+i)=true)->Rel I w y (a.tmps.getD t undef)) ok.back ok.tail lF gk ?_ ?_ ?_
 ·rintro S i o a w bb r7 V3 Ci Mb Ga ⟨a6,wR,I,hw,he,aW,bd⟩;obtain⟨q,rfl⟩:∃q,i=k+q:=⟨i - k,aa⟩;have cj:q<m - k:=by omega
  have Mc:xs[q]? =some xs[q]:=List.getElem?_eq_getElem aa;obtain⟨df,Md⟩:=fin q o _ cj bb Mc;have Me:∀d,o.dst=some d->d<a.tmps.size:=λd a6=>by rw[wR];rw[a6] at Md;exact Nat.lt_of_succ_le (by simpa [iF,Nat.blt] using Md)
  refine df S Ci Mb Ga c.B I w r a _ _ _ bb hw aW (λt ht z aD=>by
   cases wS:x t with
   | true=>rw[F9 t wS] at aD;cases aD;exact .any _
   | false=>exact bd t z aD λuR o' tm l8 Cj=>Mb _ ((ok.looked (k+q) o (k+uR) o' t r7 V3 bb aa aa l8 Cj ht).resolve_left (by rw[wS];simp)).2) (λt ht=>by rw[wR];exact VY _ o bb t ht) Me ?_ (λch w' aK=>oZ I w a ch w' a6 wR hw he aK)
  intro v w' c7 oc wT y7 aK;refine⟨by rw[put_defers];exact a6,by rw[ER];exact wR,c7,oc,he.trans wT,y7,λt x wS Gb=>?_⟩;by_cases y8:o.dst=some t
  ·rw[VZ q o _ t cj bb Mc y8] at wS;cases wS;rw[y8,pE (Me t y8)];exact aK
  ·have hold:Rel I w x (a.tmps.getD t undef):=bd t x wS λuR o' tm l8 Cj=>by
    have:=Gb uR o' tm l8 Cj;rwa [kI λe=>by
     obtain rfl:uR=q:=by omega
     rw[bb] at l8;cases l8;exact y8 Cj] at this
   rw[show (a.put o.dst v).tmps.getD t undef=a.tmps.getD t undef by
    cases hod:o.dst with
    | none=>rfl
    | some d=>exact lB (λe=>y8 (by rw[hod,e]))]
   exact hold.bw wT.keeps
 ·rintro a w ⟨a6,wR,I,hw,he,aW,bd⟩;exact Ma a w I a6 wR hw he aW λt x aK=>bd t x aK λi _ aN _ _=>Nat.ble_eq_true_of_le aa
 ·refine⟨s1,s2,I,r3,yT,VV,λt y hy Gb=>VW t y ?_⟩;rw[<-hy, <-hF];refine (yD _ _ _ _ λi o bb e=>?_).symm;obtain⟨ae,ak⟩:=(wQ i o).1 bb;have:=tl (Gb i o ae ak e);omega
def bW.Mf{X}{k m}{M}(f:mJ l k m)(j:k<=m)(v:m<=l.length)(q:(l.all λo=>(looks l o).all λt=>Nat.blt t c.n)=true)(C:∀B a I w,a7 B I w st.H->M (λi=>Nat.blt i k) B a I w)
  (oZ:∀(I:cr) (w:World) (a:Act) ch w',a.defers=c.ds->a.tmps.size=c.n->bY c.B I w->Ext c.B c.c9 c.bN I w->X c.B I w ch w'->Q (.panic ch) a w')
  (h:jM X P M l c.n k ((l.drop k).take (m - k)) st.env λenv=>∀a w I,a.defers=c.ds->a.tmps.size=c.n->bY c.B I w->Ext c.B c.c9 c.bN I w->M (λi=>Nat.blt i m) c.B a I w->fL I w (aE env) a->gq c r P l Q m a w):bW c r P l Q k st:=λa w s=>by
 obtain⟨I,D,E,z,A⟩:=s.mem;exact gq.L9 (x:=λ_=>false) (λ_ h=>by cases h) f j v q oZ (.mono (λenv h=>⟨λ_ h=>(by cases h),h⟩) h) s.ds s.size D E (C _ _ _ _ z) A
def bW.Ck{k m}{M}(f:mJ l k m)(q:k<=m)(g:m<=l.length)(s:(l.all λo=>(looks l o).all λt=>Nat.blt t c.n)=true)(v:∀B a I w,a7 B I w st.H->M (λi=>Nat.blt i k) B a I w)
  (h:cN P M l c.n k ((l.drop k).take (m - k)) st.env λenv=>∀a w I,a.defers=c.ds->a.tmps.size=c.n->bY c.B I w->Ext c.B c.c9 c.bN I w->M (λi=>Nat.blt i m) c.B a I w->fL I w (aE env) a->gq c r P l Q m a w):bW c r P l Q k st:=
 .Mf f q g s v (λ_ _ _ _ _ _ _ _ _ h=>h.elim) h
theorem ed.u{X}{H}{ops}{n}:∀{l:cg} {i:Nat} {env:List (Nat×ab)} {K:List (Nat×ab)->Prop},ed P H ops n l env K->jM X P (λ_ B _ I w=>a7 B I w H) ops n i l env K
 | [],_,_,_,h=>h
 | _::_,_,_,_,⟨x,a,c,f⟩=>⟨x,λ_ _ _ _=>a.e,c,f.u⟩
def bW.any{k m}(f:mJ l k m)(j:k<=m)(s:m<=l.length)(q:(l.all λo=>(looks l o).all λt=>Nat.blt t c.n)=true)
  (h:ed P st.H l c.n ((l.drop k).take (m - k)) st.env λenv=>bW c r P l Q m ⟨env,st.H⟩):bW c r P l Q k st:=bW.Ck (M:=λ_ B _ I w=>a7 B I w st.H) f j s q (λ_ _ _ _ h=>h) (jM.mono (λenv z a w I E v x C A D=>z a w ⟨E,v,I,x,C,A,D⟩) h.u)
def bW.dk{env}{H}(k m n)(hn:c.n=n)(f:mJ l k m)(j:Nat.ble k m)(g:Nat.ble m l.length)(mF:(l.all λo=>(looks l o).all λt=>Nat.blt t n)=true)
  (h:ed P H l c.n ((l.drop k).take (m - k)) env λenv=>bW c r P l Q m ⟨env,H⟩):bW c r P l Q k ⟨env,H⟩:=
 .any f (Nat.le_of_ble_eq_true j) (Nat.le_of_ble_eq_true g) qA h
def bW.V4(k)(a:F8 l k)(f:Nat.ble k l.length)(h:ai c r P l.toArray (l.drop k) st Q):bW c r P l Q k st:=.tail a (Nat.le_of_ble_eq_true f) h
end
section
variable{c:Ctx}{r:Option Nat}{P:Program}{ops:Array Oper}{l rest:cg}{o:Oper}{env:List (Nat×ab)}{H:aC}{Q:Exit->Act->World->Prop}{x:ab}{d n:Nat}
def Cl(B:Nat)(I:cr)(w:World)(eu:ab->aC->Prop):Value->World->Prop:=λv w'=>∃c7 H' x,bY B c7 w'/\Ext B I w c7 w'/\a7 B c7 w' H'/\Rel c7 w' x v/\eu x H'
def Cm{a}{w}{I}{f}{xs}{z}{ρ}(t:gG P ρ o f xs)(h:eM c.B P f xs H z (λ_ _=>False))(K:bY c.B I w)(D:a7 c.B I w H)(C:fo I w ρ a o):
  dw P r o a w (Cl c.B I w z) (λ_ _=>False):=by
 obtain⟨E,G,A⟩:=t.run I w a C;obtain⟨q,g⟩:=h;refine .qD t.rS (A q) ((g I w E K D G).mono λe L j=>?_);obtain⟨F,J,s,m,l,j⟩:=j;rcases j with⟨v,x,rfl,aK,r9⟩ | ⟨v,x,rfl,aK,j8⟩
 ·exact⟨F,J,x,s,m,l,aK,r9⟩
 ·exact j8.elim
def V5{a}{w}{I}{y}{args}{K}{F}{ys}{xs}{g}{q}{ρ}(h:o.op= .call {callee:=.value y,args:=args,argTypes:=K})
  (m:aO ρ y=some (g,F)) (U:g=true) (M:js ρ args.toList=some ys) (E:ys.all (·.1)=true) (t:c5 (ys.map (·.2)) xs)
  (O:eZ c.B P F xs H q (λ_ _=>False)) (W:bY c.B I w) (N:a7 c.B I w H) (J:fo I w ρ a o):dw P r o a w (Cl c.B I w q) (λ_ _=>False):=by
 have R:=J.get gF m U;have L:=t.rel (td J args.toList ys (λz T=>by simp[h,Op.operands,Call.operands];right;simpa using T) M (by simpa using E));have j:∀e C,e5 c.B I w q (λ_ _=>False) e C->match e with
   | .returned v=>Cl c.B I w q v C
   | .panicked X=>False
   | .outgrown=>False:=by
  rintro e C ⟨Q,S,D,A,z,⟨v,x,rfl,m,s⟩ | ⟨v,x,rfl,m,V⟩⟩
  ·exact⟨Q,S,x,D,A,z,m,s⟩
  ·exact V
 have G:(args.toList.map a.eval).toArray=args.map a.eval:=by apply Array.ext';simp
 rcases O I w _ _ W N R L with⟨f,jI,hs,bM,hO,n5⟩ | ⟨l,bM,fn,tmps,assign,body,hy,hR⟩
 ·rw[G] at n5;exact .qD ck (Fm h hO a w bM) (n5.mono j)
 ·rw[G] at hy;exact .LA ck (L0 h a w bM hy) (hR.mono j)
def ai.Mg{j k}{want G}{eu}(V:o.guard=some (j,want))(W:(ops[j]?).bind (·.dst)=some k)(J:Nat.blt k c.n)(T:nj (aE env k) want=some G)
  (K:o.dst=some d) (hn:Nat.blt d c.n) (h:G=true->∀(a:Act) (w:World) (I:cr),bY c.B I w->a7 c.B I w H->fo I w (aE env) a o->dw P r o a w (Cl c.B I w eu) (λ_ _=>False))
  (next:∀y A,(G=true->eu y A)->(G=false->y= .b false/\A=H)->ai c r P ops rest ⟨(d,.opt G y)::env,A⟩ Q):ai c r P ops (o::rest) ⟨env,H⟩ Q:=by
 intro a w s;obtain⟨I,O,M,N,C⟩:=s.mem;have m:=Fh (I:=I) (w:=w) (a:=a) W V (λz S=>C k z S) T (by rw[s.size];exact Nat.lt_of_succ_le (by simpa [Nat.blt] using J));unfold wpListIn;rw[m];have t:=gL K hn;cases G with
 | true=>
  rw[if_pos rfl];refine h rfl a w I O N (C.ops o) _ Q ?_ λ_ _ h=>h.elim;rintro v w' ⟨U,A,x,E,q,D,R,r9⟩;refine next x A (λ_=>r9) (λe=>by cases e) _ _ ⟨iS,iR,U,E,M.trans q,D,?_⟩;have:=(C.bw q.keeps).put (dst:=o.dst) (by rw[s.size];exact t) (.opt true x v (λ_=>R) λe=>by cases e);rw[K] at this ⊢;exact this
 | false=>
  rw[if_neg aT];refine⟨λ_ _=>trivial,next (.b false) H (λe=>by cases e) (λ_=>⟨rfl,rfl⟩) _ _ ⟨iS,iR,I,O,M,N,?_⟩⟩;have:=C.put (dst:=o.dst) (by rw[s.size];exact t) (.opt false (.b false) undef (λe=>by cases e) λ_=>rfl);rw[K] at this ⊢;exact this
def ai.Mh{j k}{g G}{f}{xs}{q}(z:o.guard=some (j,g))(D:(ops[j]?).bind (·.dst)=some k)(l:Nat.blt k c.n)(A:nj (aE env k) g=some G)
  (x:o.dst=some d) (hn:Nat.blt d c.n) (s:G=true->gG P (aE env) o f xs) (h:G=true->eM c.B P f xs H q (λ_ _=>False))
  (next:∀y m,(G=true->q y m)->(G=false->y= .b false/\m=H)->ai c r P ops rest ⟨(d,.opt G y)::env,m⟩ Q):ai c r P ops (o::rest) ⟨env,H⟩ Q:=
 .Mg z D l A x hn (λe a w I C v t=>Cm (s e) (h e) C v t) next
def ai.Mi{j k}{f G}{y}{args}{A}{v}{ys}{xs}{g}{x}(m:o.guard=some (j,f))(N:(ops[j]?).bind (·.dst)=some k)(l:Nat.blt k c.n)(L:nj (aE env k) f=some G)
  (J:o.dst=some d) (hn:Nat.blt d c.n) (h:o.op= .call {callee:=.value y,args:=args,argTypes:=A})
  (z:aO (aE env) y=some (g,v)) (K:G=true->g=true) (D:js (aE env) args.toList=some ys) (t:G=true->ys.all (·.1)=true) (q:c5 (ys.map (·.2)) xs) (F:G=true->eZ c.B P v xs H x (λ_ _=>False))
  (next:∀y s,(G=true->x y s)->(G=false->y= .b false/\s=H)->ai c r P ops rest ⟨(d,.opt G y)::env,s⟩ Q):ai c r P ops (o::rest) ⟨env,H⟩ Q:=
 .Mg m N l L J hn (λe a w I M E C=>V5 h z (K e) D (t e) q (F e) M E C) next
end
end Go.Eng

