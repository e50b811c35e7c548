/- Part 3 of the proof: contracts of functions of the program and what they need. No condition beyond those that each theorem names. -/
import Derived.Test.YtodccgailpkgeaaGreatKindLeastP2
import Derived.Laws.Cover3
set_option maxHeartbeats 1000000
set_option linter.unusedVariables false
set_option linter.unusedSimpArgs false
namespace Go.Eng
open Go.RowKit (Below)
def pW{α:Type}(B:Nat)(P:Program)(g:aa)(enc:α->aa)(L:List α)(F:List aj->Prop)(J Jx:List α->List aj->Prop):Prop:=
 ∀pre x H Hx,pre++[x]<+:L->F Hx->J pre H->e4 B P g [enc x] (H++Hx) (λy H'=>∃b H1,y= .b b/\H'=H1++Hx/\(b=true->J (pre++[x]) H1)/\(b=false->Jx (pre++[x]) H1)) (λ_ _=>False)
def zQ{α:Type}(B:Nat)(P:Program)(jO:aa)(enc:α->aa)(L:List α):Prop:=
 ∀(J Jx:List α->List aj->Prop) (f:Fn) (bM cs:List aa),pW B P (.fn f bM cs) enc L (λ_=>True) J Jx->∀H Hx,J [] H->
  e4 B P jO [.fn f bM cs] (H++Hx) (λ_ H'=>∃H1,H'=H1++Hx/\(J L H1\/∃pre,pre<+:L/\Jx pre H1)) (λ_ _=>False)
theorem br.newObj{B:Nat}{I:a8}{w:World}{H:List aj}(h:br B I w H)(hw:ck B I w)(o:Obj):br B I (w.alloc o) (.obj w.heap.size o::H):=by
 have cf:=h.alloc hw o;refine⟨λe he=>?_,List.pairwise_cons.2 ⟨λf aP b aw=>?_,cf.apart⟩⟩
 ·rcases List.mem_cons.1 he with rfl | he
  ·exact⟨hw.base,World.alloc_heap_new w o,λo' aA=>absurd (hw.lt aA) (Nat.lt_irrefl _)⟩
  ·exact cf.ok e he
 ·simp[aj.eX] at aw;subst aw;intro e;exact absurd (aj.nu (h.ok f aP) e).2 (Nat.lt_irrefl _)
theorem qJ{B:Nat}{I:a8}{w:World}{b:Nat}{o':Obj}(cu:∀o,¬I b o):fb I w I (w.putObj b o'):=
 ⟨λ_ _ x=>x,λdk o x=>World.cell?_of_block (a:=⟨dk,o,none⟩) (World.putObj_heap_other (λe=>cu o (e▸x)))⟩
theorem ck.putObj{B:Nat}{I:a8}{w:World}(h:ck B I w){b:Nat}{o':Obj}(cu:∀o,¬I b o):ck B I (w.putObj b o'):=
 ⟨by simpa using h.base,λdk o x=>by rw[(qJ (B:=B) (o':=o') cu).cell dk o x];exact h.there dk o x⟩
theorem Wh{B b:Nat}{w:World}{o:Obj}(h:B<=b):Below B w (w.putObj b o):=
 ⟨rfl,rfl,rfl,bj,λj aU=>World.putObj_heap_other ad⟩
theorem br.vz{B:Nat}{I:a8}{w:World}{H H':List aj}{b:Nat}{dw lp':Loop}{ρ:Nat->Option aa}(h:br B I w H)(hu:bu H (.loop b dw ρ) (.loop b lp' ρ) H')(ht:lp'.tmps=dw.tmps):br B I (w.putObj b (.loop lp')) H':=by
 obtain⟨bE,aw,aC,cu⟩:=h.ok _ hu.mem;refine h.gH hu (qJ (B:=B) cu) (λk ao bq=>World.putObj_heap_other (λe=>bq (by rw[e];rfl))) (λ_ _ x=>.inl x) ⟨bE,World.putObj_heap_same (Array.getElem?_eq_some_iff.1 aw).1,λt x ag=>?_,cu⟩ (λk ao=>.inl ao);rw[ht];exact (aC t x ag).bQ (qJ (B:=B) cu)
theorem br.M0{B:Nat}{I:a8}{w:World}{H:List aj}(h:br B I w H)(hw:ck B I w)(dw:Loop)(ρ:Nat->Option aa)(nz:∀t x,ρ t=some x->Rel I w x (dw.tmps.getD t undef)):br B I (w.alloc (.loop dw)) (.loop w.heap.size dw ρ::H):=by
 have cf:=h.alloc hw (.loop dw);refine⟨λe he=>?_,List.pairwise_cons.2 ⟨λf aP b aw=>?_,cf.apart⟩⟩
 ·rcases List.mem_cons.1 he with rfl | he
  ·exact⟨hw.base,World.alloc_heap_new w _,λt x ag=>(nz t x ag).bQ (mq hw _),λo' aA=>absurd (hw.lt aA) (Nat.lt_irrefl _)⟩
  ·exact cf.ok e he
 ·simp[aj.eX] at aw;subst aw;intro e;exact absurd (aj.nu (h.ok f aP) e).2 (Nat.lt_irrefl _)
theorem Ext.putObj{B:Nat}{I:a8}{w:World}{b:Nat}{o':Obj}(bE:B<=b)(cu:∀o,¬I b o):Ext B I w I (w.putObj b o'):=
 ⟨λ_ _ x=>x,(qJ (B:=B) cu).cell,Wh bE⟩
def xU{α:Type}(B:Nat)(cl:a8)(aO:World)(l D:Nat)(dw:Loop)(ρ:Nat->Option aa)(J:List α->List aj->Prop)(Jx:Code->List α->List aj->Prop)(pre:List α)(Hx:List aj):Exit->Act->World->Prop:=λe _ w=>
 ∃I H,ck B I w/\Ext B cl aO I w/\br B I w (.loop l dw ρ::.obj D (.deferred (some []))::(H++Hx))/\
  match e with
  | .normal=>J pre H
  | .ret=>Jx .ret pre H
  | .exit id=>Jx (.exit id) pre H
  | _=>False
def vA{α:Type}(B:Nat)(P:Program)(g:aa)(enc:α->aa)(L:List α)(F:List aj->Prop)(J Jx:List α->List aj->Prop):Prop:=
 ∀pre x H Hx,pre++[x]<+:L->F Hx->J pre H->e4 B P g [enc x] (H++Hx) (λy H'=>∃b H1,y= .b b/\H'=H1++Hx/\(b=false->J (pre++[x]) H1)/\(b=true->Jx (pre++[x]) H1)) (λ_ _=>False)
def oo{α:Type}(P:Program)(ga:List aj)(g:aa)(enc:α->aa)(l:List α)(p:α->Bool):Prop:=∀x∈l,∀B H,(∀e∈ga,e∈H)->e4 B P g [enc x] H (λy H'=>y= .b (p x)/\H'=H) (λ_ _=>False)
def oZ{α:Type}(P:Program)(g:aa)(enc:α->aa)(p:α->Bool):Prop:=∀B x H,e4 B P g [enc x] H (λy H'=>y= .b (p x)/\H'=H) (λ_ _=>False)
theorem oZ.on{α:Type}{P:Program}{g:aa}{enc:α->aa}{p:α->Bool}(h:oZ P g enc p)(l:List α):oo P [] g enc l p:=λx _ B H _=>h B x H
theorem oo.find{α:Type}{B:Nat}{P:Program}{ga:List aj}{g:aa}{enc:α->aa}{l:List α}{p:α->Bool}(h:oo P ga g enc l p):vA B P g enc l (λHx=>∀e∈ga,e∈Hx) (λpre H=>H= []/\∀x∈pre,p x=false) (λpre H=>H= []/\∃q x,pre=q++[x]/\(∀y∈q,p y=false)/\p x=true):=by
 rintro pre x H Hx pX hF ⟨rfl,aB⟩ I w v vs hw az aC dT;have:=h x (pX.subset bj) B Hx hF I w v vs hw az aC dT;have conv:∀e w',fD B I w (λy H'=>y= .b (p x)/\H'=Hx) (λ_ _=>False) e w'->fD B I w (λy H'=>∃b H1,y= .b b/\H'=H1++Hx/\(b=false->H1= []/\∀y∈pre++[x],p y=false)/\(b=true->H1= []/\∃q z,pre++[x]=q++[z]/\(∀y∈q,p y=false)/\p z=true)) (λ_ _=>False) e w':=by
  rintro e w' ⟨aQ,H',a,b,d,aK⟩;refine⟨aQ,H',a,b,d,aK.elim (λ⟨v,y,a6,aW,cN,gO⟩=>.inl ⟨v,y,a6,aW,p x,[],cN,by simp[gO],λaw=>⟨rfl,λy hy=>?_⟩,λaw=>⟨rfl,pre,x,rfl,aB,aw⟩⟩) (λ⟨_,_,_,_,h⟩=>h.elim)⟩;rcases List.mem_append.1 hy with hy | hy
  ·exact aB y hy
  ·simp at hy;subst hy;exact aw
 exact this.elim (λ⟨f,fq,eQ,e,cA,ak⟩=>.inl ⟨f,fq,eQ,e,cA,ak.mono conv⟩) (λ⟨l,e,hy⟩=>.inr ⟨l,e,hy.mono conv⟩)
section
variable{c:Ctx}{r:Option Nat}{P:Program}{ops:Array Oper}{rest:List Oper}{o:Oper}{st:dn}{Q:Exit->Act->World->Prop}{x:aa}
theorem aR.nA{α:Type}{B:Nat}{cl:a8}{aO:World}{n l D:Nat}{dw:Loop}{ρ:Nat->Option aa}{J:List α->List aj->Prop}{Jx:Code->List α->List aj->Prop}{pre:List α}{H Hx:List aj}{ds:List Deferred}
  (b0:(.loop l dw ρ::.obj D (.deferred (some []))::(H++Hx)).Sublist st.H) (bF:J pre H):aR ⟨B,cl,aO,n,ds⟩ st .normal (xU B cl aO l D dw ρ J Jx pre Hx):=λa w s=>
 let ⟨I,hw,he,az,aC⟩:=s.mem;⟨I,H,hw,he,az.sub b0,bF⟩
theorem aR.Gs{α:Type}{B:Nat}{cl:a8}{aO:World}{n l D:Nat}{dw:Loop}{ρ:Nat->Option aa}{J:List α->List aj->Prop}{Jx:Code->List α->List aj->Prop}{pre:List α}{H Hx:List aj}{ds:List Deferred}
  (b0:(.loop l dw ρ::.obj D (.deferred (some []))::(H++Hx)).Sublist st.H) (bF:Jx .ret pre H):aR ⟨B,cl,aO,n,ds⟩ st .ret (xU B cl aO l D dw ρ J Jx pre Hx):=λa w s=>
 let ⟨I,hw,he,az,aC⟩:=s.mem;⟨I,H,hw,he,az.sub b0,bF⟩
theorem aR.Wi{α:Type}{B:Nat}{cl:a8}{aO:World}{n l D id:Nat}{dw:Loop}{ρ:Nat->Option aa}{J:List α->List aj->Prop}{Jx:Code->List α->List aj->Prop}{pre:List α}{H Hx:List aj}{ds:List Deferred}
  (b0:(.loop l dw ρ::.obj D (.deferred (some []))::(H++Hx)).Sublist st.H) (bF:Jx (.exit id) pre H):aR ⟨B,cl,aO,n,ds⟩ st (.exit id) (xU B cl aO l D dw ρ J Jx pre Hx):=λa w s=>
 let ⟨I,hw,he,az,aC⟩:=s.mem;⟨I,H,hw,he,az.sub b0,bF⟩
theorem e4.perm{B:Nat}{g:aa}{xs:List aa}{H H':List aj}{bw:aa->List aj->Prop}{E:aa->List aj->Prop}(h:e4 B P g xs H bw E)(aB:H'.Perm H):e4 B P g xs H' bw E:=
 λI w v vs hw az aC dT=>h I w v vs hw (az.perm aB) aC dT
theorem fD.mono{B:Nat}{I:a8}{w:World}{bw jd:aa->List aj->Prop}{E k9:aa->List aj->Prop}{e:Ending}{w':World}(h:fD B I w bw E e w')(ab:∀y H,bw y H->jd y H)(ae:∀y H,E y H->k9 y H):fD B I w jd k9 e w':=by
 obtain⟨aQ,H',a,b,d,aK⟩:=h;exact⟨aQ,H',a,b,d,aK.elim (λ⟨v,x,a6,aW,cN⟩=>.inl ⟨v,x,a6,aW,ab _ _ cN⟩) (λ⟨v,x,a6,aW,cN⟩=>.inr ⟨v,x,a6,aW,ae _ _ cN⟩)⟩
theorem C0.mono{v:Value}{vs:List Value}{w:World}{R zs:Ending->World->Prop}(h:C0 P v vs w R)(aK:∀e w,R e w->zs e w):C0 P v vs w zs:=
 h.elim (λ⟨f,fq,eQ,e,cA,ak⟩=>.inl ⟨f,fq,eQ,e,cA,ak.mono aK⟩) (λ⟨l,e,hy⟩=>.inr ⟨l,e,hy.mono aK⟩)
theorem e4.mono{B:Nat}{g:aa}{xs:List aa}{H:List aj}{bw jd:aa->List aj->Prop}{E k9:aa->List aj->Prop}(h:e4 B P g xs H bw E)(ab:∀y H,bw y H->jd y H)(ae:∀y H,E y H->k9 y H):e4 B P g xs H jd k9:=
 λI w v vs hw az aC dT=>(h I w v vs hw az aC dT).mono λ_ _ aK=>aK.mono ab ae
theorem Gt{I:a8}{w:World}{env:List (Nat×aa)}{a:Act}{p:Nat}{v:Value}{y:aa}(h:fs I w (aX env) a)(aB:p<a.tmps.size)(hy:Rel I w y v)(ds:List Deferred):fs I w (aX ((p,y)::env)) {tmps:=a.tmps.setIfInBounds p v,defers:=ds}:=by
 intro t z an;rw[l0] at an;show Rel I w z ((a.tmps.setIfInBounds p v).getD t undef);split at an
 ·rename_i e;subst e;simp at an;subst an;simp[Array.getD,aB];exact hy
 ·rename_i e;have:=h t z an;simp only[Array.getD_eq_getD_getElem?] at this ⊢;rwa [Array.getElem?_setIfInBounds_ne (Ne.symm e)]
def Gu{α:Type}(B:Nat)(P:Program)(g:aa)(enc:Nat->α->aa)(own:Nat->α->List aj)(L:List α)(J Jx:List α->List aj->Prop):Prop:=
 ∀b pre x H Hx,pre++[x]<+:L->J pre H->e4 B P g [enc b x] (H++(own b x++Hx)) (λy H'=>∃r H1,y= .b r/\H'=H1++(own b x++Hx)/\(r=true->J (pre++[x]) H1)/\(r=false->Jx (pre++[x]) H1)) (λ_ _=>False)
def C1{α:Type}(B:Nat)(P:Program)(jO:aa)(enc:Nat->α->aa)(own:Nat->α->List aj)(L:List α):Prop:=
 ∀(J Jx:List α->List aj->Prop) (f:Fn) (bM cs:List aa),Gu B P (.fn f bM cs) enc own L J Jx->∀H Hx,J [] H->
  e4 B P jO [.fn f bM cs] (H++Hx) (λ_ H'=>∃H1,H'=H1++Hx/\(J L H1\/∃pre,pre<+:L/\Jx pre H1)) (λ_ _=>False)
theorem aq.M1{α:Type}{t p:Nat}{assign body:Code}{f:FuncId}{mo:List aa}(enc:Nat->α->aa)(own:Nat->α->List aj)(L:List α)(J:List α->List aj->Prop)(Jx:Code->List α->List aj->Prop)(H Hx:List aj)(fF:Nat->α->List (Nat×aa))
  (aK:r=none) (b0:st.H=H++Hx) (al:aX st.env t=some (.fn (.func f) [] mo)) (aB:Nat.blt p c.n=true) (vB:C1 c.B P (.fn (.func f) [] mo) enc own L) (bF:J [] H)
  (vC:∀(l:Nat) (I:a8) (w:World) (k:Nat) (x:α) (c0:List aj),aq ⟨c.B,I,w,c.n,[]⟩ (some l) P assign ⟨(p,enc k x)::st.env,c0⟩ (Exit.then (λa w'=>∃st',st'=(⟨fF k x,c0⟩:dn)/\Sat ⟨c.B,I,w,c.n,[]⟩ st' a w') (λ_ _ _=>False)))
  (round:∀(l D:Nat) (dw:Loop) (pre:List α) (k:Nat) (x:α) (H1 c0:List aj) (I:a8) (w:World),pre++[x]<+:L->J pre H1->
   aq ⟨c.B,I,w,c.n,[]⟩ (some l) P body ⟨fF k x,.loop l dw (aX st.env)::.obj D (.deferred (some []))::(H1++(own k x++c0))⟩ (xU c.B I w l D dw (aX st.env) J Jx (pre++[x]) (own k x++c0)))
  (done:∀(D:Nat) (H1:List aj),J L H1->aR ⟨c.B,c.cl,c.aO,c.n,{target:=.collected D,args:=#[]}::c.ds⟩ ⟨st.env,.obj D (.deferred (some []))::(H1++Hx)⟩ .normal Q)
  (jump:∀(D:Nat) (code:Code) (pre:List α) (H1:List aj),pre<+:L->Jx code pre H1->aq ⟨c.B,c.cl,c.aO,c.n,{target:=.collected D,args:=#[]}::c.ds⟩ r P code ⟨st.env,.obj D (.deferred (some []))::(H1++Hx)⟩ Q):
  aq c r P (.rangeFunc (.tmp t) #[p] assign body) st Q:=by
 intro a w s;subst aK;obtain⟨I,hw,he,az,aC⟩:=s.mem;rw[b0] at az;refine wpIn_rangeFunc λfn qK=>?_;obtain⟨eA,lA⟩:∃eA:Loop,eA={state:=.ready,pending:=none,fn,tmps:=a.tmps,params:=#[p],assign,body,defers:=w.heap.size}:=⟨_,rfl⟩;have zR:=aC t _ al;generalize hu:a.tmps.getD t undef=u at zR;cases zR with
 | fn _ _ _ fq eQ aP ak=>
 have Gv:fq= #[]:=by cases fq with | mk l=>cases aP;rfl
 subst Gv;have vD:=az.newObj hw (.deferred (some []));have o0:=hw.alloc (.deferred (some []));have gI:=aC.bQ (mq hw (.deferred (some [])));have sH:=vD.M0 o0 eA (aX st.env) (by rw[lA];exact gI);have Gw:=o0.alloc (.loop eA);rw[World.size_alloc] at sH;have c1:Ext c.B I w I ((w.alloc (.deferred (some []))).alloc (.loop eA)):=(kN hw _).trans (kN o0 _)
 let sI:List α->List aj->Prop:=λpre dK=>∃H1,J pre H1/\dK= .loop (w.heap.size+1) eA (aX st.env)::.obj w.heap.size (.deferred (some []))::(H1++Hx)
 let C2:List α->List aj->Prop:=λpre dK=>∃code H1,Jx code pre H1/\dK= .loop (w.heap.size+1) {eA with state:=.done,pending:=some code} (aX st.env)::.obj w.heap.size (.deferred (some []))::(H1++Hx)
 have eH:a.tmps.size=c.n:=s.size;have Gx:p<c.n:=Nat.lt_of_succ_le (by simpa [Nat.blt] using aB);have iT:Gu c.B P (.fn (.yield (w.heap.size+1)) [] []) enc own L sI C2:=by
  rintro k pre x dK c0 pX ⟨H1,fp,rfl⟩ oq W v vs Gy zS Gz dT;obtain rfl:v= .func (.yield (w.heap.size+1)) #[] #[]:=by
   cases Gz with
   | fn _ _ _ fq eQ aP ak=>
    cases fq with
    | mk j8=>cases eQ with
     | mk lc=>cases aP;cases ak;rfl
  cases dT with
  | cons _ v1 _ Wj sn ht=>
  cases ht;obtain⟨Wk,mw,nz,GA⟩:=zS.ok (.loop (w.heap.size+1) eA (aX st.env)) bj;have hy:=run_yield (P:=P) (args:=#[v1]) mw (by rw[lA];rfl);refine .inr ⟨_,rfl,fn,a.tmps.setIfInBounds p v1,assign,body,?_,?_⟩
  ·rw[lA] at hy;simpa using hy
  ·refine roundIn_of_wpIn (F:=bb none) (n:=0) trivial ?_;have GB:br c.B oq W (.loop (w.heap.size+1) eA (aX st.env)::.obj w.heap.size (.deferred (some []))::(H1++(own k x++(Hx++c0)))):=
    zS.perm LW
   have eh:Sat ⟨c.B,oq,W,c.n,[]⟩ ⟨(p,enc k x)::st.env,.loop (w.heap.size+1) eA (aX st.env)::.obj w.heap.size (.deferred (some []))::(H1++(own k x++(Hx++c0)))⟩ {tmps:=a.tmps.setIfInBounds p v1,defers:=[]} W:=by
    refine⟨rfl,by simpa using eH,oq,Gy,Ext.refl _ _ _,GB,?_⟩;refine Gt (a:=a) (λt y GC=>?_) (by rw[eH];exact Gx) sn [];have:=nz t y GC;rw[lA] at this;exact this
   refine wpIn_mono (vC (w.heap.size+1) oq W k x _ _ W eh) λe a3 vE mZ=>?_;cases e with
   | normal=>
    obtain⟨st',rfl,sJ⟩:=mZ;obtain⟨vF,GD,GF,zT,tU⟩:=sJ.mem;obtain⟨GG,GH,_,zU⟩:=zT.ok _ (.head _);refine⟨_,run_beginRound GH (by rw[lA]),?_⟩;have GI:=zT.vz (lp':={eA with state:=.busy}) (.head _ _ _) rfl;have zV:Ext c.B vF vE vF (vE.putObj (w.heap.size+1) (.loop {eA with state:=.busy})):=Ext.putObj GG zU;have zW:Sat ⟨c.B,oq,W,c.n,[]⟩ ⟨fF k x,.loop (w.heap.size+1) {eA with state:=.busy} (aX st.env)::.obj w.heap.size (.deferred (some []))::(H1++(own k x++(Hx++c0)))⟩ a3 (vE.putObj (w.heap.size+1) (.loop {eA with state:=.busy})):=
     ⟨sJ.ds,sJ.size,vF,GD.putObj zU,GF.trans zV,GI,tU.bQ zV.keeps⟩
    refine wpIn_mono (round _ _ _ pre k x H1 (Hx++c0) oq W pX fp a3 _ zW) λe a5 C3 GJ=>?_;obtain⟨C4,sK,C5,C6,xV,mx⟩:=GJ;obtain⟨GK,GL,_,zX⟩:=xV.ok _ (.head _);have fin:∀jp:Option Code,(Instr.endRound (w.heap.size+1) jp).run P C3= .ok (.bool jp.isNone) (C3.putObj (w.heap.size+1) (.loop {eA with state:=if jp.isNone then .ready else .done,pending:=jp}))/\
      ∀(b:Bool) (ot:List aj),b=jp.isNone->ot= .loop (w.heap.size+1) {eA with state:=if jp.isNone then .ready else .done,pending:=jp} (aX st.env)::.obj w.heap.size (.deferred (some []))::(sK++Hx)->(b=true->sI (pre++[x]) ot)->(b=false->C2 (pre++[x]) ot)->
       fD c.B oq W (λy H'=>∃b H1,y= .b b/\H'=H1++(own k x++c0)/\(b=true->sI (pre++[x]) H1)/\(b=false->C2 (pre++[x]) H1)) (λ_ _=>False) (.returned (.bool jp.isNone)) (C3.putObj (w.heap.size+1) (.loop {eA with state:=if jp.isNone then .ready else .done,pending:=jp})):=by
     intro jp;refine⟨by have cQ:=run_endRound (P:=P) jp GL;exact cQ,λb ot aw xW ab ae=>?_⟩;have pY:=xV.vz (lp':={eA with state:=if jp.isNone then .ready else .done,pending:=jp}) (.head _ _ _) rfl;refine⟨C4,ot++(own k x++c0),C5.putObj zX,C6.trans (Ext.putObj GK zX),?_,.inl ⟨_,.b b,rfl,by rw[aw];exact .val _,b,ot,rfl,rfl,ab,ae⟩⟩;rw[xW];exact pY.perm LW
    cases e with
    | normal=>
     obtain⟨a6,aW⟩:=fin none;exact⟨_,_,a6,aW true _ rfl rfl (λ_=>⟨sK,mx,by rw[lA];rfl⟩) (λh=>by cases h)⟩
    | ret=>
     obtain⟨a6,aW⟩:=fin (some .ret);exact⟨_,_,a6,aW false _ rfl rfl (λh=>by cases h) (λ_=>⟨.ret,sK,mx,rfl⟩)⟩
    | exit id=>
     obtain⟨a6,aW⟩:=fin (some (.exit id));exact⟨_,_,a6,aW false _ rfl rfl (λh=>by cases h) (λ_=>⟨.exit id,sK,mx,rfl⟩)⟩
    | goto t=>exact mx.elim
    | panic ch=>exact mx.elim
    | outgrown=>exact mx.elim
   | exit id=>exact mZ.elim
   | goto t=>exact mZ.elim
   | ret=>exact mZ.elim
   | panic ch=>exact mZ.elim
   | outgrown=>exact mZ.elim
 have ij:=vB sI C2 _ _ _ iT _ [] ⟨H,bF,rfl⟩ I _ (.func (.func f) #[] eQ) [.func (.yield (w.heap.size+1)) #[] #[]] Gw (by simpa using sH) (.fn _ _ _ _ _ .nil (ak.bQ c1.keeps)) (.cons _ _ _ _ (.fn _ _ _ _ _ .nil .nil) .nil);rcases ij with⟨f',vf',vc',a6,cA,hcalls⟩ | ⟨l,a6,_⟩
 ·simp only[Value.func.injEq,Fn.func.injEq] at a6;obtain⟨rfl,rfl,rfl⟩:=a6;refine⟨w.heap.size+1,[{target:=.collected w.heap.size,args:=#[]}],(w.alloc (.deferred (some []))).alloc (.loop eA),{target:=.fn (.func f) eQ,args:=#[.func (.yield (w.heap.size+1)) #[] #[]]},(w.alloc (.deferred (some []))).alloc (.loop eA),f,
   #[.func (.yield (w.heap.size+1)) #[] #[]]++eQ,(w.alloc (.deferred (some []))).alloc (.loop eA),?_,?_,λ_ _=>trivial,?_,by simp[bb],?_⟩
  ·rw[lA];exact run_enterLoop_outer fn a.tmps #[p] assign body
  ·have xX:a.eval (.tmp t)= .func (.func f) #[] eQ:=hu;simp only[resolve,rangeCall,xX];simp[Deferred.ofValue,Act.eval]
  ·simp[invoke,xQ cA]
  ·have gF:(#[]++[Value.func (Fn.yield (w.heap.size+1)) #[] #[]].toArray++eQ)= #[Value.func (Fn.yield (w.heap.size+1)) #[] #[]]++eQ:=by simp
   rw[gF] at hcalls;refine F6 (hcalls.mono λe W hR=>?_);obtain⟨pZ,Wl,zY,sL,pY,nB⟩:=hR;rcases nB with nB | nB
   ·obtain⟨v,y,rfl,_,nB⟩:=nB;obtain⟨ot,xW,Wm⟩:=nB;rw[List.append_nil] at xW;subst xW;rcases Wm with⟨H1,GM,rfl⟩ | ⟨pre,e9,code,H1,hJX,rfl⟩
    ·obtain⟨zZ,z1,_,tV⟩:=pY.ok _ (.head _);have z6:eA.pending=none:=by rw[lA]
     have z7:=run_endLoop (P:=P) z1 (by rw[lA];simp);rw[z6] at z7;refine⟨none,_,z7,?_⟩;have vG:=(pY.vz (lp':={eA with state:=.exhausted}) (.head _ _ _) rfl).tail;have rE:Ext c.B pZ W pZ (W.putObj (w.heap.size+1) (.loop {eA with state:=.exhausted})):=Ext.putObj zZ tV;rw[z6] at rE vG;refine done w.heap.size H1 GM _ _ ⟨?_,s.size,pZ,zY.putObj tV,(he.trans (c1.trans sL)).trans rE,vG,(aC.bQ (c1.trans sL).keeps).bQ rE.keeps⟩;show _::a.defers=_;rw[s.ds]
    ·obtain⟨zZ,z1,_,tV⟩:=pY.ok _ (.head _);refine⟨some code,_,run_endLoop (P:=P) z1 bj,?_⟩;have vG:=(pY.vz (lp':={eA with state:=.exhausted,pending:=some code}) (.head _ _ _) rfl).tail;have rE:Ext c.B pZ W pZ (W.putObj (w.heap.size+1) (.loop {eA with state:=.exhausted,pending:=some code})):=Ext.putObj zZ tV;refine jump w.heap.size code pre H1 e9 hJX _ _ ⟨?_,s.size,pZ,zY.putObj tV,(he.trans (c1.trans sL)).trans rE,vG,(aC.bQ (c1.trans sL).keeps).bQ rE.keeps⟩;show _::a.defers=_;rw[s.ds]
   ·obtain⟨_,_,_,_,hF⟩:=nB;exact hF.elim
 ·simp at a6
theorem zQ.b{α:Type}{B:Nat}{P:Program}{jO:aa}{enc:α->aa}{L:List α}(h:zQ B P jO enc L):C1 B P jO (λ_=>enc) (λ_ _=>[]) L:=
 λJ Jx f bM cs ak H Hx bF=>h J Jx f bM cs (λpre x H Hx aB _ bF=>ak 0 pre x H Hx aB bF) H Hx bF
theorem aq.rangeFunc{α:Type}{t p:Nat}{assign body:Code}{f:FuncId}{mo:List aa}(enc:α->aa)(L:List α)(J:List α->List aj->Prop)(Jx:Code->List α->List aj->Prop)(H Hx:List aj)(fF:α->List (Nat×aa))
  (aK:r=none) (b0:st.H=H++Hx) (al:aX st.env t=some (.fn (.func f) [] mo)) (aB:Nat.blt p c.n=true) (vB:zQ c.B P (.fn (.func f) [] mo) enc L) (bF:J [] H)
  (vC:∀(l:Nat) (I:a8) (w:World) (x:α) (c0:List aj),aq ⟨c.B,I,w,c.n,[]⟩ (some l) P assign ⟨(p,enc x)::st.env,c0⟩ (Exit.then (λa w'=>∃st',st'=(⟨fF x,c0⟩:dn)/\Sat ⟨c.B,I,w,c.n,[]⟩ st' a w') (λ_ _ _=>False)))
  (round:∀(l D:Nat) (dw:Loop) (pre:List α) (x:α) (H1 c0:List aj) (I:a8) (w:World),pre++[x]<+:L->J pre H1->
   aq ⟨c.B,I,w,c.n,[]⟩ (some l) P body ⟨fF x,.loop l dw (aX st.env)::.obj D (.deferred (some []))::(H1++c0)⟩ (xU c.B I w l D dw (aX st.env) J Jx (pre++[x]) c0))
  (done:∀(D:Nat) (H1:List aj),J L H1->aR ⟨c.B,c.cl,c.aO,c.n,{target:=.collected D,args:=#[]}::c.ds⟩ ⟨st.env,.obj D (.deferred (some []))::(H1++Hx)⟩ .normal Q)
  (jump:∀(D:Nat) (code:Code) (pre:List α) (H1:List aj),pre<+:L->Jx code pre H1->aq ⟨c.B,c.cl,c.aO,c.n,{target:=.collected D,args:=#[]}::c.ds⟩ r P code ⟨st.env,.obj D (.deferred (some []))::(H1++Hx)⟩ Q):
  aq c r P (.rangeFunc (.tmp t) #[p] assign body) st Q:=
 aq.M1 (λ_=>enc) (λ_ _=>[]) L J Jx H Hx (λ_=>fF) aK b0 al aB vB.b bF (λl I w _=>vC l I w) (λl D dw pre _=>round l D dw pre) done jump
end
section
variable{c:Ctx}{r:Option Nat}{P:Program}{ops:Array Oper}{l rest:List Oper}{o:Oper}{st:dn}{Q:Exit->Act->World->Prop}{x:aa}
abbrev mark(D:Nat):Deferred:={target:=.collected D,args:=#[]}
theorem b1.rF{f:FuncId}{fn:Func}{code:Code}{xs:List aa}{H:List aj}{bw:aa->List aj->Prop}{E:aa->List aj->Prop}{n:Nat}(aP:P.funcs[f]? =some fn)(aw:fn.body=some code)(qp:(fn.name== "runtime.NumGoroutine")=false)
  (hn:fn.ntmps=n) (ax:Nat.ble xs.length n=true) (h:∀B I w,aq ⟨B,I,w,n,[]⟩ none P code ⟨oi 0 xs,H⟩ (bodyPostM (bb none) 0 P fn (fD B I w bw E))):b1 P f xs H bw E:=by
 refine⟨ve,λB I w vs hw az aC=>vk (n:=0) (callsIn_of_wp_marks aP aw trivial ?_ rfl)⟩;refine h B I w _ w ⟨rfl,?_,I,hw,Ext.refl _ _ _,az,λt y hy=>?_⟩
 ·have:=aC.length;have:=Nat.le_of_ble_eq_true ax;simp;omega
 ·obtain⟨v,ab,ae⟩:=aC.get zl;have:(vs.toArray++Array.replicate (fn.ntmps - vs.toArray.size) undef).getD t undef=v:=by
   have cO:=(List.getElem?_eq_some_iff.1 ab).1;simp only[Array.getD_eq_getD_getElem?];rw[Array.getElem?_append_left xL];simp[ab]
  rw[this];exact ae
theorem bO.kU{ys bY:List aa}(h:bO ys bY):aL (kU ys) (kU bY):=by
 cases h with
 | nil=>exact aL.refl _
 | cons ag ht=>
  cases ht with
  | nil=>exact ag
  | cons hy ht=>exact aL.bJ (.cons ag (.cons hy ht))
theorem aR.Wn{fn:Func}{B:Nat}{cl:a8}{aO:World}{n:Nat}{bw:aa->List aj->Prop}{E:aa->List aj->Prop}{rs:List ResultVar}{ys bY:List aa}{H':List aj}(aK:fn.results=rs.toArray)(h:jy P st rs ys)(hle:bO ys bY)
  (b0:H'.Sublist st.H) (fE:bw (kU bY) H'):aR ⟨B,cl,aO,n,[]⟩ st .ret (bodyPostM (bb none) 0 P fn (fD B cl aO bw E)):=by
 intro a w s;obtain⟨I,hw,he,az,aC⟩:=s.mem;obtain⟨v,ab,ae⟩:=h.res (c:=⟨B,cl,aO,n,[]⟩) az aC aK;show LeavesInM _ _ _ _ _ _ a.defers _ _;rw[show a.defers= [] from s.ds];exact⟨v,ab,I,H',hw,he,az.sub b0,.inl ⟨v,_,rfl,hle.kU _ _ _ ae,fE⟩⟩
theorem aR.C7{fn:Func}{B D:Nat}{cl:a8}{aO:World}{n:Nat}{bw:aa->List aj->Prop}{E:aa->List aj->Prop}{rs:List ResultVar}{ys bY:List aa}{H' nC:List aj}(aK:fn.results=rs.toArray)(fZ:hq st.H (.obj D (.deferred (some []))) nC)(h:jy P ⟨st.env,nC⟩ rs ys)(hle:bO ys bY)
  (b0:H'.Sublist nC) (fE:bw (kU bY) H'):aR ⟨B,cl,aO,n,[mark D]⟩ st .ret (bodyPostM (bb none) 0 P fn (fD B cl aO bw E)):=by
 intro a w s;obtain⟨I,hw,he,az,aC⟩:=s.mem;obtain⟨bE,aw,cu⟩:=az.ok _ fZ.mem;show LeavesInM _ _ _ _ _ _ a.defers _ _;rw[show a.defers= [mark D] from s.ds];have ao:fb I w I (w.putObj D (.deferred none)):=qJ (B:=B) cu;have cW:br B I (w.putObj D (.deferred none)) nC:=by
  refine (az.sub fZ.sub).bQ ao (λf aP b kR=>World.putObj_heap_other (λe=>?_)) (λ_ _ _ _ _ x=>x);subst e;exact fZ.apart az.apart f aP _ rfl kR
 obtain⟨v,ab,ae⟩:=h.res (c:=⟨B,cl,aO,n,[]⟩) (st:=⟨st.env,nC⟩) cW (aC.bQ ao) aK;exact⟨bj,.inl ⟨D,_,rfl,run_takeDeferred aw,v,ab,I,H',hw.putObj cu,he.trans (Ext.putObj bE cu),cW.sub b0,.inl ⟨v,_,rfl,hle.kU _ _ _ ae,fE⟩⟩⟩
theorem au.qI{f:FuncId}{xs:List aa}{bw:aa->List aj->Prop}{E:aa->List aj->Prop}(al:o.guard=none)(aN:jt c.n o.dst=true)(ak:gZ P (aX st.env) o f xs)(h:dC c.B P f xs st.H bw E)
  (next:∀y H',bw y H'->au c r P ops rest ⟨jN o.dst y st.env,H'⟩ Q)
  (oe:∀y H',E y H'->∀a w,Sat c ⟨st.env,H'⟩ a w->∀I v,Rel I w y v->Q (.panic [{v,recovered:=false}]) a w):au c r P ops (o::rest) st Q:=by
 intro a w s;refine wpListIn_plain al λK ca=>?_;obtain⟨I,hw,he,az,aC⟩:=s.mem;obtain⟨vs,ab,ae⟩:=ak.run I w a (aC.ops o);obtain⟨cA,ij⟩:=h;refine cM.qs (R:=λv w'=>∃aQ H' x,ck c.B aQ w'/\Ext c.B I w aQ w'/\br c.B aQ w' H'/\Rel aQ w' x v/\bw x H')
  (E:=λch w'=>∃aQ H' v x,ck c.B aQ w'/\Ext c.B I w aQ w'/\br c.B aQ w' H'/\ch= [{v,recovered:=false}]/\Rel aQ w' x v/\E x H') ak.rA (ae cA) ((ij I w vs hw az ab).mono λe w' aK=>?_) K Q ?_ ?_
 ·obtain⟨aQ,H',dc,cc,cW,aK⟩:=aK;rcases aK with⟨v,x,rfl,ag,fE⟩ | ⟨v,x,rfl,ag,e5⟩
  ·exact⟨aQ,H',x,dc,cc,cW,ag,fE⟩
  ·exact⟨aQ,H',v,x,dc,cc,cW,rfl,ag,e5⟩
 ·rintro v w' ⟨aQ,H',x,dc,cc,cW,ag,fE⟩;refine ca _ _ (next x H' fE _ _ ⟨jr,jq,aQ,dc,he.trans cc,cW,?_⟩);exact (aC.bQ cc.keeps).put rp ag
 ·rintro ch w' ⟨aQ,H',v,x,dc,cc,cW,rfl,ag,e5⟩;exact oe x H' e5 a w' ⟨s.ds,s.size,aQ,dc,he.trans cc,cW,aC.bQ cc.keeps⟩ aQ v ag
theorem Rel.M3{I:a8}{w:World}{k:Nat}{els:List (List aa)}{v:Value}(h:Rel I w (.aF k els) v):els.length<=maxLen:=by
 cases h with
 | eP=>simp
 | aF _ _ b off len cap ax ak hm he=>omega
theorem aq.M4{α:Type}{F:List α->List (List aa)}{enc:α->List aa}[hF:qy F enc]{xs:List α}{p:Code}{t k i:Nat}{cs:List aa}(ht:aX st.env t=some (.ptr cs))(av:cs[i]? =some (.aF k (F xs)))(h:xs.length<=9223372036854775807->aq c r P p st Q):aq c r P p st Q:=by
 intro a w s;refine h ?_ a w s;obtain⟨I,hw,he,az,aC⟩:=s.mem;have ai:=aC t _ ht;generalize a.tmps.getD t undef=u at ai;cases ai with
 | ptr _ b o ak=>
  obtain⟨v,_,_,ae⟩:=ak.get av;have:=ae.M3;rw[hF.h,List.length_map] at this;simpa [maxLen] using this
theorem aq.qL{α:Type}{F:List α->List (List aa)}{enc:α->List aa}[hF:qy F enc]{xs:List α}{p:Code}{t k i:Nat}{cs:List aa}(ht:aX st.env t=some (.agg cs))(av:cs[i]? =some (.aF k (F xs)))(h:xs.length<=9223372036854775807->aq c r P p st Q):aq c r P p st Q:=by
 intro a w s;refine h ?_ a w s;obtain⟨I,hw,he,az,aC⟩:=s.mem;have ai:=aC t _ ht;generalize a.tmps.getD t undef=u at ai;cases ai with
 | agg _ vs ak=>
  obtain⟨v,_,ae⟩:=ak.get av;have:=ae.M3;rw[hF.h,List.length_map] at this;simpa [maxLen] using this
theorem oZ.of{α:Type}{sM:FuncId}{bM cs:List aa}{enc:α->aa}{p:α->Bool}(h:∀x,ba P sM (bM++[enc x]++cs) (.b (p x))):oZ P (.fn (.func sM) bM cs) enc p:=λB x H=>e4.fn (h x H)
theorem oZ.hx{α:Type}{B:Nat}{g:aa}{enc:α->aa}{p:α->Bool}(h:oZ P g enc p)(L:List α):pW B P g enc L (λ_=>True) (λpre H=>H= []/\∀x∈pre,p x=true) (λpre H=>H= []/\∃q x,pre=q++[x]/\p x=false):=by
 rintro pre x H Hx _ _ ⟨rfl,aB⟩;refine e4.mono (h B x Hx) ?_ (λ_ _ h=>h);rintro _ _ ⟨rfl,rfl⟩;refine⟨p x,[],rfl,rfl,λaw=>⟨rfl,λy hy=>?_⟩,λaw=>⟨rfl,pre,x,rfl,aw⟩⟩;rcases List.mem_append.1 hy with hy | hy
 ·exact aB y hy
 ·simp at hy;subst hy;exact aw
theorem aL.Wo{c:Prop}[Decidable c]{x:aa}(aw:ha x=true)(ag:∀cs,x≠ .agg cs):aL x (if c then x else .one):=by
 split
 ·exact .refl _
 ·exact .one aw ag
def xY{α:Type}(J Jx:List α->List aj->Prop)(l:List α)(Hx:List aj)(y:aa)(H':List aj):Prop:=
 ∃H1,H'=H1++Hx/\((y= .i (-1)/\J l H1)\/∃pre x rest,l=pre++x::rest/\y= .i pre.length/\Jx (pre++[x]) H1)
def jf(P:Program)(ga:List aj)(f:FuncId)(xs:List aa)(y:aa):Prop:=∀H,(∀e∈ga,e∈H)->b1 P f xs H (λx H'=>x=y/\H'=H) (λ_ _=>False)
def vH(P:Program)(ga:List aj)(f:FuncId)(xs:List aa)(bw:aa->Prop):Prop:=∀H,(∀e∈ga,e∈H)->b1 P f xs H (λx H'=>bw x/\H'=H) (λ_ _=>False)
theorem jf.pure{P:Program}{f:FuncId}{xs:List aa}{y:aa}(h:jf P [] f xs y):ba P f xs y:=λH=>h H bj
theorem vH.pure{P:Program}{f:FuncId}{xs:List aa}{bw:aa->Prop}(h:vH P [] f xs bw):V0 P f xs bw:=λH=>h H bj
theorem oo.of{α:Type}{ga:List aj}{sM:FuncId}{bM cs:List aa}{enc:α->aa}{l:List α}{p:α->Bool}(h:∀x∈l,jf P ga sM (bM++[enc x]++cs) (.b (p x))):oo P ga (.fn (.func sM) bM cs) enc l p:=λx ag B H b0=>e4.fn (h x ag H b0)
theorem GN{α:Type}{sM:FuncId}{xs:List aa}{g:aa}{enc:α->aa}{ga:List aj}{p:α->Bool}{l:List α}(cA:nt P sM=true)(aw:∀(B:Nat) (F:List aj->Prop) (J Jx:List α->List aj->Prop),vA B P g enc l F J Jx->∀H Hx,F Hx->J [] H->dC B P sM xs (H++Hx) (xY J Jx l Hx) (λ_ _=>False))
  (aB:oo P ga g enc l p):vH P ga sM xs (λy=>∃n:Int,y= .i n/\decide (n>=0)=l.any p):=by
 intro Hx Wp;refine⟨cA,λB I w vs hw az dT=>((aw B _ _ _ aB.find [] Hx Wp ⟨rfl,bj⟩).2 I w vs hw az dT).mono λe w' aK=>aK.mono (λy H hy=>?_) λ_ _ h=>h⟩;obtain⟨H1,rfl,hy⟩:=hy;rcases hy with⟨rfl,rfl,fe⟩ | ⟨pre,x,rest,rfl,rfl,rfl,q,z,bd,hqq,an⟩
 ·refine⟨⟨-1,rfl,?_⟩,rfl⟩;rw[show decide ((-1:Int)>=0)=false from rfl];symm;rw[List.any_eq_false];intro x ag;simp[fe x ag]
 ·refine⟨⟨pre.length,rfl,?_⟩,rfl⟩;have ae:=List.append_inj' bd rfl;obtain⟨rfl,aD⟩:=ae;simp at aD;subst aD;rw[show decide (((pre.length:Nat):Int)>=0)=true from by simp];symm;rw[List.any_eq_true];exact⟨x,bj,an⟩
theorem au.isNil{t dR:TypeId}{x y:Operand}{k:Nat}{els:List (List aa)}{g cR:Bool}{u:aa}(cU:o.guard=none)(aN:jt c.n o.dst=true)(h:o.op= .binOp .eql t x y dR)(ht:qv P t=true)(ag:bf (aX st.env) x=some (g,u))(al:g=true)(hu:aL u (.aF k els))
  (hy:bf (aX st.env) y=some (cR,.val (.slice none 0 0))) (dX:cR=true) (next:∀b:Bool,(b=true->els= [])->au c r P ops rest ⟨jN o.dst (.b b) st.env,st.H⟩ Q):au c r P ops (o::rest) st Q:=by
 intro a w s;refine wpListIn_plain cU λK ca=>?_;obtain⟨I,hw,he,az,aC⟩:=s.mem;have ai:=hu _ _ _ ((aC.ops o).get cx ag al);have ab:=ct ((aC.ops o).get cx hy dX);obtain⟨cX,n,cap,GO,GA⟩:∃cX n cap,a.eval x= .slice cX n cap/\(cX=none->els= []):=by
  generalize a.eval x=v at ai;cases ai with
  | eP=>exact⟨_,_,_,rfl,λ_=>rfl⟩
  | aF=>exact⟨_,_,_,rfl,λe=>by cases e⟩
 refine cM.fN (R:=λv w'=>v= .bool cX.isNone/\w'=w) (E:=λ_ _=>False) cB (v:=.bool cX.isNone) (w':=w) ?_ ⟨rfl,rfl⟩ K Q ?_ (λ_ _ h=>h.elim)
 ·have eZ:=Gb ht;have:=run_equal_slice_nil (P:=P) w t _ cX n cap eZ;simp[execOp,h,GO,ab,eqGuard,binOp,this]
 rintro v w' ⟨rfl,rfl⟩;refine ca _ _ (next cX.isNone (λe=>GA (by simpa using e)) _ _ ⟨jr,jq,I,hw,he,az,?_⟩);exact aC.put rp (.val _)
end
section
variable{c:Ctx}{r:Option Nat}{P:Program}{ops:Array Oper}{l rest:List Oper}{o:Oper}{env:List (Nat×aa)}{H:List aj}{Q:Exit->Act->World->Prop}{x:aa}{d n:Nat}
theorem jg(aN:o.dst=some d)(hn:Nat.blt d n=true):jt n o.dst=true:=by rw[aN];exact hn
theorem au.bB(al:o.guard=none)(aN:o.dst=some d)(hn:Nat.blt d c.n=true)(h:af P H (aX env) o x)(next:au c r P ops rest ⟨(d,x)::env,H⟩ Q):au c r P ops (o::rest) ⟨env,H⟩ Q:=
 au.pop al (jg aN hn) h ih
theorem au.cb{j k:Nat}{want G:Bool}(al:o.guard=some (j,want))(aU:(ops[j]?).bind (·.dst)=some k)(su:Nat.blt k c.n=true)(c8:pR (aX env k) want=some G)
  (aN:o.dst=some d) (hn:Nat.blt d c.n=true) (h:G=true->af P H (aX env) o x) (next:au c r P ops rest ⟨(d,.opt G x)::env,H⟩ Q):au c r P ops (o::rest) ⟨env,H⟩ Q:=
 au.guarded al aU su c8 (jg aN hn) h ih
theorem au.cG{t:TypeId}{bY:List Value}[an:hr P t bY](cU:o.guard=none)(aN:o.dst=some d)(hn:Nat.blt d c.n=true)(h:o.op= .alloc t)
  (next:∀b,au c r P ops rest ⟨(d,.p b 0)::env,.aI b t (bY.map .val)::H⟩ Q):au c r P ops (o::rest) ⟨env,H⟩ Q:=au.mX cU (jg aN hn) h ih
theorem au.tW{t:TypeId}{z:Operand}{y:aa}{g:Bool}(cU:o.guard=none)(aN:o.dst=some d)(hn:Nat.blt d c.n=true)(h:o.op= .box t z)(an:bf (aX env) z=some (g,y))(al:g=true)(aw:ha y=true)
  (next:∀b,au c r P ops rest ⟨(d,.p b 0)::env,.aI b t (dq y)::H⟩ Q):au c r P ops (o::rest) ⟨env,H⟩ Q:=au.box cU (jg aN hn) h an al aw ih
theorem au.j9{t tb:TypeId}{p z:Operand}{y:aa}{l3 g:Bool}{b off n:Nat}{cs ds:List aa}{H':List aj}{agg:Bool}[ht:dy P t (agg,n)](cU:o.guard=none)(aN:o.dst=none)(h:o.op= .store t p z)
  (aB:bf (aX env) p=some (l3,.p b off)) (oU:l3=true) (an:bf (aX env) z=some (g,y)) (al:g=true) (aw:ha y=true) (ab:eG (dq y)=true)
  (hn:Nat.beq (dq y).length n=true) (hu:bu H (.aI b tb cs) (.aI b tb ds) H') (hfit:Nat.ble (off+n) cs.length=true) (hds:cs.take off++dq y++cs.drop (off+n)=ds)
  (next:au c r P ops rest ⟨env,H'⟩ Q):au c r P ops (o::rest) ⟨env,H⟩ Q:=au.zF cU (by rw[aN];rfl) h aB oU an al aw ab hn hu hfit hds ih
theorem au.GP{f:FuncId}{xs:List aa}{bw:aa->List aj->Prop}(al:o.guard=none)(aN:o.dst=some d)(hn:Nat.blt d c.n=true)(ak:gZ P (aX env) o f xs)(h:dC c.B P f xs H bw (λ_ _=>False))
  (next:∀y H',bw y H'->au c r P ops rest ⟨(d,y)::env,H'⟩ Q):au c r P ops (o::rest) ⟨env,H⟩ Q:=au.qI al (jg aN hn) ak h ih (λ_ _ h=>h.elim)
theorem au.o1{x:Operand}{args:Array Operand}{iI:Array TypeId}{jO:aa}{ys:List (Bool×aa)}{xs:List aa}{g:Bool}{bw:aa->List aj->Prop}(cU:o.guard=none)(aN:o.dst=some d)(hn:Nat.blt d c.n=true)
  (h:o.op= .call {callee:=.value x,args:=args,argTypes:=iI}) (ag:bf (aX env) x=some (g,jO)) (al:g=true) (bN:j2 (aX env) args.toList=some ys) (nw:ys.all (·.1)=true) (hle:bO (ys.map (·.2)) xs)
  (aC:e4 c.B P jO xs H bw (λ_ _=>False)) (next:∀y H',bw y H'->au c r P ops rest ⟨(d,y)::env,H'⟩ Q):au c r P ops (o::rest) ⟨env,H⟩ Q:=au.Gr cU (jg aN hn) h ag al bN nw hle aC ih (λ_ _ h=>h.elim)
theorem au.gu{s z:Operand}{t tx e k dA cJ:Nat}{els news:List (List aa)}{v:Value}{y:aa}{g1 g2:Bool}{H':Value->List aj}[cy:hv P t (e,k,dA)][je:ft P tx cJ](cU:o.guard=none)(aN:o.dst=some d)(hn:Nat.blt d c.n=true)
  (h:o.op= .call {callee:=.builtin .append,args:=#[s,z],argTypes:=#[t,tx]}) (aH:bf (aX env) s=some (g1,.as (.aF k els) v)) (dB:g1=true) (an:bf (aX env) z=some (g2,y)) (dY:g2=true) (hy:aL y (.aF k news))
  (ab:news.all eG=true) (hu:∀dr,bu H (.own e k v) (.own e k dr) (H' dr)) (aw:(els.length+news.length)*dA<=140737488355328) (gr:els.length+news.length<=9223372036854775807)
  (next:∀dr,au c r P ops rest ⟨(d,.as (.aF k (els++news)) dr)::env,H' dr⟩ Q):au c r P ops (o::rest) ⟨env,H⟩ Q:=au.Wg cU (jg aN hn) h aH dB an dY hy ab hu aw gr ih
theorem au.tX{t dR:TypeId}{x y:Operand}{k:Nat}{els:List (List aa)}{g cR:Bool}{u:aa}(cU:o.guard=none)(aN:o.dst=some d)(hn:Nat.blt d c.n=true)(h:o.op= .binOp .eql t x y dR)(ht:qv P t=true)(ag:bf (aX env) x=some (g,u))(al:g=true)(hu:aL u (.aF k els))
  (hy:bf (aX env) y=some (cR,.val (.slice none 0 0))) (dX:cR=true) (next:∀b:Bool,(b=true->els= [])->au c r P ops rest ⟨(d,.b b)::env,H⟩ Q):au c r P ops (o::rest) ⟨env,H⟩ Q:=au.isNil cU (jg aN hn) h ht ag al hu hy dX ih
theorem bU.bB{L:List Oper}{K:List (Nat×aa)->Prop}(al:o.guard=none)(aN:o.dst=some d)(hn:Nat.blt d n=true)(h:af P H (aX env) o x)(next:bU P H L n rest ((d,x)::env) K):bU P H L n (o::rest) env K:=
 bU.pop al (jg aN hn) h ih
theorem bU.cb{L:List Oper}{K:List (Nat×aa)->Prop}{j k:Nat}{want G:Bool}(al:o.guard=some (j,want))(aU:(L[j]?).bind (·.dst)=some k)(c8:pR (aX env k) want=some G)
  (aN:o.dst=some d) (hn:Nat.blt d n=true) (h:G=true->af P H (aX env) o x) (next:bU P H L n rest ((d,.opt G x)::env) K):bU P H L n (o::rest) env K:=
 bU.guarded al aU c8 (jg aN hn) h ih
theorem Sat.sN{c:Ctx}{st:dn}{a:Act}{w:World}{b t e k i:Nat}{cs ds:List aa}{H':List aj}(s:Sat c st a w)(hu:bu st.H (.aI b t cs) (.aI b t ds) H')(av:cs[i]? =some (.val (.slice none 0 0)))(hds:cs.set i (.as (.aF k []) (.slice none 0 0))=ds):
  Sat c ⟨st.env,.own e k (.slice none 0 0)::H'⟩ a w:=by
 obtain⟨I,hw,he,az,aC⟩:=s.mem;subst hds;have ao:fb I w I w:=⟨λ_ _ x=>x,λ_ _ _=>rfl⟩;obtain⟨bE,vs,aw,aK,cu⟩:=az.ok _ hu.mem;have nD:bZ I w (cs.set i (.as (.aF k []) (.slice none 0 0))) vs.toList:=by
  have key:∀(xs:List aa) (us:List Value) (i:Nat),bZ I w xs us->xs[i]? =some (.val (.slice none 0 0))->bZ I w (xs.set i (.as (.aF k []) (.slice none 0 0))) us:=by
   intro xs
   induction xs with
   | nil=>intro us i _ h;simp at h
   | cons x xs bm=>
    intro us i aK h;cases aK with
    | cons _ v _ zr ag ht=>
     cases i with
     | zero=>
      simp at h;subst h;cases ag;exact .cons _ _ _ _ (.as _ _ (.eP _ _ _)) ht
     | succ i=>exact .cons _ _ _ _ ag (bm zr i ht h3)
  exact key _ _ _ aK av
 have ae:br c.B I w H':=az.gH hu ao (λ_ _ _=>rfl) (λ_ _ x=>.inl x) ⟨bE,vs,aw,nD,cu⟩ (λ_ aw=>.inl aw);refine⟨s.ds,s.size,I,hw,he,⟨λf aP=>?_,List.pairwise_cons.2 ⟨λf aP b aw=>by simp[aj.eX,Value.ownBlock] at aw,ae.apart⟩⟩,aC⟩;rcases List.mem_cons.1 aP with rfl | aP
 ·exact⟨0,[],World.ownsRow_nil _ _ _ _,λg al=>by simp[Value.ownBlock] at al⟩
 ·exact ae.ok f aP
theorem aq.sN{p:Code}{b t:Nat}(e k i:Nat){cs ds:List aa}{H':List aj}(hu:bu H (.aI b t cs) (.aI b t ds) H')(av:cs[i]? =some (.val (.slice none 0 0)))(hds:cs.set i (.as (.aF k []) (.slice none 0 0))=ds)(h:aq c r P p ⟨env,.own e k (.slice none 0 0)::H'⟩ Q):aq c r P p ⟨env,H⟩ Q:=
 λa w s=>h a w (s.sN hu av hds)
theorem aR.iq{st:dn}{ex:Exit}(d e k:Nat)(aN:aX st.env d=some (.val (.slice none 0 0)))(h:aR c ⟨(d,.as (.aF k []) (.slice none 0 0))::st.env,.own e k (.slice none 0 0)::st.H⟩ ex Q):aR c st ex Q:=
 λa w s=>h a w (s.iq aN)
theorem au.C8{t e k dA:Nat}[cy:hv P t (e,k,dA)](cU:o.guard=none)(aN:o.dst=some d)(hn:Nat.blt d c.n=true)(h:o.op= .buildSlice t 0 #[])
  (next:∀v,au c r P ops rest ⟨(d,.as (.aF k []) v)::env,.own e k v::H⟩ Q):au c r P ops (o::rest) ⟨env,H⟩ Q:=by
 intro a w s;refine wpListIn_plain cU λK ca=>?_;obtain⟨I,hw,he,az,aC⟩:=s.mem;obtain⟨i,z,hu,av,an,ao,lx,jv,jw⟩:=qB cy.h;have dW:(Instr.buildSlice t 0 #[]).run P w= .ok (.slice (some ⟨w.heap.size,0,none⟩) 0 0) (w.alloc (.cells #[] e)):=by
  simp[Instr.buildSlice,run_underlying hu,sizeOf,typeInfo,av,Instr.fill,newRow,show Array.range 0= #[] from by decide+kernel]
 refine cM.fN (R:=λv w'=>v= .slice (some ⟨w.heap.size,0,none⟩) 0 0/\w'=w.alloc (.cells #[] e)) (E:=λ_ _=>False) cB (v:=.slice (some ⟨w.heap.size,0,none⟩) 0 0) (w':=w.alloc (.cells #[] e)) xJ ⟨rfl,rfl⟩ K Q ?_ (λ_ _ h=>h.elim);rintro v w' ⟨rfl,rfl⟩;have ab:=az.alloc hw (.cells #[] e);have fx:(w.alloc (.cells #[] e)).ownsRow c.B e k (.slice (some ⟨w.heap.size,0,none⟩) 0 0) 0 []:=⟨bj,.inr ⟨w.heap.size,0,#[],rfl,hw.base,heap_alloc_new w _,Nat.le_refl _,by simp[maxLen],bj,bj⟩⟩;refine ca _ _ (next (.slice (some ⟨w.heap.size,0,none⟩) 0 0) _ _ ⟨jr,jq,I,hw.alloc _,he.trans (kN hw _),⟨λf aP=>?_,List.pairwise_cons.2 ⟨λf aP b aw e=>?_,ab.apart⟩⟩,?_⟩)
 ·rcases List.mem_cons.1 aP with rfl | aP
  ·refine⟨0,[],fx,λg al o _ aA=>?_⟩;simp[Value.ownBlock] at al;subst al;exact absurd (hw.lt aA) (Nat.lt_irrefl _)
  ·exact ab.ok f aP
 ·simp[aj.eX,Value.ownBlock] at aw;subst aw;exact absurd (aj.nu (az.ok f aP) e).2 (Nat.lt_irrefl _)
 ·rw[aN];have:=(aC.bQ (mq hw (.cells #[] e))).put (dst:=some d) (x:=.as (.aF k []) (.slice (some ⟨w.heap.size,0,none⟩) 0 0)) (v:=.slice (some ⟨w.heap.size,0,none⟩) 0 0) oQ (.as _ _ (.eP _ _ _));exact this
theorem af.M5{α:Type}{F:List α->List (List aa)}{enc:α->List aa}{xs:List α}{ρ:Nat->Option aa}{t:TypeId}{x:Operand}{j4 av:Option Operand}{k:Nat}{l n:Nat}{cC gl gh:Bool}{kl kh:IntKind}[ht:ft P t k][hF:qy F enc](h:o.op= .slice t x j4 av none)(ag:bf ρ x=some (cC,.aF k (F xs)))(dG:cC=true)
  (oS:match j4 with | none=>l=0 | some y=>bf ρ y=some (gl,.val (.int kl (l:Int)))) (ly:gl=true) (mW:match av with | none=>n=xs.length | some y=>bf ρ y=some (gh,.val (.int kh (n:Int)))) (qw:gh=true)
  (ab:l<=n/\n<=xs.length):af P H ρ o (.aF k (F ((xs.take n).drop l))):=by
 rw[hF.h] at ag;have:=af.V3 (H:=H) (ht:=ht) h ag dG oS ly (n:=n) (by cases av <;> simpa using mW) qw pQ;rw[hF.h,List.map_drop,List.map_take];exact this
theorem af.GQ{α:Type}{F:List α->List (List aa)}{enc:α->List aa}{xs:List α}{ρ:Nat->Option aa}{t:TypeId}{x y:Operand}{k:Nat}{n:Nat}{cC gh:Bool}{kh:IntKind}[ht:ft P t k][hF:qy F enc](h:o.op= .slice t x none (some y) none)(ag:bf ρ x=some (cC,.aF k (F xs)))(dG:cC=true)
  (mW:bf ρ y=some (gh,.val (.int kh (n:Int)))) (qw:gh=true) (ab:n<=xs.length):af P H ρ o (.aF k (F (xs.take n))):=by
 have:=af.M5 (H:=H) (kl:=.i64) (gl:=true) (l:=0) (ht:=ht) (hF:=hF) h ag dG rfl rfl mW qw ⟨Nat.zero_le _,ab⟩;simpa using this
theorem af.M6{α:Type}{F:List α->List (List aa)}{enc:α->List aa}{xs:List α}{ρ:Nat->Option aa}{t:TypeId}{x y:Operand}{k:Nat}{n:Nat}{cC gh:Bool}{kh:IntKind}[ht:ft P t k][hF:qy F enc](h:o.op= .slice t x (some y) none none)(ag:bf ρ x=some (cC,.aF k (F xs)))(dG:cC=true)
  (mW:bf ρ y=some (gh,.val (.int kh (n:Int)))) (qw:gh=true) (ab:n<=xs.length):af P H ρ o (.aF k (F (xs.drop n))):=by
 have:=af.M5 (H:=H) (kh:=.i64) (gh:=true) (n:=xs.length) (ht:=ht) (hF:=hF) h ag dG mW qw rfl rfl ⟨ab,Nat.le_refl _⟩;simpa using this
end
def z8(l:List Oper)(k m:Nat)(x:Nat->Bool):Bool:=
 let ms:=h5 l []
 (l.zipIdx.all λp=>(og p.1).all λj=>Nat.blt j p.2) &&
 (l.zipIdx.all λp=>Nat.blt p.2 m || (List.range m).all λj=>Nat.blt j k || (ms.getD p.2 0).testBit j) &&
 ((l.take m).zipIdx.all λp=>Nat.blt p.2 k || ((l.take m).zipIdx.all λq=>match q.1.dst with
  | some d=>(Nat.beq p.2 q.2 || Nat.blt q.2 k || !(match p.1.dst with | some tY=>Nat.beq d tY | none=>false)) && (!((looks l p.1).any (Nat.beq d)) || x d || Nat.blt q.2 k || (Nat.blt q.2 p.2 && (ms.getD p.2 0).testBit q.2))
  | none=>true))
abbrev o2(l:List Oper)(k m:Nat):Bool:=z8 l k m λ_=>false
structure Wq(l:List Oper)(k m:Nat)(x:Nat->Bool):Prop where
 back:∀i o,l[i]? =some o->∀j∈og o,j<i
 tail:∀i,m<=i->i<l.length->∀j,k<=j->j<m->((h5 l []).getD i 0).testBit j=true
 apart:∀i m0 j nE d,k<=i->i<m->l[i]? =some m0->k<=j->j<m->l[j]? =some nE->nE.dst=some d->i≠j->m0.dst≠some d
 looked:∀i m0 j nE d,k<=i->i<m->l[i]? =some m0->k<=j->j<m->l[j]? =some nE->nE.dst=some d->d∈looks l m0->x d=true\/(j<i/\((h5 l []).getD i 0).testBit j=true)
theorem tZ{a b:Nat}(h:Nat.blt a b=true):a<b:=Nat.lt_of_succ_le (by simpa [Nat.blt] using h)
theorem M7{a b:Nat}(h:a<b):Nat.blt a b=true:=Nat.ble_eq_true_of_le h
theorem GR{l:List Oper}{k m:Nat}{x:Nat->Bool}(h:z8 l k m x=true):Wq l k m x:=by
 simp only[z8,Bool.and_eq_true,List.all_eq_true,Bool.or_eq_true] at h;obtain⟨⟨ab,ae⟩,aD⟩:=h;have key:∀i m0 j nE d,k<=i->i<m->l[i]? =some m0->k<=j->j<m->l[j]? =some nE->nE.dst=some d->(i=j\/m0.dst≠some d)/\(d∈looks l m0->x d=true\/(j<i/\((h5 l []).getD i 0).testBit j=true)):=by
  intro i m0 j nE d rG av Aa rH aU ou aN;have GS:∀x,k<=x->¬Nat.blt x k=true:=λx ag aw=>by have:=tZ aw;omega
  have at_:∀{i:Nat} {o:Oper},i<m->l[i]? =some o->(l.take m)[i]? =some o:=λav aA=>by rw[List.getElem?_take,if_pos av];exact aA
  have:=((aD _ (xS (at_ av Aa))).resolve_left (GS i rG)) _ (xS (at_ aU ou));simp only[aN,Bool.and_eq_true,Bool.or_eq_true,Bool.not_eq_true'] at this;obtain⟨bN,aw⟩:=this;refine⟨?_,λhm=>?_⟩
  ·rcases bN with (bN | bN) | bN
   ·exact .inl (Nat.eq_of_beq_eq_true bN)
   ·exact absurd bN (GS j rH)
   ·exact .inr λe=>by rw[e] at bN;simp at bN
  ·rcases aw with ((aw | aw) | aw) | aw
   ·rw[List.any_eq_false] at aw;exact absurd bj (aw d hm)
   ·exact .inl aw
   ·exact absurd aw (GS j rH)
   ·exact .inr ⟨tZ aw.1,aw.2⟩
 refine⟨λi o aA j aU=>tZ (ab _ (xS aA) j aU),λi av ax j rH aU=>?_,λi m0 j nE d rG av Aa rH aU ou aN bq=>((key i m0 j nE d rG av Aa rH aU ou aN).1).resolve_left bq,λi m0 j nE d rG av Aa rH aU ou aN hm=>(key i m0 j nE d rG av Aa rH aU ou aN).2 hm⟩;rcases ae _ (xS (List.getElem?_eq_getElem ax)) with h | h
 ·have:=tZ h;simp at this;omega
 ·rcases h j (by simpa using aU) with h | h
  ·have:=tZ h;omega
  ·exact h
theorem Wr:∀(jz:List Oper) (acc:List Nat),(h5 jz acc).length=acc.length+jz.length:=by
 intro jz;induction jz with
 | nil=>intro acc;simp[h5]
 | cons o jz bm=>intro acc;rw[h5,bm];simp;omega
theorem M8{F:Fence}{n:Nat}{P:Program}{o:Oper}{a:Act}{w:World}{K qM:Act->World->Prop}{Q vI:Exit->Act->World->Prop}(h:∀a w,K a w->qM a w)(aB:∀ch a w,Q (.panic ch) a w->vI (.panic ch) a w)(aA:∀a w,Q .outgrown a w->vI .outgrown a w)
  (az:o.wpIn F n P a w K Q):o.wpIn F n P a w qM vI:=by
 have ax:LetsOut Q->LetsOut vI:=λ⟨a,w,h⟩=>⟨a,w,aA a w h⟩;unfold Oper.wpIn at*;refine⟨az.1,?_⟩;have az:=az.2;generalize (o.semAt F.round a.eval).run P w=r at*;cases r with
 | ok x w'=>
  cases x <;> simp only[Oper.uponIn] at az ⊢ <;>
   first
    | exact h _ _ az
    | exact⟨az.1,CallsIn.mono az.2 (λe j1 he=>by cases e <;> first | exact h _ _ he | exact aB _ _ _ he | exact ax he)⟩
    | exact⟨az.1,RowsIn.mono az.2 (λ_ _ he=>h _ _ he)⟩
    | exact⟨az.1,RoundIn.mono az.2 (λe j1 he=>by cases e <;> first | exact h _ _ he | exact aB _ _ _ he | exact ax he)⟩
 | halt x w'=>cases x <;> simp only[Oper.uponIn] at az ⊢ <;> first | exact aB _ _ _ az | exact az
def GU(l:List Oper)(S:Nat->Bool):Prop:=∀i m0,l[i]? =some m0->S i=true->∀j,((h5 l []).getD i 0).testBit j=true->S j=true
def fu(S:Nat->Bool)(i:Nat):Nat->Bool:=λj=>if j=i then true else S j
theorem lB{S:Nat->Bool}{i j:Nat}(h:j≠i):fu S i j=S j:=if_neg h
theorem xZ{S:Nat->Bool}{i:Nat}:fu S i i=true:=if_pos rfl
abbrev Mem:=Nat->Act->a8->World->Prop
abbrev jP:=Nat->a8->World->List PanicEntry->World->Prop
abbrev p0:jP:=λ_ _ _ _ _=>False
def iU(X:jP)(P:Program)(C9 Da:Mem)(l:List Oper)(env:List (Nat×aa))(o:Oper)(y:aa):Prop:=
 ∀(B:Nat) (I:a8) (w:World) (r:Option Nat) (a:Act) (i:Nat) (Q:Exit->Act->World->Prop) (K:Act->World->Prop),l[i]? =some o->ck B I w->C9 B a I w->(∀t∈looks l o,∀z,aX env t=some z->Rel I w z (a.tmps.getD t undef))->(∀t∈looks l o,t<a.tmps.size)->(∀d,o.dst=some d->d<a.tmps.size)->
  (∀v w' aQ,ck B aQ w'->Ext B I w aQ w'->Da B (a.put o.dst v) aQ w'->Rel aQ w' y v->K (a.put o.dst v) w')->(∀ch w',X B I w ch w'->Q (.panic ch) a w')->wpOpIn (bb r) 0 P l.toArray Q i K a w
theorem iU.congr{X:jP}{P:Program}{iu H1:Mem}{ops:List Oper}{env fF:List (Nat×aa)}{o:Oper}{y:aa}(h:iU X P iu H1 ops env o y)(same:∀t∈looks ops o,aX env t=aX fF t):iU X P iu H1 ops fF o y:=
 λB I w r a i Q K av hw hm aC=>h B I w r a i Q K av hw hm λt ht z an=>aC t ht z (same t ht▸an)
theorem iU.of{X:jP}{P:Program}{C9 Da:Mem}{l:List Oper}{env:List (Nat×aa)}{o:Oper}{y:aa}(al:o.guard=none)(h:∀(B:Nat) (I:a8) (w:World) (r:Option Nat) (a:Act),ck B I w->C9 B a I w->gi I w (aX env) a o->(∀d,o.dst=some d->d<a.tmps.size)->
  cM P r o a w (λv w'=>∃aQ,ck B aQ w'/\Ext B I w aQ w'/\Da B (a.put o.dst v) aQ w'/\Rel aQ w' y v) (X B I w)):iU X P C9 Da l env o y:=λB I w r a i Q K av hw hm aC hn an ca je=>by
 have oh:gi I w (aX env) a o:=λx ag z an=>by
  cases x with
  | tmp t=>exact aC t (MJ (by simpa using ag)) z an
  | const v=>simp[kO] at an;subst an;exact F7 v
  | global g=>simp[kO] at an;subst an;exact .val _
  | func f=>simp[kO] at an;subst an;exact .fn _ _ _ _ _ .nil .nil
 unfold wpOpIn;simp only[show l.toArray[i]? =some o by simpa using av];rw[if_pos (by simp[Region.wanted,al])];exact h B I w r a hw hm oh an K Q (λv w' ⟨aQ,ab,ae,aD,aV⟩=>ca v w' aQ ab ae aD aV) je
theorem zC.e{X:jP}{P:Program}{H:List aj}{l:List Oper}{env:List (Nat×aa)}{o:Oper}{y:aa}(h:zC P H l env o y):iU X P (λB _ I w=>br B I w H) (λB _ I w=>br B I w H) l env o y:=λB I w r a i Q K av hw hm aC hn an ca je=>
 h.run (c:=⟨B,I,w,0,[]⟩) av hw hm aC hn ca
def GV(X:jP)(P:Program)(M:(Nat->Bool)->Mem)(l:List Oper)(i:Nat)(env:List (Nat×aa))(o:Oper)(x:aa):Prop:=
 ∀S,GU l S->(∀j,((h5 l []).getD i 0).testBit j=true->S j=true)->S i=false->iU X P (M S) (M (fu S i)) l env o x
def kA(X:jP)(P:Program)(M:(Nat->Bool)->Mem)(l:List Oper)(n:Nat):Nat->List Oper->List (Nat×aa)->(List (Nat×aa)->Prop)->Prop
 | _,[],env,K=>K env
 | i,o::rest,env,K=>∃x,GV X P M l i env o x/\jt n o.dst=true/\kA X P M l n (i+1) rest (jN o.dst x env) K
abbrev bp:=kA p0
theorem M9{X:jP}{P:Program}{M:(Nat->Bool)->Mem}{ops:List Oper}{n:Nat}:∀(k:Nat) (l:List Oper) (env:List (Nat×aa)) (K:List (Nat×aa)->Prop),kA X P M ops n k l env K->
  ∃xs:List aa,xs.length=l.length/\K (mu env l xs)/\∀i o x,l[i]? =some o->xs[i]? =some x->GV X P M ops (k+i) (mu env (l.take i) (xs.take i)) o x/\jt n o.dst=true
 | k,[],env,K,h=>⟨[],rfl,h,bj⟩
 | k,o::l,env,K,⟨x,ab,ae,aD⟩=>by
  obtain⟨xs,ax,ca,ag⟩:=M9 (k+1) l _ K aD;refine⟨x::xs,by simp[ax],ca,λi o' lb iJ ua=>?_⟩;cases i with
  | zero=>
   simp at iJ ua;subst iJ;subst ua;exact⟨ab,ae⟩
  | succ i=>
   simp at iJ ua;have:=ag i o' lb iJ ua;rw[show k+1+i=k+(i+1) by omega] at this;exact this
theorem kA.mono{X:jP}{P:Program}{M:(Nat->Bool)->Mem}{ops:List Oper}{n:Nat}{K qM:List (Nat×aa)->Prop}(ao:∀env,K env->qM env):∀{k:Nat} {l:List Oper} {env:List (Nat×aa)},kA X P M ops n k l env K->kA X P M ops n k l env qM
 | _,[],_,h=>ao _ h
 | _,_::_,_,⟨x,ab,ae,aD⟩=>⟨x,ab,ae,aD.mono ao⟩
theorem GW{dM:Array Bool}{n k:Nat}(aH:dM.size=n)(h:∀i,dM.getD i false=true↔i<k):dM.toList.countP (λb=>!b)=n - k:=by
 have e:dM.toList=List.replicate (min k n) true++List.replicate (n - k) false:=by
  refine List.ext_getElem (by simp[aH];omega) λi ab ae=>?_;have aD:i<dM.size:=by simpa using ab
  have aV:=h i;rw[show dM.getD i false=dM[i] by simp[Array.getD,aD]] at aV;rw[List.getElem_append,Array.getElem_toList];split
  ·rename_i bl;rw[aV.2 (by simp at bl;omega)];simp
  ·rename_i bl;cases cP:dM[i] with
   | false=>simp
   | true=>have:=aV.1 cP;simp at bl;omega
 rw[e];simp[List.countP_replicate]
theorem Ws{dM:Array Bool}{i fuel:Nat}(h:i<dM.size)(ab:dM.getD i false=false)(aP:dM.toList.countP (λb=>!b)<=fuel+1):(dM.setIfInBounds i true).toList.countP (λb=>!b)<=fuel:=by
 have ae:dM[i]=false:=by simpa [Array.getD,h] using ab
 rw[Array.toList_setIfInBounds,List.countP_set h3];simp[ae] at aP ⊢;omega
section
variable{c:Ctx}{r:Option Nat}{P:Program}{l:List Oper}{st:dn}{Q:Exit->Act->World->Prop}
def hc(c:Ctx)(r:Option Nat)(P:Program)(l:List Oper)(Q:Exit->Act->World->Prop)(k:Nat)(a:Act)(w:World):Prop:=
 ∀(fuel:Nat) (dM:Array Bool),dM.size=l.length->(∀i,dM.getD i false=true↔i<k)->l.length - k<=fuel->wpAnyIn (bb r) 0 P .any l.toArray Q fuel dM a w
def bk(c:Ctx)(r:Option Nat)(P:Program)(l:List Oper)(Q:Exit->Act->World->Prop)(k:Nat)(st:dn):Prop:=∀a w,Sat c st a w->hc c r P l Q k a w
theorem aq.bL{id:Nat}(hm:P.follows .mixedOrders=true)(h:bk c r P l Q 0 st):aq c r P (.region id l.toArray true) st Q:=by
 intro a w s;refine wpIn_region_any hm ?_;show wpAnyIn (bb r) 0 P .any l.toArray Q l.toArray.size (Array.replicate l.toArray.size false) a w.drew;refine h a w.drew ⟨s.ds,s.size,?_⟩ _ _ bj (λi=>by simp[Array.getD]) bj;obtain⟨I,hw,he,az,aC⟩:=s.mem;exact⟨I,hw.drew,he.drew,az.drew,aC.bQ Wa⟩
theorem aR.bL{k:Nat}(h:bk c r P l Q k st):aR c st .normal (Exit.then (hc c r P l Q k) Q):=h
theorem hc.done{a:Act}{w:World}(h:Q .normal a w):hc c r P l Q l.length a w:=by
 intro fuel dM eH l5 ub;refine wpAnyIn_done (List.eq_nil_iff_forall_not_mem.2 λi av=>?_) h fuel;obtain⟨ab,o,ae,_⟩:=mem_ready.1 av;have cO:i<l.length:=by simpa using (Array.getElem?_eq_some_iff.1 ae).1
 rw[Gh ad,(l5 i).2 cO] at ab;cases ab
theorem bk.done{k:Nat}(ao:k=l.length)(h:aR c st .normal Q):bk c r P l Q k st:=λa w s=>by subst ao;exact hc.done (h a w s)
theorem hc.any{k m:Nat}{J:(Nat->Bool)->Act->World->Prop}(back:∀i o,l[i]? =some o->∀j∈og o,j<i)(tail:∀i,m<=i->i<l.length->∀j,k<=j->j<m->((h5 l []).getD i 0).testBit j=true)(gv:k<=m)(en:m<=l.length)
  (step:∀S i o a w,l[i]? =some o->k<=i->i<m->GU l S->(∀j,((h5 l []).getD i 0).testBit j=true->S j=true)->S i=false->J S a w->wpOpIn (bb r) 0 P l.toArray Q i (J (fu S i)) a w)
  (fin:∀a w,J (λi=>Nat.blt i m) a w->hc c r P l Q m a w) {a:Act} {w:World} (h:J (λi=>Nat.blt i k) a w):hc c r P l Q k a w:=by
 have blt:∀{k:Nat} {dM:Array Bool},(∀i,dM.getD i false=true↔i<k)->(λs=>dM.getD s false)=λi=>Nat.blt i k:=λl5=>funext λi=>by
  rw[Bool.eq_iff_iff,l5];exact⟨λh=>Nat.ble_eq_true_of_le h,λh=>Nat.lt_of_succ_le (by simpa [Nat.blt] using h)⟩
 have mask:∀{dM:Array Bool} {i:Nat} {o:Oper},Gg l (λi=>dM.getD i false=true)->l[i]? =some o->(∀k∈og o,dM.getD k false=true)->∀j,((h5 l []).getD i 0).testBit j=true->dM.getD j false=true:=λ{dM i o} dp aA aN=>by
  have:i<(h5 l []).length:=by rw[Wr];simpa using (List.getElem?_eq_some_iff.1 aA).1
  exact MF l _ dp l [] bj bj bj i _ o (by simp[List.getD,this]) aA aN
 have main:∀(fuel:Nat) (dM:Array Bool) (a:Act) (w:World),dM.size=l.length->dM.toList.countP (λb=>!b)<=fuel->Gg l (λi=>dM.getD i false=true)->
   (∀i,i<k->dM.getD i false=true)->(∀i,dM.getD i false=true->i<m)->J (λs=>dM.getD s false) a w->wpAnyIn (bb r) 0 P .any l.toArray Q fuel dM a w:=by
  intro fuel
  induction fuel with
  | zero=>
   intro dM a w eH ub dp iR Db az;have l5:∀i,dM.getD i false=true↔i<m:=λi=>⟨Db i,λav=>by
    have:=List.countP_eq_zero.1 (Nat.le_zero.1 ub) (dM[i]'ad) bj;simpa [Array.getD,show i<dM.size by omega] using this⟩
   rw[blt l5] at az;exact fin a w az 0 dM eH l5 (by rw[<-GW eH l5];exact ub)
  | succ fuel bm=>
   intro dM a w eH ub dp iR Db az;by_cases fZ:∀i,i<m->dM.getD i false=true
   ·have l5:∀i,dM.getD i false=true↔i<m:=λi=>⟨Db i,fZ i⟩;rw[blt l5] at az;exact fin a w az _ dM eH l5 (by rw[<-GW eH l5];exact ub)
   obtain⟨i0,Wt,xP,Wu⟩:∃i,i<m/\dM.getD i false=false/\∀j,j<i->dM.getD j false=true:=by
    obtain⟨i,av⟩:=Classical.not_forall.1 fZ
    induction i using Nat.strongRecOn with
    | _ i Wv=>
     by_cases ag:∃j,j<i/\dM.getD j false=false
     ·obtain⟨j,aU,eB⟩:=ag;exact Wv j aU λh=>by rw[h (by have:=Classical.not_imp.1 av;omega)] at eB;cases eB
     ·obtain⟨ab,ae⟩:=Classical.not_imp.1 av;exact⟨i,ab,xM,λj aU=>by simpa using λh=>ag ⟨j,aU,h⟩⟩
   have Ww:k<=i0:=Nat.le_of_not_lt λh=>by rw[iR i0 h] at xP;cases xP
   refine⟨λai=>?_,λi av=>?_⟩
   ·have:i0∈Region.ready .any l.toArray dM:=by
     rw[mem_ready];refine⟨by rw[Gh ad];exact xP,l[i0],bj,λe he aw=>Wu _ (back i0 _ (List.getElem?_eq_getElem ad) e.on ?_)⟩;simp only[og,List.mem_filterMap];exact⟨e,by simpa using he,by simp[aw]⟩
    rw[ai] at this;cases this
   ·obtain⟨ab,o,ae,aD⟩:=mem_ready.1 av;have aA:l[i]? =some o:=by simpa using ae
    have cO:i<l.length:=(List.getElem?_eq_some_iff.1 aA).1;rw[Gh ad] at ab;have Na:∀k∈og o,dM.getD k false=true:=by
     intro k ao;simp only[og,List.mem_filterMap] at ao;obtain⟨e,he,aw⟩:=ao;split at aw
     ·rename_i Wx;simp at aw;subst aw;exact aD e (by simpa using he) Wx
     ·cases aw
    have Ab:=mask dp aA Na;have GX:k<=i:=Nat.le_of_not_lt λh=>by rw[iR i h] at ab;cases ab
    have GY:i<m:=Nat.lt_of_not_le λh=>by
     have:=Ab i0 (tail i h cO i0 Ww Wt);rw[xP] at this;cases this
    have h4:∀j,(dM.setIfInBounds i true).getD j false=if i=j then true else dM.getD j false:=λj=>sB _ _ _ ad
    have Wy:(λs=>(dM.setIfInBounds i true).getD s false)=fu (λs=>dM.getD s false) i:=funext λj=>by
     rw[h4];unfold fu;by_cases e:i=j
     ·rw[if_pos e,if_pos e.symm]
     ·rw[if_neg e,if_neg λh=>e h.symm]
    refine wpOpIn_mono (λfY w' aU=>bm (dM.setIfInBounds i true) fY w' (by simp[eH]) (Ws ad ab ub) ?_ ?_ ?_ (by rw[Wy];exact aU)) (step _ i o a w aA GX GY (λs os Nb aH j aU=>mask dp Nb (λj aU=>dp s _ aH Nb j aU) j aU) Ab ab az)
    ·intro j nE aU ou cJ ao;rw[h4] at aU ⊢;split
     ·rfl
     ·split at aU
      ·rename_i e;subst e;rw[aA] at ou;cases ou;exact Na cJ ao
      ·exact dp j nE aU ou cJ ao
    ·intro j aU;rw[h4];split
     ·rfl
     ·exact iR j aU
    ·intro j aU;rw[h4] at aU;split at aU
     ·omega
     ·exact Db j aU
 intro fuel dM eH l5 ub;exact main fuel dM a w eH (by rw[GW eH l5];exact ub) (λi o av aA j aU=>(l5 j).2 (by have:=back i o aA j aU;have:=(l5 i).1 av;omega)) (λi av=>(l5 i).2 av) (λi av=>by have:=(l5 i).1 av;omega) (by rw[blt l5];exact h)
theorem hc.one{k:Nat}{o:Oper}(back:∀i o,l[i]? =some o->∀j∈og o,j<i)(tail:∀i,k<i->i<l.length->((h5 l []).getD i 0).testBit k=true)(aA:l[k]? =some o){a:Act}{w:World}(h:wpListIn (bb r) 0 P l.toArray (Exit.then (hc c r P l Q (k+1)) Q) [o] a w):hc c r P l Q k a w:=by
 have fj:Nat.blt k k=false:=by rw[Bool.eq_false_iff];intro h;have:=Nat.lt_of_succ_le (by simpa [Nat.blt] using h);omega
 have Wz:Nat.blt k (k+1)=true:=Nat.ble_eq_true_of_le (Nat.le_refl _);refine hc.any (J:=λS a w=>if S k then hc c r P l Q (k+1) a w else wpListIn (bb r) 0 P l.toArray (Exit.then (hc c r P l Q (k+1)) Q) [o] a w) back (λi ab ae j aD aV=>by obtain rfl:j=k:=ad;exact tail i ab ae) (Nat.le_succ k) (List.getElem?_eq_some_iff.1 aA).1 (λS i o' a w iJ ab ae _ _ h9 aU=>?_) (λa w aU=>by rwa [if_pos Wz] at aU) (by rw[if_neg (by show ¬Nat.blt k k=true;rw[fj];simp)];exact h);obtain rfl:i=k:=by omega
 rw[aA] at iJ;cases iJ;rw[if_neg (by rw[h9];simp)] at aU;have e:(λa w=>if fu S i i then hc c r P l Q (i+1) a w else wpListIn (bb r) 0 P l.toArray (Exit.then (hc c r P l Q (i+1)) Q) [o] a w)=hc c r P l Q (i+1):=by funext a w;rw[if_pos xZ]
 unfold wpOpIn;simp only[show l.toArray[i]? =some o by simpa using aA,e];unfold wpListIn at aU;split at aU
 ·rename_i nv;rw[if_pos nv];exact M8 (λ_ _ h=>h) (λ_ _ _ h=>h) (λ_ _ h=>h) aU
 ·rename_i nv;rw[if_neg nv,if_pos xZ];exact aU
theorem bk.one{k:Nat}{o:Oper}(dQ:o2 l k (k+1)=true)(aA:l[k]? =some o)(h:au c r P l.toArray [o] st (Exit.then (hc c r P l Q (k+1)) Q)):bk c r P l Q k st:=λa w s=>hc.one (GR dQ).back (λi ab ae=>(GR dQ).tail i ab ae k (Nat.le_refl _) (Nat.lt_succ_self _)) aA (h a w s)
def GZ(l:List Oper)(k:Nat):Bool:=
 let ms:=h5 l []
 (l.zipIdx.all λp=>(og p.1).all λj=>Nat.blt j p.2) &&
 (l.zipIdx.all λp=>Nat.blt p.2 k || (List.range p.2).all λj=>Nat.blt j k || (ms.getD p.2 0).testBit j)
theorem bk.tail{k:Nat}(dQ:GZ l k=true)(dP:k<=l.length)(h:au c r P l.toArray (l.drop k) st Q):bk c r P l Q k st:=by
 simp only[GZ,Bool.and_eq_true,List.all_eq_true,Bool.or_eq_true] at dQ;obtain⟨ab,ae⟩:=dQ;have lt:∀{a b:Nat},Nat.blt a b=true->a<b:=λh=>Nat.lt_of_succ_le (by simpa [Nat.blt] using h);have key:∀(q p:Nat) (a:Act) (w:World),k<=p->p+q=l.length->wpListIn (bb r) 0 P l.toArray Q (l.drop p) a w->hc c r P l Q p a w:=by
  intro q
  induction q with
  | zero=>
   intro p a w aB bd h;obtain rfl:p=l.length:=by omega
   rw[List.drop_length] at h;exact hc.done h
  | succ q bm=>
   intro p a w aB bd h;have hL:p<l.length:=by omega
   rw[List.drop_eq_getElem_cons hL] at h;refine hc.one (λi o aA j aU=>lt (ab _ (xS aA) j aU)) (λi av ax=>?_) (List.getElem?_eq_getElem hL) ?_
   ·rcases ae _ (xS (List.getElem?_eq_getElem ax)) with aD | aD
    ·have:=lt aD;simp at this;omega
    ·rcases aD p rr with aV | aV
     ·have:=lt aV;omega
     ·exact aV
   ·have go:∀a w,wpListIn (bb r) 0 P l.toArray Q (l.drop (p+1)) a w->wpListIn (bb r) 0 P l.toArray (Exit.then (hc c r P l Q (p+1)) Q) [] a w:=λa w h=>bm (p+1) a w ad ad h;unfold wpListIn at h ⊢;split at h
    ·rename_i nv;rw[if_pos nv];exact M8 go (λ_ _ _ h=>h) (λ_ _ h=>h) h
    ·rename_i nv;rw[if_neg nv];exact⟨h.1,go _ _ h.2⟩
 exact λa w s=>key (l.length - k) k a w (Nat.le_refl _) ad (h a w s)
theorem hc.G0{X:jP}{k m:Nat}{x:Nat->Bool}{M:(Nat->Bool)->Mem}{env:List (Nat×aa)}(ag:∀t,x t=true->aX env t=some .any)(dQ:z8 l k m x=true)(gv:k<=m)(en:m<=l.length)(iR:(l.all λo=>(looks l o).all λt=>Nat.blt t c.n)=true)
  (oe:∀(I:a8) (w:World) (a:Act) ch w',a.defers=c.ds->a.tmps.size=c.n->ck c.B I w->Ext c.B c.cl c.aO I w->X c.B I w ch w'->Q (.panic ch) a w')
  (h:kA X P M l c.n k ((l.drop k).take (m - k)) env λenv=>(∀t,x t=true->aX env t=some .any)/\∀a w I,a.defers=c.ds->a.tmps.size=c.n->ck c.B I w->Ext c.B c.cl c.aO I w->M (λi=>Nat.blt i m) c.B a I w->fs I w (aX env) a->hc c r P l Q m a w)
  {a:Act} {w:World} {I:a8} (s1:a.defers=c.ds) (s2:a.tmps.size=c.n) (sJ:ck c.B I w) (zW:Ext c.B c.cl c.aO I w) (WA:M (λi=>Nat.blt i k) c.B a I w) (WB:fs I w (aX env) a):hc c r P l Q k a w:=by
 have ok:=GR dQ;obtain⟨xs,my,⟨G1,Nc⟩,WC⟩:=M9 _ _ _ _ h;have mz:xs.length=m - k:=by rw[my,List.length_take,List.length_drop];omega
 generalize h9:(l.drop k).take (m - k)=S at*;have x0:∀(i:Nat) (o:Oper),S[i]? =some o↔i<m - k/\l[k+i]? =some o:=by
  intro i o;rw[<-h9,List.getElem?_take];by_cases av:i<m - k
  ·rw[if_pos av,List.getElem?_drop];simp[av]
  ·rw[if_neg av];simp[av]
 generalize hF:mu env S xs=envF at Nc G1;have WD:∀(i:Nat) (o:Oper),l[i]? =some o->∀t∈looks l o,t<c.n:=by
  intro i o aA t ht;simp only[List.all_eq_true] at iR;have:=iR o (List.mem_of_getElem? aA) t ht;exact Nat.lt_of_succ_le (by simpa [Nat.blt] using this)
 have WE:∀(i:Nat) (o:Oper) (x:aa) (t:Nat),i<m - k->l[k+i]? =some o->xs[i]? =some x->o.dst=some t->aX envF t=some x:=by
  intro i o x t av aA ag aN;rw[<-hF];refine MH S xs env i t o x ((x0 i o).2 ⟨av,aA⟩) ag aN (λj o' iJ e=>?_);obtain⟨aU,ou⟩:=(x0 _ _).1 iJ;rcases Nat.decEq j i with bq | he
  ·exact absurd aN (ok.apart (k+i) o (k+j) o' t ad ad aA ad ad ou e ad)
  ·exact he
 have fin:∀(i:Nat) (o:Oper) (y:aa),i<m - k->l[k+i]? =some o->xs[i]? =some y->GV X P M l (k+i) envF o y/\jt c.n o.dst=true:=by
  intro i o y av aA hy;obtain⟨ab,ae⟩:=WC i o y ((x0 i o).2 ⟨av,aA⟩) hy;refine⟨λT WG WH WI=>(ab T WG WH WI).congr λt ht=>?_,ae⟩;have sp:=MI i S xs env my;by_cases hw:∃j o',S[i+j]? =some o'/\o'.dst=some t
  ·obtain⟨j,o',iJ,e⟩:=hw;obtain⟨aU,ou⟩:=(x0 _ _).1 iJ;rcases ok.looked (k+i) o (k+(i+j)) o' t ad ad aA ad ad ou e ht with aD | aD
   ·rw[G1 t aD,zD _ _ _ _ λtR c7 o3 aW=>?_]
    ·exact ag t aD
    ·have kP:tR<i:=by
      have:=(List.getElem?_eq_some_iff.1 o3).1;rw[List.length_take] at this;omega
     rw[List.getElem?_take,if_pos kP] at o3;obtain⟨aV,bl⟩:=(x0 _ _).1 o3;exact ok.apart (k+tR) c7 (k+(i+j)) o' t ad ad bl ad ad ou e ad aW
   ·omega
  ·rw[<-hF,sp];refine (zD _ _ _ _ λj o' iJ e=>hw ⟨j,o',by rw[List.getElem?_drop] at iJ;exact iJ,e⟩).symm
 refine hc.any (J:=λS a w=>a.defers=c.ds/\a.tmps.size=c.n/\∃I,ck c.B I w/\Ext c.B c.cl c.aO I w/\M S c.B a I w/\∀t y,aX envF t=some y->(∀(i:Nat) (o:Oper),i<m - k->l[k+i]? =some o->o.dst=some t->S (k+i)=true)->Rel I w y (a.tmps.getD t undef)) ok.back ok.tail gv en ?_ ?_ ?_
 ·rintro S i o a w aA rG GY m1 Ab mA ⟨aN,x1,I,hw,he,az,aC⟩;obtain⟨q,rfl⟩:∃q,i=k+q:=⟨i - k,ad⟩;have bd:q<m - k:=by omega
  have Ac:xs[q]? =some xs[q]:=List.getElem?_eq_getElem ad;obtain⟨cy,Nd⟩:=fin q o _ bd aA Ac;have Nf:∀d,o.dst=some d->d<a.tmps.size:=λd aN=>by rw[x1];rw[aN] at Nd;exact Nat.lt_of_succ_le (by simpa [jt,Nat.blt] using Nd)
  refine cy S m1 Ab mA c.B I w r a _ _ _ aA hw az (λt ht z an=>by
   cases x2:x t with
   | true=>rw[G1 t x2] at an;cases an;exact .any _
   | false=>exact aC t z an λtR o' kP iJ Dc=>Ab _ ((ok.looked (k+q) o (k+tR) o' t rG GY aA ad ad iJ Dc ht).resolve_left (by rw[x2];simp)).2) (λt ht=>by rw[x1];exact WD _ o aA t ht) Nf ?_ (λch w' ag=>oe I w a ch w' aN x1 hw he ag)
  intro v w' aQ dc cc cW ag;refine⟨by rw[put_defers];exact aN,by rw[FT];exact x1,aQ,dc,he.trans cc,cW,λt x x2 G2=>?_⟩;by_cases Ad:o.dst=some t
  ·rw[WE q o _ t bd aA Ac Ad] at x2;cases x2;rw[Ad,tN (Nf t Ad)];exact ag
  ·have hold:Rel I w x (a.tmps.getD t undef):=aC t x x2 λtR o' kP iJ Dc=>by
    have:=G2 tR o' kP iJ Dc;rwa [lB λe=>by
     obtain rfl:tR=q:=by omega
     rw[aA] at iJ;cases iJ;exact Ad Dc] at this
   rw[show (a.put o.dst v).tmps.getD t undef=a.tmps.getD t undef by
    cases hod:o.dst with
    | none=>rfl
    | some d=>exact oR (λe=>Ad (by rw[hod,e]))]
   exact hold.bQ cc.keeps
 ·rintro a w ⟨aN,x1,I,hw,he,az,aC⟩;exact Nc a w I aN x1 hw he az λt x ag=>aC t x ag λi _ av _ _=>Nat.ble_eq_true_of_le ad
 ·refine⟨s1,s2,I,sJ,zW,WA,λt y hy G2=>WB t y ?_⟩;rw[<-hy, <-hF];refine (zD _ _ _ _ λi o aA e=>?_).symm;obtain⟨ab,ae⟩:=(x0 i o).1 aA;have:=tZ (G2 i o ab ae e);omega
theorem bk.Ng{X:jP}{k m:Nat}{M:(Nat->Bool)->Mem}(dQ:o2 l k m=true)(gv:k<=m)(en:m<=l.length)(iR:(l.all λo=>(looks l o).all λt=>Nat.blt t c.n)=true)(b0:∀B a I w,br B I w st.H->M (λi=>Nat.blt i k) B a I w)
  (oe:∀(I:a8) (w:World) (a:Act) ch w',a.defers=c.ds->a.tmps.size=c.n->ck c.B I w->Ext c.B c.cl c.aO I w->X c.B I w ch w'->Q (.panic ch) a w')
  (h:kA X P M l c.n k ((l.drop k).take (m - k)) st.env λenv=>∀a w I,a.defers=c.ds->a.tmps.size=c.n->ck c.B I w->Ext c.B c.cl c.aO I w->M (λi=>Nat.blt i m) c.B a I w->fs I w (aX env) a->hc c r P l Q m a w):bk c r P l Q k st:=λa w s=>by
 obtain⟨I,hw,he,az,aC⟩:=s.mem;exact hc.G0 (x:=λ_=>false) (λ_ h=>by cases h) dQ gv en iR oe (kA.mono (λenv h=>⟨λ_ h=>(by cases h),h⟩) h) s.ds s.size hw he (b0 _ _ _ _ az) aC
theorem bk.Ae{k m:Nat}{M:(Nat->Bool)->Mem}(dQ:o2 l k m=true)(gv:k<=m)(en:m<=l.length)(iR:(l.all λo=>(looks l o).all λt=>Nat.blt t c.n)=true)(b0:∀B a I w,br B I w st.H->M (λi=>Nat.blt i k) B a I w)
  (h:bp P M l c.n k ((l.drop k).take (m - k)) st.env λenv=>∀a w I,a.defers=c.ds->a.tmps.size=c.n->ck c.B I w->Ext c.B c.cl c.aO I w->M (λi=>Nat.blt i m) c.B a I w->fs I w (aX env) a->hc c r P l Q m a w):bk c r P l Q k st:=
 bk.Ng dQ gv en iR b0 (λ_ _ _ _ _ _ _ _ _ h=>h.elim) h
theorem bU.u{X:jP}{H:List aj}{ops:List Oper}{n:Nat}:∀{l:List Oper} {i:Nat} {env:List (Nat×aa)} {K:List (Nat×aa)->Prop},bU P H ops n l env K->kA X P (λ_ B _ I w=>br B I w H) ops n i l env K
 | [],_,_,_,h=>h
 | _::_,_,_,_,⟨x,ab,ae,aD⟩=>⟨x,λ_ _ _ _=>ab.e,ae,aD.u⟩
theorem bk.any{k m:Nat}(dQ:o2 l k m=true)(gv:k<=m)(en:m<=l.length)(iR:(l.all λo=>(looks l o).all λt=>Nat.blt t c.n)=true)
  (h:bU P st.H l c.n ((l.drop k).take (m - k)) st.env λenv=>bk c r P l Q m ⟨env,st.H⟩):bk c r P l Q k st:=by
 exact bk.Ae (M:=λ_ B _ I w=>br B I w st.H) dQ gv en iR (λ_ _ _ _ h=>h) (kA.mono (λenv aN a w I dg dh ea gP jA kV=>aN a w ⟨dg,dh,I,ea,gP,jA,kV⟩) h.u)
theorem bk.b7{env:List (Nat×aa)}{H:List aj}(k m n:Nat)(hn:c.n=n)(dQ:o2 l k m=true)(gv:Nat.ble k m=true)(en:Nat.ble m l.length=true)(iR:(l.all λo=>(looks l o).all λt=>Nat.blt t n)=true)
  (h:bU P H l c.n ((l.drop k).take (m - k)) env λenv=>bk c r P l Q m ⟨env,H⟩):bk c r P l Q k ⟨env,H⟩:=
 bk.any dQ (Nat.le_of_ble_eq_true gv) (Nat.le_of_ble_eq_true en) sq h
theorem bk.WJ(k:Nat)(dQ:GZ l k=true)(dP:Nat.ble k l.length=true)(h:au c r P l.toArray (l.drop k) st Q):bk c r P l Q k st:=bk.tail dQ (Nat.le_of_ble_eq_true dP) h
end
section
variable{c:Ctx}{r:Option Nat}{P:Program}{ops:Array Oper}{l rest:List Oper}{o:Oper}{env:List (Nat×aa)}{H:List aj}{Q:Exit->Act->World->Prop}{x:aa}{d n:Nat}
def Dd(B:Nat)(I:a8)(w:World)(bw:aa->List aj->Prop):Value->World->Prop:=λv w'=>∃aQ H' x,ck B aQ w'/\Ext B I w aQ w'/\br B aQ w' H'/\Rel aQ w' x v/\bw x H'
theorem x3{a:Act}{w:World}{I:a8}{f:FuncId}{xs:List aa}{bw:aa->List aj->Prop}{ρ:Nat->Option aa}(ak:gZ P ρ o f xs)(h:dC c.B P f xs H bw (λ_ _=>False))(hw:ck c.B I w)(az:br c.B I w H)(aA:gi I w ρ a o):
  cM P r o a w (Dd c.B I w bw) (λ_ _=>False):=by
 obtain⟨vs,ab,ae⟩:=ak.run I w a aA;obtain⟨cA,ij⟩:=h;refine cM.qs ak.rA (ae cA) ((ij I w vs hw az ab).mono λe w' aK=>?_);obtain⟨aQ,H',dc,cc,cW,aK⟩:=aK;rcases aK with⟨v,x,rfl,ag,fE⟩ | ⟨v,x,rfl,ag,e5⟩
 ·exact⟨aQ,H',x,dc,cc,cW,ag,fE⟩
 ·exact e5.elim
theorem WK{a:Act}{w:World}{I:a8}{y:Operand}{args:Array Operand}{iI:Array TypeId}{jO:aa}{ys:List (Bool×aa)}{xs:List aa}{g:Bool}{bw:aa->List aj->Prop}{ρ:Nat->Option aa}(h:o.op= .call {callee:=.value y,args:=args,argTypes:=iI})
  (ag:bf ρ y=some (g,jO)) (al:g=true) (bN:j2 ρ args.toList=some ys) (nw:ys.all (·.1)=true) (hle:bO (ys.map (·.2)) xs)
  (aC:e4 c.B P jO xs H bw (λ_ _=>False)) (hw:ck c.B I w) (az:br c.B I w H) (aA:gi I w ρ a o):cM P r o a w (Dd c.B I w bw) (λ_ _=>False):=by
 have ab:=aA.get ig ag al;have ae:=hle.rel (tM aA args.toList ys (λz an=>by simp[h,Op.operands,Call.operands];right;simpa using an) bN (by simpa using nw));have conv:∀e w',fD c.B I w bw (λ_ _=>False) e w'->match e with
   | .returned v=>Dd c.B I w bw v w'
   | .panicked ch=>False
   | .outgrown=>False:=by
  rintro e w' ⟨aQ,H',dc,cc,cW,⟨v,x,rfl,ag,fE⟩ | ⟨v,x,rfl,ag,e5⟩⟩
  ·exact⟨aQ,H',x,dc,cc,cW,ag,fE⟩
  ·exact e5
 have aW:(args.toList.map a.eval).toArray=args.map a.eval:=by apply Array.ext';simp
 rcases aC I w _ _ hw az ab ae with⟨f,fq,eQ,a6,cA,ij⟩ | ⟨l,a6,fn,tmps,assign,body,hy,hR⟩
 ·rw[aW] at ij;exact cM.qs cB (Gf h cA a w a6) (ij.mono conv)
 ·rw[aW] at hy;exact cM.Mv cB (MZ h a w a6 hy) (hR.mono conv)
theorem au.Nh{j k:Nat}{want G:Bool}{bw:aa->List aj->Prop}(al:o.guard=some (j,want))(aU:(ops[j]?).bind (·.dst)=some k)(su:Nat.blt k c.n=true)(c8:pR (aX env k) want=some G)
  (aN:o.dst=some d) (hn:Nat.blt d c.n=true) (h:G=true->∀(a:Act) (w:World) (I:a8),ck c.B I w->br c.B I w H->gi I w (aX env) a o->cM P r o a w (Dd c.B I w bw) (λ_ _=>False))
  (next:∀y H',(G=true->bw y H')->(G=false->y= .b false/\H'=H)->au c r P ops rest ⟨(d,.opt G y)::env,H'⟩ Q):au c r P ops (o::rest) ⟨env,H⟩ Q:=by
 intro a w s;obtain⟨I,hw,he,az,aC⟩:=s.mem;have nv:=F8 (I:=I) (w:=w) (a:=a) aU al (λz an=>aC k z an) c8 (by rw[s.size];exact Nat.lt_of_succ_le (by simpa [Nat.blt] using su));unfold wpListIn;rw[nv];have hds:=jg aN hn;cases G with
 | true=>
  rw[if_pos rfl];refine h rfl a w I hw az (aC.ops o) _ Q ?_ (λ_ _ h=>h.elim);rintro v w' ⟨aQ,H',x,dc,cc,cW,ag,fE⟩;refine next x H' (λ_=>fE) (λe=>by cases e) _ _ ⟨jr,jq,aQ,dc,he.trans cc,cW,?_⟩;have:=(aC.bQ cc.keeps).put (dst:=o.dst) (by rw[s.size];exact hds) (.opt true x v (λ_=>ag) (λe=>by cases e));rw[aN] at this ⊢;exact this
 | false=>
  rw[if_neg bj];refine⟨λ_ _=>trivial,next (.b false) H (λe=>by cases e) (λ_=>⟨rfl,rfl⟩) _ _ ⟨jr,jq,I,hw,he,az,?_⟩⟩;have:=aC.put (dst:=o.dst) (by rw[s.size];exact hds) (.opt false (.b false) undef (λe=>by cases e) (λ_=>rfl));rw[aN] at this ⊢;exact this
theorem au.Ni{j k:Nat}{want G:Bool}{f:FuncId}{xs:List aa}{bw:aa->List aj->Prop}(al:o.guard=some (j,want))(aU:(ops[j]?).bind (·.dst)=some k)(su:Nat.blt k c.n=true)(c8:pR (aX env k) want=some G)
  (aN:o.dst=some d) (hn:Nat.blt d c.n=true) (ak:G=true->gZ P (aX env) o f xs) (h:G=true->dC c.B P f xs H bw (λ_ _=>False))
  (next:∀y H',(G=true->bw y H')->(G=false->y= .b false/\H'=H)->au c r P ops rest ⟨(d,.opt G y)::env,H'⟩ Q):au c r P ops (o::rest) ⟨env,H⟩ Q:=
 au.Nh al aU su c8 aN hn (λe a w I hw az aA=>x3 (ak e) (h e) hw az aA) next
theorem au.Nj{j k:Nat}{want G:Bool}{y:Operand}{args:Array Operand}{iI:Array TypeId}{jO:aa}{ys:List (Bool×aa)}{xs:List aa}{g:Bool}{bw:aa->List aj->Prop}(cU:o.guard=some (j,want))(aU:(ops[j]?).bind (·.dst)=some k)(su:Nat.blt k c.n=true)(c8:pR (aX env k) want=some G)
  (aN:o.dst=some d) (hn:Nat.blt d c.n=true) (h:o.op= .call {callee:=.value y,args:=args,argTypes:=iI})
  (ag:bf (aX env) y=some (g,jO)) (al:G=true->g=true) (bN:j2 (aX env) args.toList=some ys) (nw:G=true->ys.all (·.1)=true) (hle:bO (ys.map (·.2)) xs) (aC:G=true->e4 c.B P jO xs H bw (λ_ _=>False))
  (next:∀y H',(G=true->bw y H')->(G=false->y= .b false/\H'=H)->au c r P ops rest ⟨(d,.opt G y)::env,H'⟩ Q):au c r P ops (o::rest) ⟨env,H⟩ Q:=
 au.Nh cU aU su c8 aN hn (λe a w I hw az aA=>WK h ag (al e) bN (nw e) hle (aC e) hw az aA) next
end
end Go.Eng

