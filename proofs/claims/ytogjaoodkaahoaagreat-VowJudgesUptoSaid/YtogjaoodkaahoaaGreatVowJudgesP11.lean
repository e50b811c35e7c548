/- Part 11 of the proof: contracts of functions of the program and what they need. No condition beyond those that each theorem names. -/
import Derived.Test.YtogjaoodkaahoaaGreatVowJudgesP10
set_option maxHeartbeats 1000000
set_option linter.unusedVariables false
set_option linter.unusedSimpArgs false
namespace Go.Ev
open Go.Eng
open Go.RowKit (Below)
def Ret.s:Ret->S
 | .ok _ s=>s
 | .pan _ s=>s
def RetR(P:Program)(K:Nat->Prop)(B:Nat)(ρ:Rho)(s:S)(w:World):Ret->Ending->World->Prop
 | .ok x s',e,w'=>∃ρ' v,e= .returned v/\Go1 P K B ρ s w ρ' s' w'/\CR ρ' x v
 | .pan x s',e,w'=>∃ρ' v,e= .panicked [{v:=v,recovered:=false}]/\Go1 P K B ρ s w ρ' s' w'/\CR ρ' x v
theorem RetR.left{P:Program}{K:Nat->Prop}{B:Nat}{ρ ρ1:Rho}{s s1:S}{w w1:World}{res:Ret}{e:Ending}{w':World}(g:Go1 P K B ρ s w ρ1 s1 w1)(e1:Ev s s1)(e2:Ev s1 res.s)(h:RetR P K B ρ1 s1 w1 res e w'):RetR P K B ρ s w res e w':=by
 cases res with
 | ok x s'=>obtain⟨ρ',v,h1,h2,h3⟩:=h;exact⟨ρ',v,h1,g.trans h2 e1 e2,h3⟩
 | pan x s'=>obtain⟨ρ',v,h1,h2,h3⟩:=h;exact⟨ρ',v,h1,g.trans h2 e1 e2,h3⟩
def CallS(P:Program)(f:FuncId)(args:List CV)(s:S)(res:Ret):Prop:=
 Ev s res.s/\fnOk P f=true/\∀(K:Nat->Prop) (B:Nat) (ρ:Rho) (vs:List Value) (w:World),Pre P K B ρ s res.s w->CRL ρ args vs->Calls P f vs.toArray w (RetR P K B ρ s w res)
def RoundS(P:Program)(k:Nat)(args:List CV)(s:S)(res:Ret):Prop:=
 Ev s res.s/\∀(K:Nat->Prop) (B:Nat) (ρ:Rho) (vs:List Value) (w:World) (b n:Nat),Pre P K B ρ s res.s w->ρ k=some (b,n)->CRL ρ args vs->YieldAt (FW none) 0 P b vs.toArray w (RetR P K B ρ s w res)
def VS(P:Program)(f:CV)(args:List CV)(s:S)(res:Ret):Prop:=
 Ev s res.s/\∀(K:Nat->Prop) (B:Nat) (ρ:Rho) (v:Value) (vs:List Value) (w:World),Pre P K B ρ s res.s w->CR ρ f v->CRL ρ args vs->FCall P v vs w (RetR P K B ρ s w res)
def DOk(ρ:Rho):SD->Deferred->Prop
 | .mark k,d=>∃b n,ρ k=some (b,n)/\d={target:=.collected b,args:=#[]}
 | .call f args caps,d=>∃(vs:List Value) (vc:Array Value),CRL ρ args vs/\CRL ρ caps vc.toList/\d={target:=.fn (.func f) vc,args:=vs.toArray}
theorem DOk.le{ρ ρ':Rho}(hl:Le ρ ρ'):∀{d:SD} {x:Deferred},DOk ρ d x->DOk ρ' d x
 | .mark k,x,⟨b,n,h1,h2⟩=>⟨b,n,hl _ _ h1,h2⟩
 | .call f args caps,x,⟨vs,vc,h1,h2,h3⟩=>⟨vs,vc,h1.le hl,h2.le hl,h3⟩
def RdOk(ρ:Rho):Option Nat->Option Nat->Prop
 | none,r=>r=none
 | some k,r=>∃b n,ρ k=some (b,n)/\r=some b
theorem RdOk.le{ρ ρ':Rho}(hl:Le ρ ρ'):∀{k r:Option Nat},RdOk ρ k r->RdOk ρ' k r
 | none,_,h=>h
 | some k,_,⟨b,n,h1,h2⟩=>⟨b,n,hl _ _ h1,h2⟩
structure FrOk(ρ:Rho)(fr:Fr)(rr:Option Nat)(a:Act):Prop where
 size:a.tmps.size=fr.n
 env:EnvC ρ fr.env a
 ds:F2 (DOk ρ) fr.ds a.defers
 rd:RdOk ρ fr.rd rr
theorem FrOk.le{ρ ρ':Rho}{fr:Fr}{rr:Option Nat}{a:Act}(h:FrOk ρ fr rr a)(hl:Le ρ ρ'):FrOk ρ' fr rr a:=⟨h.size,h.env.le hl,h.ds.imp λ_ _=>DOk.le hl,h.rd.le hl⟩
def ExOk(ρ:Rho):Ex->Exit->Prop
 | .normal,e=>e= .normal
 | .exit id,e=>e= .exit id
 | .ret,e=>e= .ret
 | .pan x,e=>∃v,e= .panic [{v:=v,recovered:=false}]/\CR ρ x v
def Post(P:Program)(K:Nat->Prop)(B:Nat)(ρ:Rho)(s:S)(w:World)(ex:Ex)(fr':Fr)(s':S)(rr:Option Nat)(e:Exit)(a':Act)(w':World):Prop:=∃ρ',Go1 P K B ρ s w ρ' s' w'/\ExOk ρ' ex e/\FrOk ρ' fr' rr a'
theorem Post.left{P:Program}{K:Nat->Prop}{B:Nat}{ρ ρ1:Rho}{s s1:S}{w w1:World}{ex:Ex}{fr':Fr}{s':S}{rr:Option Nat}{e:Exit}{a':Act}{w':World}(g:Go1 P K B ρ s w ρ1 s1 w1)(e1:Ev s s1)(e2:Ev s1 s')(h:Post P K B ρ1 s1 w1 ex fr' s' rr e a' w'):Post P K B ρ s w ex fr' s' rr e a' w':=
 let ⟨ρ',h1,h2⟩:=h;⟨ρ',g.trans h1 e1 e2,h2⟩
def loopW(F:Fence)(P:Program)(p:Code)(Q:Exit->Act->World->Prop)(a:Act)(w:World):Prop:=
 ∀(b:Frame) (k:List Item) (cs:List Frame),b.roundOf=F.round->F.fn b.fn->F.room (cs.length+1+0)->∃e a' w',Q e a' w'/\ArrivesIn (Machine.fenced P F) P (lone (b.atR a (.code p::.inLoop p::k)) cs w) b k cs e a' w'
theorem loopW_wp{F:Fence}{P:Program}{p:Code}{Q:Exit->Act->World->Prop}{a:Act}{w:World}(h:loopW F P p Q a w):(Code.loop p).wpIn F 0 P Q a w:=λb k cs hro hb hr=>
 let ⟨e,a',w',hq,harr⟩:=h b k cs hro hb hr
 ⟨e,a',w',hq,.of_steps (.one (fenced_calm hb hr rfl) stepR_loop) harr⟩
theorem loopW_step{F:Fence}{P:Program}{p:Code}{Q:Exit->Act->World->Prop}{a:Act}{w:World}(h:p.wpIn F 0 P (Exit.then (λa w=>loopW F P p Q a w) Q) a w):loopW F P p Q a w:=by
 intro b k cs hro hb hr;obtain⟨e,a₁,w₁,hq,harr⟩:=h b (.inLoop p::k) cs hro hb hr;cases e with
 | normal=>
  obtain⟨e₂,a₂,w₂,hq₂,harr₂⟩:=hq b k cs hro hb hr;exact⟨e₂,a₂,w₂,hq₂,.of_steps (StepsIn.trans harr (.one (fenced_calm hb hr rfl) stepR_inLoop)) harr₂⟩
 | exit id=>exact⟨_,a₁,w₁,hq,.pass (x:=.inLoop p) rfl (λ_ _=>.inl Yn) harr⟩
 | goto l=>exact⟨_,a₁,w₁,hq,.pass (x:=.inLoop p) rfl (λ_ _=>.inl Yn) harr⟩
 | ret=>exact⟨_,a₁,w₁,hq,.pass (x:=.inLoop p) rfl (λ_ _=>.inl Yn) harr⟩
 | panic ch=>exact⟨_,a₁,w₁,hq,.pass (x:=.inLoop p) rfl (λ_ _=>.inl Yn) harr⟩
 | outgrown=>exact⟨_,a₁,w₁,hq,.pass (x:=.inLoop p) rfl (λ_ _=>.inl Yn) harr⟩
def wpL(F:Fence)(P:Program):Code->(Exit->Act->World->Prop)->Act->World->Prop
 | .loop p,Q,a,w=>loopW F P p Q a w
 | c,Q,a,w=>c.wpIn F 0 P Q a w
theorem wpL_wp{F:Fence}{P:Program}{c:Code}{Q:Exit->Act->World->Prop}{a:Act}{w:World}(h:wpL F P c Q a w):c.wpIn F 0 P Q a w:=by
 cases c <;> first | exact loopW_wp h | exact h
def CodeS(P:Program)(c:Code)(fr:Fr)(s:S)(ex:Ex)(fr':Fr)(s':S):Prop:=
 Ev s s'/\fr'.n=fr.n/\fr'.rd=fr.rd/\∀(K:Nat->Prop) (B:Nat) (ρ:Rho) (rr:Option Nat) (a:Act) (w:World) (Q:Exit->Act->World->Prop),Pre P K B ρ s s' w->FrOk ρ fr rr a->(∀e a' w',Post P K B ρ s w ex fr' s' rr e a' w'->Q e a' w')->wpL (FW rr) P c Q a w
structure RunOk(P:Program)(r:Run):Prop where
 call:∀f args s res,r.call f args s=some res->CallS P f args s res
 code:∀c fr s ex fr' s',r.code c fr s=some (ex,fr',s')->CodeS P c fr s ex fr' s'
 round:∀k args s res,r.round k args s=some res->RoundS P k args s res
theorem EnvC.put{ρ:Rho}{env env':Tr CV}{a:Act}{n:Nat}{dst:Option Nat}{x:CV}{v:Value}(h:EnvC ρ env a)(hn:a.tmps.size=n)(hp:putE n dst x env=some env')(hx:CR ρ x v):EnvC ρ env' (a.put dst v):=by
 cases dst with
 | none=>simp only[putE,Option.some.injEq] at hp;subst hp;exact h
 | some d=>
  simp only[putE] at hp;cases hd:Nat.blt d n with
  | false=>rw[hd] at hp;cases hp
  | true=>
   rw[hd,bif_t] at hp;intro t y hy;rw[Tr.get_set _ _ _ _ _ hp] at hy;split at hy
   ·rename_i e;subst e;cases hy;rw[tmps_put_same (by rw[hn];exact blt_of hd)];exact hx
   ·rename_i e;rw[tmps_put_other e];exact h t y hy
theorem FrOk.put{ρ:Rho}{n:Nat}{env env':Tr CV}{ds:List SD}{rd rr:Option Nat}{a:Act}{dst:Option Nat}{x:CV}{v:Value}(h:FrOk ρ ⟨n,env,ds,rd⟩ rr a)(hp:putE n dst x env=some env')(hx:CR ρ x v):FrOk ρ ⟨n,env',ds,rd⟩ rr (a.put dst v):=
 ⟨by rw[tmps_put_size];exact h.size,h.env.put h.size hp hx,by rw[put_defers];exact h.ds,h.rd⟩
section
variable{P:Program}{r:Run}
theorem callV_sound(R:RunOk P r){f:CV}{args:List CV}{s:S}{res:Ret}(h:callV r f args s=some res):VS P f args s res:=by
 cases f <;> simp only[callV] at h <;> try (cases h;done)
 case fn f first caps=>
  split at h
  ·rename_i l hl;obtain⟨h1,h2,h3⟩:=R.call _ _ _ _ h;refine⟨h1,λK B ρ v vs w hp hv hvs=>?_⟩;cases hv with
   | fn _ _ _ vf vc hf hc=>
    have e:l=first++(args++caps):=by
     unfold app2 at hl;split at hl
     ·rename_i m hm;rw[cat_eq hl,cat_eq hm]
     ·cases hl
    refine .inl ⟨f,vf,vc,rfl,h2,?_⟩;have:=h3 K B ρ (vf.toList++(vs++vc.toList)) w hp (by rw[e];exact hf.append (hvs.append hc));have e2:(vf.toList++(vs++vc.toList)).toArray=vf++vs.toArray++vc:=by apply Array.ext';simp
    rwa [e2] at this
  ·cases h
 case yld k=>
  obtain⟨h1,h2⟩:=R.round _ _ _ _ h;refine⟨h1,λK B ρ v vs w hp hv hvs=>?_⟩;cases hv with
  | yld _ b n hρ=>exact .inr ⟨b,rfl,h2 K B ρ vs w b n hp hρ hvs⟩
variable{env:Tr CV}{o:Oper}{s:S}{res:Ret}
theorem OpOk.ev(h:OpOk P env o s res):Ev s res.s:=by cases res <;> exact h.1
theorem OpOk.runs(h:OpOk P env o s res){K:Nat->Prop}{B:Nat}{ρ:Rho}{rr:Option Nat}{a:Act}{w:World}(hp:Pre P K B ρ s res.s w)(he:EnvC ρ env a):Runs P rr o a w (λv w'=>RetR P K B ρ s w res (.returned v) w') (λch w'=>RetR P K B ρ s w res (.panicked ch) w'):=by
 cases res with
 | ok x s'=>exact (h.2 K B ρ rr a w hp he).mono (λv w' ⟨ρ',h1,h2⟩=>⟨ρ',v,rfl,h1,h2⟩) (λ_ _ h=>h.elim)
 | pan x s'=>exact (h.2 K B ρ rr a w hp he).mono (λ_ _ h=>h.elim) (λch w' ⟨ρ',v,h1,h2,h3⟩=>⟨ρ',v,by rw[h1],h2,h3⟩)
theorem OpOk.of(h1:Ev s res.s)(h2:∀(K:Nat->Prop) (B:Nat) (ρ:Rho) (rr:Option Nat) (a:Act) (w:World),Pre P K B ρ s res.s w->EnvC ρ env a->Runs P rr o a w (λv w'=>RetR P K B ρ s w res (.returned v) w') (λch w'=>RetR P K B ρ s w res (.panicked ch) w')):OpOk P env o s res:=by
 cases res with
 | ok x s'=>exact⟨h1,λK B ρ rr a w hp he=>(h2 K B ρ rr a w hp he).mono (λv w' ⟨ρ',v',e,h1,h2⟩=>by cases e;exact⟨ρ',h1,h2⟩) (λch w' ⟨ρ',v',e,_⟩=>by cases e)⟩
 | pan x s'=>exact⟨h1,λK B ρ rr a w hp he=>(h2 K B ρ rr a w hp he).mono (λv w' ⟨ρ',v',e,_⟩=>by cases e) (λch w' ⟨ρ',v',e,h1,h2⟩=>by cases e;exact⟨ρ',v',rfl,h1,h2⟩)⟩
theorem runs_FCall{c:Call}{x:Operand}(h:o.op= .call c)(hc:c.callee= .value x){rr:Option Nat}{a:Act}{w:World}{R:Ending->World->Prop}(hf:FCall P (a.eval x) (c.args.toList.map a.eval) w R)(hno:∀w',¬R .outgrown w'):Runs P rr o a w (λv w'=>R (.returned v) w') (λch w'=>R (.panicked ch) w'):=by
 obtain⟨ce,ar,at_⟩:=c;simp only at hc;subst hc;have e2:(ar.toList.map a.eval).toArray=ar.map a.eval:=by apply Array.ext';simp
 have conv:∀e w',R e w'->match e with | .returned v=>R (.returned v) w' | .panicked ch=>R (.panicked ch) w' | .outgrown=>False:=λe w' hr=>by
  cases e with
  | returned v=>exact hr
  | panicked ch=>exact hr
  | outgrown=>exact hno _ hr
 rcases hf with⟨f,vf,vc,e1,hok,hcall⟩ | ⟨l,e1,fn,tmps,assign,body,hy,hR⟩
 ·refine Runs.of_enter Yk (run_call h hok a w e1) ?_;simp only[e2] at hcall;exact hcall.mono conv
 ·simp only[e2] at hy;exact Runs.of_round Yk (run_callYield h a w e1 hy) (hR.mono conv)
theorem methV_spec{t:TypeId}{name:String}{f:FuncId}(h:methV P t name=some f)(v:Value)(w:World)(fuel:Nat):(method (fuel+1) t v name).run P w= .ok (f,v) w:=by
 unfold methV at h;split at h
 ·rename_i i hi;split at h
  ·rename_i m hm;split at h
   ·rename_i f' e hpath hfunc hu;cases h;simp[method,typeInfo,hi,hm,hpath,follow,hfunc,receiverAt,run_underlying hu,Place.get]
   ·cases h
   ·rename_i f' d hnp hpath hfunc hu;cases h;cases d <;> first | (exact absurd rfl (hnp _)) | simp[method,typeInfo,hi,hm,hpath,follow,hfunc,receiverAt,run_underlying hu,Place.get]
   ·cases h
  ·cases h
 ·cases h
theorem stepOp_sound(hl:laidOutB P=true)(R:RunOk P r)(h:stepOp P r env o s=some res):OpOk P env o s res:=by
 unfold stepOp at h;split at h
 ·rename_i c hop;split at h
  ·rename_i x hc;split at h
   ·rename_i f xs hf hxs;obtain⟨h1,h2⟩:=callV_sound R h;refine .of h1 λK B ρ rr a w hp he=>?_;refine runs_FCall hop hc (h2 K B ρ _ _ w hp (ev_sound he hf) (evs_sound he hxs)) λw' hr=>?_;cases res with
    | ok x s'=>obtain⟨_,_,e,_⟩:=hr;cases e
    | pan x s'=>obtain⟨_,_,e,_⟩:=hr;cases e
   ·cases h
  ·rename_i x name hc;split at h
   ·rename_i t v xs hx hxs;split at h
    ·rename_i f hm;have hcl:callV r (.fn f [] []) (v::xs) s=some res:=h;simp only[callV] at hcl;split at hcl
     ·rename_i l hl2;obtain⟨h1,h2,h3⟩:=R.call _ _ _ _ hcl;refine .of h1 λK B ρ rr a w hp he=>?_;have hv:=ev_sound he hx;have hvs:=evs_sound he hxs;have e:l=v::xs:=by
       unfold app2 at hl2;split at hl2
       ·rename_i m hm2;have q1:=cat_eq hm2;have q2:=cat_eq hl2;rw[q2,q1];simp
       ·cases hl2
      generalize hu:a.eval x=u at hv;cases hv with
      | iface _ _ u' hu'=>
       have hcall:=h3 K B ρ (u'::c.args.toList.map a.eval) w hp (by rw[e];exact .cons _ _ _ _ hu' hvs);refine Runs.of_enter (f:=f) (args:=(u'::c.args.toList.map a.eval).toArray) (w':=w) Yah ?_ (hcall.mono λe w' hr=>?_)
       ·obtain⟨ce,ar,at_⟩:=c;simp only at hc;subst hc;have hm2:=methV_spec (P:=P) hm u' w (P.types.size+Made.depth - 1);have hd:P.types.size+Made.depth - 1+1=P.types.size+Made.depth:=by simp[Made.depth]
        rw[hd] at hm2;have e3:(u'::ar.toList.map a.eval).toArray= #[u']++ar.map a.eval:=by apply Array.ext';simp
        simp only[e3];have e4:(#[Value.iface t u']++ar.map a.eval).extract 1 (#[Value.iface t u']++ar.map a.eval).size=ar.map a.eval:=by apply Array.ext';simp;rw[List.take_of_length_le];simp
        have e5:(#[Value.iface t u']++ar.map a.eval)[0]? =some (Value.iface t u'):=by rw[Array.getElem?_append_left (Nat.zero_lt_one)];rfl
        simp only[execOp,hop,resolve,hu,Sem.run_bind,Sem.run_pure,Result.andThen_ok,invoke,e5,e4,callMethod,run_program,hm2,run_callFunc h2]
       ·cases e with
        | returned v=>exact hr
        | panicked ch=>exact hr
        | outgrown=>
         cases res with
         | ok x s'=>obtain⟨_,_,e,_⟩:=hr;cases e
         | pan x s'=>obtain⟨_,_,e,_⟩:=hr;cases e
     ·cases hcl
    ·cases h
   ·cases h
  ·rename_i h1 h2;exact opV_sound hl h
 ·rename_i x hop;split at h
  ·rename_i t v hx;cases h;refine⟨Ev.refl s,λK B ρ rr a w hp he=>?_⟩;have hv:=ev_sound he hx;refine Runs.of_panic (v:=a.eval x) Yah ?_ ⟨ρ,_,rfl,Go1.refl hp.mem,hv⟩;generalize hu:a.eval x=u at hv;cases hv with
   | iface _ _ u' _=>simp[execOp,hop,hu,Instr.panic]
  ·cases h
 ·exact opV_sound hl h
theorem guard_sound{all:List Oper}{ρ:Rho}{a:Act}{b:Bool}(h:guardV all env o=some b)(he:EnvC ρ env a):Region.wanted o (yielded all.toArray a.tmps)=b:=by
 unfold guardV at h;split at h
 ·rename_i hg;cases h;simp[Region.wanted,hg]
 ·rename_i j want hg;split at h
  ·rename_i p hp;split at h
   ·rename_i d hd;have hy:yielded all.toArray a.tmps j=match a.tmps[d]? with | some (.bool b)=>some b | _=>none:=by
     simp[yielded,hp,hd];rfl
    have hw:Region.wanted o (yielded all.toArray a.tmps)=(yielded all.toArray a.tmps j==some want):=by simp[Region.wanted,hg]
    rw[hw,hy];have key:∀u,a.tmps.getD d undef=u->u≠undef->a.tmps[d]? =some u:=λu hu hne=>by
     simp only[Array.getD_eq_getD_getElem?] at hu;cases hq:a.tmps[d]? with
     | none=>rw[hq] at hu;exact absurd hu.symm hne
     | some q=>rw[hq] at hu;rw[<-hu];rfl
    split at h
    ·rename_i hv;cases h;rw[key _ (he d _ hv).val_eq (by simp[undef])];cases b <;> rfl
    ·rename_i hv;cases h;rw[key _ (he d _ hv).val_eq (by simp[undef])];cases want <;> rfl
    ·rename_i hv;cases h;have h0:=he d _ hv;have hu:a.tmps.getD d undef=undef:=by
      generalize a.tmps.getD d undef=u at h0;cases h0 with
      | tup _ vs hc=>cases vs with | mk l=>cases hc;rfl
     simp only[Array.getD_eq_getD_getElem?] at hu;cases hq:a.tmps[d]? with
     | none=>rfl
     | some q=>rw[hq] at hu;simp at hu;subst hu;rfl
    ·cases h
   ·cases h
  ·cases h
end
section
variable{P:Program}{r:Run}
theorem deferV_sound{ρ:Rho}{env:Tr CV}{a:Act}{c:Call}{d:SD}(h:deferV env c=some d)(he:EnvC ρ env a)(w:World):∃x,(resolve a.eval c 0).run P w= .ok x w/\DOk ρ d x/\∀t,resolve a.eval c t=resolve a.eval c 0:=by
 unfold deferV at h;split at h
 ·rename_i x hc;split at h
  ·rename_i f first caps xs hf hxs;split at h
   ·rename_i l hl;cases h;obtain⟨ce,ar,at_⟩:=c;simp only at hc;subst hc;have hv:=ev_sound he hf;have hvs:=evs_sound he hxs;generalize hu:a.eval x=u at hv;cases hv with
    | fn _ _ _ vf vc h1 h2=>
     refine⟨{target:=.fn (.func f) vc,args:=vf++ar.map a.eval},by simp[resolve,hu,Deferred.ofValue],⟨vf.toList++ar.toList.map a.eval,vc,?_,h2,?_⟩,λt=>rfl⟩
     ·rw[cat_eq hl];exact h1.append hvs
     ·congr 1;apply Array.ext';simp
   ·cases h
  ·cases h
 ·cases h
theorem regS_sound(hl:laidOutB P=true)(R:RunOk P r){all:List Oper}:∀(l:List Oper) (fr:Fr) (s:S) {ex:Ex} {fr':Fr} {s':S},regS P r all l fr s=some (ex,fr',s')->
  Ev s s'/\fr'.n=fr.n/\fr'.rd=fr.rd/\∀(K:Nat->Prop) (B:Nat) (ρ:Rho) (rr:Option Nat) (a:Act) (w:World) (Q:Exit->Act->World->Prop),Pre P K B ρ s s' w->FrOk ρ fr rr a->(∀e a' w',Post P K B ρ s w ex fr' s' rr e a' w'->Q e a' w')->wpListIn (FW rr) 0 P all.toArray Q l a w
 | [],fr,s,ex,fr',s',h=>by
  simp only[regS,Option.some.injEq,Prod.mk.injEq] at h;obtain⟨rfl,rfl,rfl⟩:=h;exact⟨Ev.refl _,rfl,rfl,λK B ρ rr a w Q hp hf hQ=>hQ _ _ _ ⟨ρ,Go1.refl hp.mem,rfl,hf⟩⟩
 | o::rest,⟨n,env,ds,rd⟩,s,ex,fr',s',h=>by
  unfold regS at h;split at h
  ·cases h
  ·rename_i hg;split at h
   ·rename_i env' hput;obtain⟨h1,h2,h3,h4⟩:=regS_sound hl R rest _ s h;refine⟨h1,h2,h3,λK B ρ rr a w Q hp hf hQ=>?_⟩;unfold wpListIn;rw[guard_sound hg hf.env];rw[if_neg Yn];exact⟨λ_ _=>trivial,h4 K B ρ rr _ w Q hp (hf.put hput (.tup _ _ .nil)) hQ⟩
   ·cases h
  ·rename_i hg;split at h
   ·rename_i c hop;split at h
    ·cases h
    ·rename_i d hd;split at h
     ·cases h
     ·rename_i d hdv;split at h
      ·rename_i env' hput;obtain⟨h1,h2,h3,h4⟩:=regS_sound hl R rest _ s h;refine⟨h1,h2,h3,λK B ρ rr a w Q hp hf hQ=>?_⟩;obtain rfl:rr=none:=hf.rd;obtain⟨x,e1,e2,e3⟩:=deferV_sound (P:=P) hdv hf.env w;unfold wpListIn;rw[guard_sound hg hf.env,if_pos rfl];unfold Oper.wpIn;refine⟨λ_ _=>trivial,?_⟩;have hs:o.semAt (FW none).round a.eval=execOp a.eval o:=rfl;have hr:(execOp a.eval o).run P w= .ok (.defer x) w:=by simp[execOp,hop,e3 o.type,e1]
       rw[hs,hr,Oper.uponIn_defer];have hput':=hf.put hput (v:=undef) (.tup _ _ .nil);have et:(({tmps:=a.tmps,defers:=x::a.defers}:Act).put o.dst undef).tmps=(a.put o.dst undef).tmps:=by cases o.dst <;> rfl
       refine h4 K B ρ none _ w Q hp ⟨(congrArg Array.size et).trans hput'.size,λt y hy=>?_,?_,hf.rd⟩ hQ
       ·rw[et];exact hput'.env t y hy
       ·cases hod:o.dst with
        | none=>exact .cons e2 hf.ds
        | some dd=>exact .cons e2 hf.ds
      ·cases h
   ·rename_i hnd;split at h
    ·cases h
    ·rename_i x s1 hst;split at h
     ·rename_i env' hput;have hop:=stepOp_sound hl R hst;have ev1:Ev s s1:=hop.ev;obtain⟨h1,h2,h3,h4⟩:=regS_sound hl R rest _ s1 h;refine⟨ev1.trans h1,h2,h3,λK B ρ rr a w Q hp hf hQ=>?_⟩;unfold wpListIn;rw[guard_sound hg hf.env,if_pos rfl];refine hop.runs (rr:=rr) (hp.left h1) hf.env _ Q ?_ ?_
      ·rintro v w1 ⟨ρ1,v',e,g,hx⟩;cases e;exact h4 K B ρ1 rr _ w1 Q (hp.right ev1 g) ((hf.le g.ext).put hput hx) λe a' w' hpost=>hQ _ _ _ (hpost.left g ev1 h1)
      ·rintro ch w1 ⟨ρ1,v',e,_⟩;cases e
     ·cases h
    ·rename_i x s1 hst;cases h;have hop:=stepOp_sound hl R hst;refine⟨hop.ev,rfl,rfl,λK B ρ rr a w Q hp hf hQ=>?_⟩;unfold wpListIn;rw[guard_sound hg hf.env,if_pos rfl];refine hop.runs (rr:=rr) hp hf.env _ Q ?_ ?_
     ·rintro v w1 ⟨ρ1,v',e,_⟩;cases e
     ·rintro ch w1 ⟨ρ1,v',e,g,hx⟩;cases e;exact hQ _ _ _ ⟨ρ1,g,⟨_,rfl,hx⟩,hf.le g.ext⟩
end
def lastF{β:Type}(wr:Nat->Nat->Option β)(S:Nat->Bool)(z:Nat->β):Nat->Nat->β
 | 0,t=>z t
 | m+1,t=>if S m=true then (wr m t).getD (lastF wr S z m t) else lastF wr S z m t
section
variable{β:Type}{wr:Nat->Nat->Option β}{z:Nat->β}
theorem lastF_same{S S':Nat->Bool}{t:Nat}:∀{m:Nat},(∀j,j<m->wr j t≠none->S j=S' j)->lastF wr S z m t=lastF wr S' z m t
 | 0,_=>rfl
 | m+1,h=>by
  have ih:=lastF_same (m:=m) λj hj=>h j Yb;unfold lastF;rw[ih];cases hw:wr m t with
  | none=>simp
  | some v=>rw[h m Yb (by rw[hw];simp)]
theorem lastF_add{S:Nat->Bool}{i t:Nat}(hS:S i=false):∀{m:Nat},i<m->(∀j,i<j->j<m->wr j t≠none->S j=false)->lastF wr (addS S i) z m t=(wr i t).getD (lastF wr S z m t)
 | 0,h,_=>by omega
 | m+1,h,hj=>by
  unfold lastF;by_cases e:m=i
  ·subst e;have h1:addS S m m=true:=by simp[addS]
   rw[h1,hS,if_pos rfl,if_neg Yn];congr 1;exact lastF_same λj hj' _=>by simp[addS,show j≠m by omega]
  ·have h1:addS S i m=S m:=by simp[addS,e]
   have ih:=lastF_add hS (m:=m) Yb λj h1 h2=>hj j h1 Yb;rw[h1,ih];cases hw:wr m t with
   | none=>simp
   | some v=>rw[hj m Yb Yb (by rw[hw];simp)];simp
theorem lastF_upto{i t:Nat}:∀{m:Nat},i<=m->lastF wr (λj=>Nat.blt j i) z m t=lastF wr (λ_=>true) z i t
 | 0,h=>by
  obtain rfl:i=0:=by omega
  rfl
 | m+1,h=>by
  by_cases e:i=m+1
  ·subst e;exact lastF_same λj hj _=>Nat.ble_eq_true_of_le hj
  ·have ih:=lastF_upto (i:=i) (t:=t) (m:=m) Yb;have h1:Nat.blt m i=false:=by
    rw[Bool.eq_false_iff];intro hb;have:=blt_of hb;omega
   show (if Nat.blt m i=true then _ else _)=_;rw[h1,if_neg Yn];exact ih
end
def Tr.restr{α:Type}:Tr α->(Nat->Bool)->Tr α
 | .nil,_=>.nil
 | .node l v r,p=>.node (l.restr λk=>p (2*k+1)) (if p 0=true then v else none) (r.restr λk=>p (2*k+2))
theorem Tr.get_restr{α:Type}:∀(t:Tr α) (p:Nat->Bool) (k:Nat),(t.restr p).get k=if p k=true then t.get k else none
 | .nil,p,k=>by simp[restr,Tr.get]
 | .node l v r,p,k=>by
  unfold restr Tr.get;cases hk:Nat.beq k 0 with
  | true=>have:=beq_of hk;subst this;rfl
  | false=>
   have hk0:=nbeq_of hk;rw[bif_f,bif_f];cases hq:Nat.beq (k%2) 1 with
   | true=>
    have hq':=beq_of hq;rw[bif_t,bif_t,Tr.get_restr l];rw[show 2*(k / 2)+1=k by omega]
   | false=>
    have hq':=nbeq_of hq;rw[bif_f,bif_f,Tr.get_restr r];rw[show 2*(k / 2 - 1)+2=k by omega]
section
variable{P:Program}{r:Run}{env env':Tr CV}
theorem ev_congr{x:Operand}(h:∀t,x= .tmp t->env.get t=env'.get t):ev env x=ev env' x:=by
 cases x with
 | tmp t=>exact h t rfl
 | _=>rfl
theorem evs_congr:∀{l:List Operand},(∀x∈l,ev env x=ev env' x)->evs env l=evs env' l
 | [],_=>rfl
 | x::l,h=>by
  unfold evs;rw[h x (.head _),evs_congr (l:=l) λy hy=>h y (.tail _ hy)]
theorem evO_congr{x:Option Operand}(h:∀y,x=some y->ev env y=ev env' y):evO env x=evO env' x:=by
 cases x with
 | none=>rfl
 | some y=>simp only[evO,h y rfl]
theorem o_call_congr{c:Call}(h:∀x∈c.args.toList,ev env x=ev env' x)(s:S):o_call P env c s=o_call P env' c s:=by
 have hl:=evs_congr h;unfold o_call;split
 ·unfold o_len;split
  ·rename_i x t hx ht;rw[h x (by rw[hx];exact .head _)]
  ·rfl
 ·unfold o_append;split
  ·rename_i x y t t' hx ht;rw[h x (by rw[hx];exact .head _),h y (by rw[hx];exact .tail _ (.head _))]
  ·rfl
 ·unfold o_cap;split
  ·rename_i x t hx ht;rw[h x (by rw[hx];exact .head _)]
  ·rfl
 ·unfold o_copy;split
  ·rename_i x y t t' hx ht;rw[h x (by rw[hx];exact .head _),h y (by rw[hx];exact .tail _ (.head _))]
  ·rfl
 ·unfold o_min;rw[hl]
 ·unfold o_max;rw[hl]
 ·rfl
theorem opV_congr{op:Op}(h:∀x∈op.operands,ev env x=ev env' x)(s:S):opV P env op s=opV P env' op s:=by
 cases op <;> try rfl
 case call c=>exact o_call_congr (λx hx=>h x (by simp only[Op.operands,Call.operands,Array.mem_append];exact .inr YaC)) s
 case makeMap t m=>
  cases m with
  | none=>rfl
  | some m=>simp only[opV,o_makeMap1,h m Yp]
 case build t ps=>simp only[opV,o_build,evs_congr (l:=ps.toList.map (·.2)) λx hx=>h x (by simp[Op.operands] at hx ⊢;exact hx)]
 case buildSlice t n ps=>simp only[opV,o_buildSlice,evs_congr (l:=ps.toList.map (·.2)) λx hx=>h x (by simp[Op.operands] at hx ⊢;exact hx)]
 case makeFunc f a b=>simp only[opV,o_makeFunc,evs_congr (l:=a.toList) λx hx=>h x (by simp[Op.operands];exact .inl YaC),evs_congr (l:=b.toList) λx hx=>h x (by simp[Op.operands];exact .inr YaC)]
 case slice t x lo hi mx=>simp only[opV,o_slice,h x Yp,evO_congr (x:=lo) λy hy=>h y (by simp[Op.operands,hy]),evO_congr (x:=hi) λy hy=>h y (by simp[Op.operands,hy]),evO_congr (x:=mx) λy hy=>h y (by simp[Op.operands,hy])]
 case pick c a b=>simp only[opV,o_pick,h c Yp,h a Yp,h b Yp]
 case move x=>simp only[opV,o_move,h x Yp]
 case assign x=>simp only[opV,o_move,h x Yp]
 case box t x=>simp only[opV,o_box,h x Yp]
 case load t x=>simp only[opV,o_load,h x Yp]
 case nilCheck x=>simp only[opV,o_nilCheck,h x Yp]
 case unOp op t x=>simp only[opV,o_unOp,h x Yp]
 case convert a b x=>simp only[opV,o_convert,h x Yp]
 case makeInterface t x=>simp only[opV,o_makeInterface,h x Yp]
 case fieldAddr t x f=>simp only[opV,o_fieldAddr,h x Yp]
 case field t x f=>simp only[opV,o_field,h x Yp]
 case typeAssert x a t ok=>simp only[opV,o_typeAssert,h x Yp]
 case extract x i=>simp only[opV,o_extract,h x Yp]
 case store t p x=>simp only[opV,o_store,h p Yp,h x Yp]
 case binOp op t x y u=>simp only[opV,o_binOp,h x Yp,h y Yp]
 case makeSlice t x y=>simp only[opV,o_makeSlice,h x Yp,h y Yp]
 case indexAddr t x y=>simp only[opV,o_indexAddr,h x Yp,h y Yp]
 case index t x y=>simp only[opV,o_index,h x Yp,h y Yp]
 case lookup t x y ok=>simp only[opV,o_lookup,h x Yp,h y Yp]
 case mapUpdate t m k x=>simp only[opV,o_mapUpdate,h m Yp,h k Yp,h x Yp]
 case mapEntry t m k=>simp only[opV,o_mapEntry,h m Yp,h k Yp]
 case entryStore t m k x=>simp only[opV,o_entryStore,h m Yp,h k Yp,h x Yp]
 case insert t m k x=>simp only[opV,o_mapUpdate,h m Yp,h k Yp,h x Yp]
theorem stepOp_congr{o:Oper}(h:∀x∈o.op.operands,ev env x=ev env' x)(s:S):stepOp P r env o s=stepOp P r env' o s:=by
 have ho:=opV_congr (P:=P) (op:=o.op) h s;unfold stepOp;split
 ·rename_i c hc;rw[hc] at h ho;split
  ·rename_i x hx;rw[h x (by simp[Op.operands,Call.operands,hx]),evs_congr (l:=c.args.toList) λy hy=>h y (by simp[Op.operands,Call.operands,hx] at hy ⊢;exact .inr hy)]
  ·rename_i x name hx;rw[h x (by simp[Op.operands,Call.operands,hx]),evs_congr (l:=c.args.toList) λy hy=>h y (by simp[Op.operands,Call.operands,hx] at hy ⊢;exact .inr hy)]
  ·rw[hc];exact ho
 ·rename_i x hx;rw[hx] at h;rw[h x Yp]
 ·exact ho
end
structure Tk where
 x:CV
 env:Tr CV
 s:S
 s':S
def wrE(l:List Oper)(q:Option Nat)(T:Nat->Option Tk)(i t:Nat):Option (Option CV):=
 match l[i]?,T i with
 | some o,some k=>if o.dst=some t/\q≠some i then some (some k.x) else none
 | _,_=>none
def wrH(q:Option Nat)(T:Nat->Option Tk)(i j:Nat):Option (Option CO):=
 match T i with
 | some k=>if k.s'.W.testBit j=true/\q≠some i then some (k.s'.h.get j) else none
 | none=>none
theorem wrE_some{l:List Oper}{q:Option Nat}{T:Nat->Option Tk}{i t:Nat}(h:wrE l q T i t≠none):∃o k,l[i]? =some o/\T i=some k/\o.dst=some t/\q≠some i:=by
 unfold wrE at h;cases ho:l[i]? with
 | none=>rw[ho] at h;exact absurd rfl h
 | some o=>
  cases hk:T i with
  | none=>rw[ho,hk] at h;exact absurd rfl h
  | some k=>
   rw[ho,hk] at h;by_cases e:o.dst=some t/\q≠some i
   ·exact⟨o,k,rfl,rfl,e.1,e.2⟩
   ·simp[e] at h
theorem wrH_some{q:Option Nat}{T:Nat->Option Tk}{i j:Nat}(h:wrH q T i j≠none):∃k,T i=some k/\k.s'.W.testBit j=true/\q≠some i:=by
 unfold wrH at h;cases hk:T i with
 | none=>rw[hk] at h;exact absurd rfl h
 | some k=>
  rw[hk] at h;by_cases e:k.s'.W.testBit j=true/\q≠some i
  ·exact⟨k,rfl,e.1,e.2⟩
  ·simp[e] at h
structure TOk(P:Program)(l:List Oper)(n:Nat)(q:Option Nat)(T:Nat->Option Tk)(e0:Nat->Option CV)(h0:Nat->Option CO)(n0 n1:Nat)(Rt Wt:Nat->Prop):Prop where
 len:∀i k,T i=some k->i<l.length
 sound:∀i o k,l[i]? =some o->T i=some k->(q≠some i/\(∀e',(∀t∈looks l o,e'.get t=k.env.get t)->guardV l e' o=some false)/\k.x= .tup []/\k.s'=k.s)\/((∀e',(∀t∈looks l o,e'.get t=k.env.get t)->guardV l e' o=some true)/\∀e',(∀t∈looks l o,e'.get t=k.env.get t)->OpOk P e' o k.s (if q=some i then .pan k.x k.s' else .ok k.x k.s'))
 zero:∀i k,T i=some k->k.s.W=0
 ev:∀i k,T i=some k->Ev k.s k.s'
 dst:∀i o k d,l[i]? =some o->T i=some k->q≠some i->o.dst=some d->d<n
 envAt:∀i o k,l[i]? =some o->T i=some k->∀t,k.env.get t=lastF (wrE l q T) (λ_=>true) e0 i t
 memAt:∀i k,T i=some k->∀j,k.s.h.get j=lastF (wrH q T) (λ_=>true) h0 i j
 wf:∀i k,T i=some k->∀j o,k.s.h.get j=some o->j<k.s.nx
 ordE1:∀j i oj oi kj ki,j<i->l[j]? =some oj->l[i]? =some oi->T j=some kj->T i=some ki->∀t,oj.dst=some t->t∈looks l oi\/oi.dst=some t->((masks l []).getD i 0).testBit j=true
 ordE2:∀j i oj oi kj ki,j<i->l[j]? =some oj->l[i]? =some oi->T j=some kj->T i=some ki->∀t,oi.dst=some t->t∈looks l oj->((masks l []).getD i 0).testBit j=true
 ordH1:∀j i kj ki,j<i->T j=some kj->T i=some ki->∀k,ki.s'.W.testBit k=true->kj.s'.R.testBit k=true\/kj.s'.W.testBit k=true->((masks l []).getD i 0).testBit j=true
 ordH2:∀j i kj ki,j<i->T j=some kj->T i=some ki->∀k,ki.s'.R.testBit k=true->kj.s'.W.testBit k=true->((masks l []).getD i 0).testBit j=true
 nxs:∀i k,T i=some k->n0<=k.s.nx/\k.s'.nx<=n1
 own:∀j i kj ki x,T j=some kj->T i=some ki->kj.s.nx<=x->x<kj.s'.nx->ki.s.nx<=x->x<ki.s'.nx->j=i
 cov:∀i k,T i=some k->(∀j,k.s'.R.testBit j=true->Rt j)/\∀j,k.s'.W.testBit j=true->Wt j
 idle:∀i j k x,q=some i->T j=some k->j≠i->k.s'.W.testBit x=true->j<i/\((masks l []).getD i 0).testBit j=true
 all:∀i,i<l.length->T i=none->∃j,q=some j/\((masks l []).getD i 0).testBit j=true
 qin:∀i,q=some i->∃k,T i=some k
 back:∀i o,l[i]? =some o->∀j∈deps o,j<i
section
variable{P:Program}{l:List Oper}{n:Nat}{q:Option Nat}{T:Nat->Option Tk}{e0:Nat->Option CV}{h0:Nat->Option CO}{n0 n1:Nat}{Rt Wt:Nat->Prop}
theorem TOk.envEq(t:TOk P l n q T e0 h0 n0 n1 Rt Wt){S:Nat->Bool}(hS:ShutS l S){i:Nat}{o:Oper}{k:Tk}(ho:l[i]? =some o)(hk:T i=some k)(hm:∀j,((masks l []).getD i 0).testBit j=true->S j=true)(hi:S i=false){x:Nat}(hx:x∈looks l o):lastF (wrE l q T) S e0 l.length x=k.env.get x:=by
 have hil:=t.len i k hk;rw[t.envAt i o k ho hk x, <-lastF_upto (m:=l.length) Yb];refine lastF_same λj hj hw=>?_;obtain⟨oj,kj,hoj,hkj,hd,hq⟩:=wrE_some hw;rcases Nat.lt_trichotomy j i with h | h | h
 ·rw[hm j (t.ordE1 j i oj o kj k h hoj ho hkj hk x hd (.inl hx))];exact (Nat.ble_eq_true_of_le h).symm
 ·subst h;rw[hi];symm;rw[Bool.eq_false_iff];intro hb;have:=blt_of hb;omega
 ·have h1:Nat.blt j i=false:=by rw[Bool.eq_false_iff];intro hb;have:=blt_of hb;omega
  rw[h1];cases hSj:S j with
  | false=>rfl
  | true=>
   have:=hS j oj hoj hSj i (t.ordE2 i j o oj k kj h ho hoj hk hkj x hd hx);rw[hi] at this;cases this
theorem TOk.memEq(t:TOk P l n q T e0 h0 n0 n1 Rt Wt){S:Nat->Bool}(hS:ShutS l S){i:Nat}{o:Oper}{k:Tk}(ho:l[i]? =some o)(hk:T i=some k)(hm:∀j,((masks l []).getD i 0).testBit j=true->S j=true)(hi:S i=false){x:Nat}(hx:k.s'.R.testBit x=true\/k.s'.W.testBit x=true):lastF (wrH q T) S h0 l.length x=k.s.h.get x:=by
 have hil:=t.len i k hk;rw[t.memAt i k hk x, <-lastF_upto (m:=l.length) Yb];refine lastF_same λj hj hw=>?_;obtain⟨kj,hkj,hd,hq⟩:=wrH_some hw;rcases Nat.lt_trichotomy j i with h | h | h
 ·have:((masks l []).getD i 0).testBit j=true:=by
   rcases hx with hx | hx
   ·exact t.ordH2 j i kj k h hkj hk x hx hd
   ·exact t.ordH1 j i kj k h hkj hk x hx (.inr hd)
  rw[hm j this];exact (Nat.ble_eq_true_of_le h).symm
 ·subst h;rw[hi];symm;rw[Bool.eq_false_iff];intro hb;have:=blt_of hb;omega
 ·have h1:Nat.blt j i=false:=by rw[Bool.eq_false_iff];intro hb;have:=blt_of hb;omega
  rw[h1];cases hSj:S j with
  | false=>rfl
  | true=>
   have hjl:=t.len j kj hkj;obtain⟨oj,hoj⟩:∃oj,l[j]? =some oj:=⟨l[j],List.getElem?_eq_getElem hjl⟩;have:=hS j oj hoj hSj i (t.ordH1 i j k kj h hk hkj x hd hx);rw[hi] at this;cases this
theorem TOk.envAdd(t:TOk P l n q T e0 h0 n0 n1 Rt Wt){S:Nat->Bool}(hS:ShutS l S){i:Nat}{o:Oper}{k:Tk}(ho:l[i]? =some o)(hk:T i=some k)(hi:S i=false)(hne:q≠some i)(x:Nat):lastF (wrE l q T) (addS S i) e0 l.length x=if o.dst=some x then some k.x else lastF (wrE l q T) S e0 l.length x:=by
 have hil:=t.len i k hk;by_cases e:o.dst=some x
 ·rw[if_pos e,lastF_add hi hil]
  ·simp[wrE,ho,hk,e,hne]
  ·intro j h1 h2 hw;obtain⟨oj,kj,hoj,hkj,hd,hq⟩:=wrE_some hw;cases hSj:S j with
   | false=>rfl
   | true=>
    have:=hS j oj hoj hSj i (t.ordE1 i j o oj k kj h1 ho hoj hk hkj x e (.inr hd));rw[hi] at this;cases this
 ·rw[if_neg e];refine lastF_same λj hj hw=>?_;by_cases ej:j=i
  ·subst ej;obtain⟨oj,kj,hoj,hkj,hd,hq⟩:=wrE_some hw;rw[ho] at hoj;cases hoj;exact absurd hd e
  ·simp[addS,ej]
theorem TOk.memAdd(t:TOk P l n q T e0 h0 n0 n1 Rt Wt){S:Nat->Bool}(hS:ShutS l S){i:Nat}{o:Oper}{k:Tk}(ho:l[i]? =some o)(hk:T i=some k)(hi:S i=false)(hne:q≠some i)(x:Nat):lastF (wrH q T) (addS S i) h0 l.length x=if k.s'.W.testBit x=true then k.s'.h.get x else lastF (wrH q T) S h0 l.length x:=by
 have hil:=t.len i k hk;by_cases e:k.s'.W.testBit x=true
 ·rw[if_pos e,lastF_add hi hil]
  ·simp[wrH,hk,e,hne]
  ·intro j h1 h2 hw;obtain⟨kj,hkj,hd,hq⟩:=wrH_some hw;cases hSj:S j with
   | false=>rfl
   | true=>
    obtain⟨oj,hoj⟩:∃oj,l[j]? =some oj:=⟨l[j],List.getElem?_eq_getElem h2⟩;have:=hS j oj hoj hSj i (t.ordH1 i j k kj h1 hk hkj x hd (.inr e));rw[hi] at this;cases this
 ·rw[if_neg e];refine lastF_same λj hj hw=>?_;by_cases ej:j=i
  ·subst ej;obtain⟨kj,hkj,hd,hq⟩:=wrH_some hw;rw[hk] at hkj;cases hkj;exact absurd hd e
  ·simp[addS,ej]
end
structure MKF(P:Program)(K:Nat->Prop)(B:Nat)(ρ:Rho)(h:Nat->Option CO)(w:World):Prop where
 obj:∀k o,K k->h k=some o->∃b n ob,ρ k=some (b,n)/\B<=b/\w.heap[b]? =some ob/\OR P ρ n o ob
 inj:∀k k' o o' b n n',K k->K k'->h k=some o->h k'=some o'->ρ k=some (b,n)->ρ k'=some (b,n')->k=k'
theorem MKF.to{P:Program}{K:Nat->Prop}{B:Nat}{ρ:Rho}{h:Nat->Option CO}{t:Tr CO}{w:World}(m:MKF P K B ρ h w)(e:∀k,K k->t.get k=h k):MK P K B ρ t w:=
 ⟨λk o hk ho=>m.obj k o hk ((e k hk).symm.trans ho),λk k' o o' b n n' hk hk' ho ho'=>m.inj k k' o o' b n n' hk hk' ((e k hk).symm.trans ho) ((e k' hk').symm.trans ho')⟩
theorem MKF.of{P:Program}{K:Nat->Prop}{B:Nat}{ρ:Rho}{h:Nat->Option CO}{t:Tr CO}{w:World}(m:MK P K B ρ t w)(e:∀k,K k->t.get k=h k):MKF P K B ρ h w:=
 ⟨λk o hk ho=>m.obj k o hk ((e k hk).trans ho),λk k' o o' b n n' hk hk' ho ho'=>m.inj k k' o o' b n n' hk hk' ((e k hk).trans ho) ((e k' hk').trans ho')⟩
theorem MKF.congr{P:Program}{K:Nat->Prop}{B:Nat}{ρ:Rho}{h h':Nat->Option CO}{w:World}(m:MKF P K B ρ h w)(e:∀k,h' k=h k):MKF P K B ρ h' w:=by
 have:h'=h:=funext e;rw[this];exact m
structure D0(K:Nat->Prop)(B:Nat)(ρ0:Rho)(w0:World)(h0:Nat->Option CO)(n0 n1:Nat)(Rt Wt:Nat->Prop):Prop where
 R:∀x,Rt x->K x
 W:∀x,Wt x->K x
 up:∀x,n0<=x->K x
 base:B<=w0.heap.size
 fresh:∀x,n0<=x->x<n1->ρ0 x=none
structure DM(P:Program)(K:Nat->Prop)(B:Nat)(ρ0:Rho)(w0:World)(n0 n1:Nat)(Wt:Nat->Prop)(T:Nat->Option Tk)(S:Nat->Bool)(h:Nat->Option CO)(ρ:Rho)(w:World):Prop where
 ext:Le ρ0 ρ
 dom:∀x,(∀i k,S i=true->T i=some k->k.s.nx<=x->x<k.s'.nx->False)->ρ x=ρ0 x
 mem:MKF P K B ρ h w
 size:w0.heap.size<=w.heap.size
 os:w.os=w0.os
 tape:w.tape=w0.tape
 out:w.output=w0.output
 frame:∀b,b<w0.heap.size->(∀k n,Wt k->ρ0 k=some (b,n)->False)->w.heap[b]? =w0.heap[b]?
 newb:∀k b n,n0<=k->k<n1->ρ k=some (b,n)->w0.heap.size<=b\/∃j n',Wt j/\ρ0 j=some (b,n')
def Ki(k:Tk)(x:Nat):Prop:=k.s'.R.testBit x=true\/k.s'.W.testBit x=true\/k.s.nx<=x
section
variable{P:Program}{l:List Oper}{n:Nat}{q:Option Nat}{T:Nat->Option Tk}{e0:Nat->Option CV}{h0:Nat->Option CO}{n0 n1:Nat}{Rt Wt:Nat->Prop}
variable{K:Nat->Prop}{B:Nat}{ρ0:Rho}{w0:World}{S:Nat->Bool}{h:Nat->Option CO}{ρ:Rho}{w:World}
theorem Ki.inK(t:TOk P l n q T e0 h0 n0 n1 Rt Wt)(c:D0 K B ρ0 w0 h0 n0 n1 Rt Wt){i:Nat}{k:Tk}(hk:T i=some k){x:Nat}(hx:Ki k x):K x:=by
 obtain⟨h1,h2⟩:=t.cov i k hk;rcases hx with hx | hx | hx
 ·exact c.R x (h1 x hx)
 ·exact c.W x (h2 x hx)
 ·exact c.up x (Nat.le_trans (t.nxs i k hk).1 hx)
theorem DM.pre(t:TOk P l n q T e0 h0 n0 n1 Rt Wt)(c:D0 K B ρ0 w0 h0 n0 n1 Rt Wt)(d:DM P K B ρ0 w0 n0 n1 Wt T S h ρ w){i:Nat}{k:Tk}(hk:T i=some k)(hi:S i=false)(hh:∀x,(k.s'.R.testBit x=true\/k.s'.W.testBit x=true)->h x=k.s.h.get x):Pre P (Ki k) B ρ k.s k.s' w:=by
 refine⟨⟨λx hx=>.inl hx,λx hx=>.inr (.inl hx),λx hx=>.inr (.inr hx)⟩,?_,Nat.le_trans c.base d.size,λx h1 h2=>?_,t.wf i k hk⟩
 ·have key:∀x o,Ki k x->k.s.h.get x=some o->h x=some o:=λx o hx ho=>by
   have:=t.wf i k hk x o ho;rcases hx with hx | hx | hx
   ·rw[hh x (.inl hx)];exact ho
   ·rw[hh x (.inr hx)];exact ho
   ·omega
  exact⟨λx o hx ho=>d.mem.obj x o (Ki.inK t c hk hx) (key x o hx ho),λx x' o o' b m m' hx hx' ho ho'=>d.mem.inj x x' o o' b m m' (Ki.inK t c hk hx) (Ki.inK t c hk hx') (key x o hx ho) (key x' o' hx' ho')⟩
 ·rw[d.dom x λj kj hj hkj h3 h4=>?_]
  ·obtain⟨h3,h4⟩:=t.nxs i k hk;exact c.fresh x Yb Yb
  ·have:=t.own j i kj k x hkj hk h3 h4 h1 h2;subst this;rw[hi] at hj;cases hj
theorem DM.step(t:TOk P l n q T e0 h0 n0 n1 Rt Wt)(c:D0 K B ρ0 w0 h0 n0 n1 Rt Wt)(d:DM P K B ρ0 w0 n0 n1 Wt T S h ρ w){i:Nat}{k:Tk}(hk:T i=some k)(hi:S i=false)(hh:∀x,(k.s'.R.testBit x=true\/k.s'.W.testBit x=true)->h x=k.s.h.get x)
  {ρ2:Rho} {w2:World} (g:Go1 P (Ki k) B ρ k.s w ρ2 k.s' w2):DM P K B ρ0 w0 n0 n1 Wt T (addS S i) (λx=>if k.s'.W.testBit x=true then k.s'.h.get x else h x) ρ2 w2:=by
 have p:=d.pre t c hk hi hh;have ev:=t.ev i k hk;have zW:=t.zero i k hk;obtain⟨nx1,nx2⟩:=t.nxs i k hk;obtain⟨cR,cW⟩:=t.cov i k hk;have wf':=ev.wf (t.wf i k hk);have old:∀j b m,k.s'.W.testBit j=true->ρ j=some (b,m)->∃o,h j=some o:=λj b m hj hρ=>by
  have hlt:j<k.s'.nx:=ev.wb (t.wf i k hk) (λx hx=>by rw[zW] at hx;simp at hx) j hj;have hlt2:j<k.s.nx:=by
   rcases Nat.lt_or_ge j k.s.nx with h1 | h1
   ·exact h1
   ·rw[p.fresh j h1 hlt] at hρ;cases hρ
  rcases ev.was j hlt2 hj with h1 | ⟨o,h1⟩
  ·rw[zW] at h1;simp at h1
  ·exact⟨o,by rw[hh j (.inr hj)];exact h1⟩
 have Kw:∀j,k.s'.W.testBit j=true->K j:=λj hj=>c.W j (cW j hj);have known:∀x o,K x->k.s'.W.testBit x=false->h x=some o->∃b m ob,ρ x=some (b,m)/\B<=b/\w2.heap[b]? =some ob/\OR P ρ m o ob/\b<w.heap.size:=λx o hK hx ho=>by
  obtain⟨b,m,ob,h1,h2,h3,h4⟩:=d.mem.obj x o hK ho;have hb:b<w.heap.size:=by
   rcases Nat.lt_or_ge b w.heap.size with h5 | h5
   ·exact h5
   ·rw[Array.getElem?_eq_none h5] at h3;cases h3
  refine⟨b,m,ob,h1,h2,?_,h4,hb⟩;rw[g.frame b hb λj m' hj hρ=>?_]
  ·exact h3
  ·obtain⟨o',ho'⟩:=old j b m' hj hρ;have:=d.mem.inj x j o o' b m m' hK (Kw j hj) ho ho' h1 hρ;subst this;rw[hj] at hx;cases hx
 have backρ:∀x b m,ρ2 x=some (b,m)->ρ x=some (b,m)\/(k.s.nx<=x/\x<k.s'.nx):=λx b m hx=>by
  by_cases hr:x<k.s.nx\/k.s'.nx<=x
  ·rw[g.dom x hr] at hx;exact .inl hx
  ·exact .inr Yb
 have notNew:∀x b m,ρ x=some (b,m)->¬(k.s.nx<=x/\x<k.s'.nx):=λx b m hx ⟨h1,h2⟩=>by
  rw[p.fresh x h1 h2] at hx;cases hx
 have mix:∀x y o' b m m',K x->K y->k.s'.W.testBit x=true->k.s'.W.testBit y=false->h y=some o'->ρ2 x=some (b,m)->ρ2 y=some (b,m')->False:=λx y o' b m m' hKx hKy hx hy ho' h1 h2=>by
  obtain⟨b',m'',ob,e1,e2,e3,e4,e5⟩:=known y o' hKy hy ho';have:=g.ext y _ e1;rw[this] at h2;cases h2;have viaOld:∀z mz,k.s'.W.testBit z=true->ρ z=some (b,mz)->False:=λz mz hz hρ=>by
   obtain⟨o2,ho2⟩:=old z b mz hz hρ;have:=d.mem.inj z y o2 o' b mz m' (Kw z hz) hKy ho2 ho' hρ e1;subst this;rw[hz] at hy;cases hy
  rcases backρ x b m h1 with h3 | ⟨h3,h4⟩
  ·exact viaOld x m hx h3
  ·rcases g.newb x b m h3 h4 h1 with h5 | ⟨j,mj,h5,h6⟩
   ·omega
   ·exact viaOld j mj h5 h6
 refine⟨d.ext.trans g.ext,λx hx=>?_,⟨λx o hK ho=>?_,λx y o o' b m m' hKx hKy ho ho' h1 h2=>?_⟩,Nat.le_trans d.size g.size,g.os.trans d.os,g.tape.trans d.tape,g.out.trans d.out,λb hb hf=>?_,λx b m h1 h2 h3=>?_⟩
 ·have hr:x<k.s.nx\/k.s'.nx<=x:=by
   rcases Nat.lt_or_ge x k.s.nx with h1 | h1
   ·exact .inl h1
   ·rcases Nat.lt_or_ge x k.s'.nx with h2 | h2
    ·exact absurd (hx i k (by simp[addS]) hk h1 h2) id
    ·exact .inr h2
  rw[g.dom x hr];refine d.dom x λj kj hj hkj=>hx j kj ?_ hkj;unfold addS;split
  ·rfl
  ·exact hj
 ·by_cases hW:k.s'.W.testBit x=true
  ·simp only[hW,if_true] at ho;exact g.mem.obj x o (.inr (.inl hW)) ho
  ·simp only[hW,if_false] at ho;obtain⟨b,m,ob,e1,e2,e3,e4,_⟩:=known x o hK (by simpa using hW) (by simpa using ho);exact⟨b,m,ob,g.ext x _ e1,e2,e3,e4.le g.ext⟩
 ·by_cases hW:k.s'.W.testBit x=true
  ·by_cases hW':k.s'.W.testBit y=true
   ·simp only[hW,hW',if_true] at ho ho';exact g.mem.inj x y o o' b m m' (.inr (.inl hW)) (.inr (.inl hW')) ho ho' h1 h2
   ·simp only[hW',if_false] at ho';exact (mix x y o' b m m' hKx hKy hW (by simpa using hW') (by simpa using ho') h1 h2).elim
  ·simp only[hW,if_false] at ho;by_cases hW':k.s'.W.testBit y=true
   ·exact (mix y x o b m' m hKy hKx hW' (by simpa using hW) (by simpa using ho) h2 h1).elim
   ·simp only[hW',if_false] at ho';obtain⟨b1,m1,ob1,e1,_⟩:=known x o hKx (by simpa using hW) (by simpa using ho);obtain⟨b2,m2,ob2,e2,_⟩:=known y o' hKy (by simpa using hW') (by simpa using ho');rw[g.ext x _ e1] at h1;cases h1;rw[g.ext y _ e2] at h2;cases h2;exact d.mem.inj x y o o' b m m' hKx hKy (by simpa using ho) (by simpa using ho') e1 e2
 ·have h1:=d.frame b hb hf;rw[<-h1];refine g.frame b (Nat.lt_of_lt_of_le hb d.size) λj m hj hρ=>?_;by_cases hn:n0<=j/\j<n1
  ·rcases d.newb j b m hn.1 hn.2 hρ with h2 | ⟨j',m',h2,h3⟩
   ·omega
   ·exact hf j' m' h2 h3
  ·rw[d.dom j λi' k' h2 h3 h4 h5=>hn ⟨Nat.le_trans (t.nxs i' k' h3).1 h4,Nat.lt_of_lt_of_le h5 (t.nxs i' k' h3).2⟩] at hρ;exact hf j m (cW j hj) hρ
 ·rcases backρ x b m h3 with h4 | ⟨h4,h5⟩
  ·exact d.newb x b m h1 h2 h4
  ·rcases g.newb x b m h4 h5 h3 with h6 | ⟨j,mj,h6,h7⟩
   ·exact .inl (Nat.le_trans d.size h6)
   ·by_cases hn:n0<=j/\j<n1
    ·exact d.newb j b mj hn.1 hn.2 h7
    ·rw[d.dom j λi' k' h2 h3 h4 h5=>hn ⟨Nat.le_trans (t.nxs i' k' h3).1 h4,Nat.lt_of_lt_of_le h5 (t.nxs i' k' h3).2⟩] at h7;exact .inr ⟨j,mj,cW j h6,h7⟩
end
structure DA(l:List Oper)(q:Option Nat)(T:Nat->Option Tk)(e0:Nat->Option CV)(n:Nat)(ds:List Deferred)(S:Nat->Bool)(ρ:Rho)(a:Act):Prop where
 tm:a.tmps.size=n
 env:∀t x,lastF (wrE l q T) S e0 l.length t=some x->CR ρ x (a.tmps.getD t undef)
 ds:a.defers=ds
section
variable{P:Program}{l:List Oper}{n:Nat}{q:Option Nat}{T:Nat->Option Tk}{e0:Nat->Option CV}{h0:Nat->Option CO}{n0 n1:Nat}{Rt Wt:Nat->Prop}
variable{K:Nat->Prop}{B:Nat}{ρ0:Rho}{w0:World}{ds:List Deferred}{rr:Option Nat}{Q:Exit->Act->World->Prop}
theorem DA.envc(t:TOk P l n q T e0 h0 n0 n1 Rt Wt){S:Nat->Bool}{ρ:Rho}{a:Act}(d:DA l q T e0 n ds S ρ a)(hS:ShutS l S){i:Nat}{o:Oper}{k:Tk}(ho:l[i]? =some o)(hk:T i=some k)(hm:∀j,((masks l []).getD i 0).testBit j=true->S j=true)(hi:S i=false):EnvC ρ (k.env.restr λt=>(looks l o).contains t) a:=by
 intro x v hv;rw[Tr.get_restr] at hv;split at hv
 ·rename_i hc;exact d.env x v (by rw[t.envEq hS ho hk hm hi (by simpa using hc)];exact hv)
 ·cases hv
theorem DA.put(t:TOk P l n q T e0 h0 n0 n1 Rt Wt){S:Nat->Bool}{ρ ρ2:Rho}{a:Act}(d:DA l q T e0 n ds S ρ a)(hS:ShutS l S){i:Nat}{o:Oper}{k:Tk}(ho:l[i]? =some o)(hk:T i=some k)(hi:S i=false)(hne:q≠some i)(hl:Le ρ ρ2){v:Value}(hx:CR ρ2 k.x v):DA l q T e0 n ds (addS S i) ρ2 (a.put o.dst v):=by
 refine⟨by rw[tmps_put_size];exact d.tm,λx y hy=>?_,by rw[put_defers];exact d.ds⟩;rw[t.envAdd hS ho hk hi hne] at hy;split at hy
 ·rename_i hd;cases hy;rw[hd,tmps_put_same (by rw[d.tm];exact t.dst i o k x ho hk hne hd)];exact hx
 ·rename_i hd;have hget:(a.put o.dst v).tmps.getD x undef=a.tmps.getD x undef:=by
   cases hod:o.dst with
   | none=>rfl
   | some dd=>exact tmps_put_other λe=>hd (by rw[hod,e])
  rw[hget];exact (d.env x y hy).le hl
theorem draw_run(t:TOk P l n q T e0 h0 n0 n1 Rt Wt)(c:D0 K B ρ0 w0 h0 n0 n1 Rt Wt)
  (hQn:q=none->∀ρ a w,DM P K B ρ0 w0 n0 n1 Wt T (λi=>Nat.blt i l.length) (lastF (wrH q T) (λ_=>true) h0 l.length) ρ w->DA l q T e0 n ds (λ_=>true) ρ a->Q .normal a w)
  (hQp:∀i k,q=some i->T i=some k->∀S ρ ρ2 a w v,DM P K B ρ0 w0 n0 n1 Wt T (addS S i) (λx=>k.s'.h.get x) ρ2 w->DA l q T e0 n ds S ρ a->Le ρ ρ2->CR ρ2 k.x v->Q (.panic [{v:=v,recovered:=false}]) a w)
  (c0:Ctx) {ρ:Rho} {a:Act} {w:World} (d:DM P K B ρ0 w0 n0 n1 Wt T (λi=>Nat.blt i 0) (lastF (wrH q T) (λi=>Nat.blt i 0) h0 l.length) ρ w) (e:DA l q T e0 n ds (λi=>Nat.blt i 0) ρ a):KD c0 rr P l Q 0 a w:=by
 refine KD.any (J:=λS a w=>(∀i,q=some i->S i=false)/\∃ρ,DM P K B ρ0 w0 n0 n1 Wt T S (lastF (wrH q T) S h0 l.length) ρ w/\DA l q T e0 n ds S ρ a) t.back (λi h1 h2=>by omega) (Nat.zero_le _) (Nat.le_refl _) ?_ ?_ ⟨λi _=>rfl,ρ,d,e⟩
 ·rintro S i o a w ho _ hlt hshut hanc h1 ⟨hq,ρ,d,e⟩;obtain⟨k,hk⟩:∃k,T i=some k:=by
   cases hT:T i with
   | some k=>exact⟨k,rfl⟩
   | none=>
    exfalso;obtain⟨j,hj,hj2⟩:=t.all i hlt hT;have:=hanc j hj2;rw[hq j hj] at this;cases this
  have go:q≠some i->∀(ρ2:Rho) (v:Value) (w2:World),Go1 P (Ki k) B ρ k.s w ρ2 k.s' w2->CR ρ2 k.x v->(∀j,q=some j->addS S i j=false)/\∃ρ,DM P K B ρ0 w0 n0 n1 Wt T (addS S i) (lastF (wrH q T) (addS S i) h0 l.length) ρ w2/\DA l q T e0 n ds (addS S i) ρ (a.put o.dst v):=by
   intro hne ρ2 v w2 g hx;have d2:=d.step t c hk h1 (λx hx=>t.memEq hshut ho hk hanc h1 hx) g;exact⟨λj hj=>by rw[addS_other λe=>hne (by rw[<-e];exact hj)];exact hq j hj,ρ2,⟨d2.ext,d2.dom,d2.mem.congr λx=>t.memAdd hshut ho hk h1 hne x,d2.size,d2.os,d2.tape,d2.out,d2.frame,d2.newb⟩,e.put t hshut ho hk h1 hne g.ext hx⟩
  have pre:=d.pre t c hk h1 (λx hx=>t.memEq hshut ho hk hanc h1 hx);have envc:=e.envc t hshut ho hk hanc h1;have agree:∀x∈looks l o,(k.env.restr λt=>(looks l o).contains t).get x=k.env.get x:=λx hx=>by
   rw[Tr.get_restr,if_pos YaC]
  unfold wpOpIn;simp only[show l.toArray[i]? =some o by simpa using ho];rcases t.sound i o k ho hk with⟨hne,hg,hx,hs⟩ | ⟨hg,hop⟩
  ·rw[guard_sound (hg _ agree) envc,if_neg Yn];refine⟨λ_ _=>trivial,go hne ρ undef w ?_ ?_⟩
   ·rw[hs];exact Go1.refl pre.mem
   ·rw[hx];exact .tup _ _ .nil
  ·rw[guard_sound (hg _ agree) envc,if_pos rfl];have hop:=hop _ agree;by_cases hqi:q=some i
   ·rw[if_pos hqi] at hop;refine hop.2 (Ki k) B ρ rr a w pre envc _ Q (λ_ _ h=>h.elim) ?_;rintro ch w2 ⟨ρ2,v,rfl,g,hx⟩;have d2:=d.step t c hk h1 (λx hx=>t.memEq hshut ho hk hanc h1 hx) g;refine hQp i k hqi hk _ ρ ρ2 a w2 v ⟨d2.ext,d2.dom,d2.mem.congr λx=>?_,d2.size,d2.os,d2.tape,d2.out,d2.frame,d2.newb⟩ e g.ext hx;split
    ·rfl
    ·rename_i hW;rw[(t.ev i k hk).keep x (by simpa using hW)];have hil:=t.len i k hk;rw[t.memAt i k hk x, <-lastF_upto (m:=l.length) Yb];refine (lastF_same λj hj hw=>?_).symm;obtain⟨kj,hkj,hd,hqj⟩:=wrH_some hw;obtain⟨h4,h5⟩:=t.idle i j kj x hqi hkj (λe=>hqj (by rw[e];exact hqi)) hd;rw[hanc j h5];exact (Nat.ble_eq_true_of_le h4).symm
   ·rw[if_neg hqi] at hop;exact hop.2 (Ki k) B ρ rr a w pre envc _ Q (λv w2 ⟨ρ2,g,hx⟩=>go hqi ρ2 v w2 g hx) (λ_ _ h=>h.elim)
 ·rintro a w ⟨hq,ρ,d,e⟩;have all:∀j,j<l.length->Nat.blt j l.length=true:=λj hj=>blt_lt hj;have hqn:q=none:=by
   cases hq':q with
   | none=>rfl
   | some i=>
    obtain⟨k,hk⟩:=t.qin i hq';have h1:Nat.blt i l.length=false:=hq i hq';rw[all i (t.len i k hk)] at h1;cases h1
  refine KD.done (hQn hqn ρ a w ⟨d.ext,d.dom,d.mem.congr λx=>?_,d.size,d.os,d.tape,d.out,d.frame,d.newb⟩ ⟨e.tm,λx y hy=>e.env x y ?_,e.ds⟩)
  ·exact lastF_same λj hj _=>(all j hj).symm
  ·rw[<-hy];exact lastF_same λj hj _=>all j hj
end
theorem lastF_congr{β:Type}{wr wr':Nat->Nat->Option β}{S:Nat->Bool}{z:Nat->β}{t:Nat}:∀{m:Nat},(∀j,j<m->wr j t=wr' j t)->lastF wr S z m t=lastF wr' S z m t
 | 0,_=>rfl
 | m+1,h=>by
  unfold lastF;rw[h m Yb,lastF_congr (m:=m) λj hj=>h j Yb]
def updT(T:Nat->Option Tk)(i:Nat)(k:Tk):Nat->Option Tk:=λj=>if j=i then some k else T j
theorem updT_cases{T:Nat->Option Tk}{i j:Nat}{k kj:Tk}(h:updT T i k j=some kj):(j=i/\kj=k)\/(j≠i/\T j=some kj):=by
 unfold updT at h;split at h
 ·rename_i e;cases h;exact .inl ⟨e,rfl⟩
 ·rename_i e;exact .inr ⟨e,h⟩
theorem apart_spec{m R W:Nat}:∀{lg:List Lg},apart m R W lg=true->∀j R' W',⟨j,R',W'⟩∈lg->(∀x,W.testBit x=true->R'.testBit x=true\/W'.testBit x=true->m.testBit j=true)/\(∀x,R.testBit x=true->W'.testBit x=true->m.testBit j=true)
 | [],_,j,R',W',h=>by cases h
 | ⟨j0,R0,W0⟩::lg,ha,j,R',W',h=>by
  unfold apart at ha;cases hc:(m.testBit j0 || (Nat.beq (Nat.land W (Nat.lor R0 W0)) 0 && Nat.beq (Nat.land R W0) 0)) with
  | false=>rw[hc] at ha;cases ha
  | true=>
   rw[hc,bif_t] at ha;rcases List.mem_cons.1 h with e | h
   ·cases e;rcases (Bool.or_eq_true _ _).mp hc with h1 | h1
    ·exact⟨λ_ _ _=>h1,λ_ _ _=>h1⟩
    ·obtain⟨h2,h3⟩:=(Bool.and_eq_true _ _).mp h1;have h2:W &&& (R0 ||| W0)=0:=beq_of h2;have h3:R &&& W0=0:=beq_of h3;refine⟨λx h4 h5=>?_,λx h4 h5=>?_⟩
     ·have:=congrArg (λz=>z.testBit x) h2;simp only[Nat.testBit_and,Nat.testBit_or,Nat.zero_testBit,h4,Bool.true_and] at this;rcases h5 with h5 | h5 <;> simp[h5] at this
     ·have:=congrArg (λz=>z.testBit x) h3;simp[h4,h5] at this
   ·exact apart_spec ha j R' W' h
theorem idle_spec{m:Nat}:∀{lg:List Lg},idle m lg=true->∀j R' W',⟨j,R',W'⟩∈lg->∀x,W'.testBit x=true->m.testBit j=true
 | [],_,j,R',W',h=>by cases h
 | ⟨j0,R0,W0⟩::lg,ha,j,R',W',h=>by
  unfold idle at ha;cases hc:(m.testBit j0 || Nat.beq W0 0) with
  | false=>rw[hc] at ha;cases ha
  | true=>
   rw[hc,bif_t] at ha;rcases List.mem_cons.1 h with e | h
   ·cases e;intro x hx;rcases (Bool.or_eq_true _ _).mp hc with h1 | h1
    ·exact h1
    ·rw[beq_of h1] at hx;simp at hx
   ·exact idle_spec ha j R' W' h
structure PR(P:Program)(l:List Oper)(n:Nat)(e0:Nat->Option CV)(h0:Nat->Option CO)(n0:Nat)(q:Option Nat)(T:Nat->Option Tk)(i:Nat)(env:Tr CV)(h:Tr CO)(nx n1 R W:Nat)(lg:List Lg):Prop where
 len:∀j k,T j=some k->j<i
 sound:∀i o k,l[i]? =some o->T i=some k->(q≠some i/\(∀e',(∀t∈looks l o,e'.get t=k.env.get t)->guardV l e' o=some false)/\k.x= .tup []/\k.s'=k.s)\/((∀e',(∀t∈looks l o,e'.get t=k.env.get t)->guardV l e' o=some true)/\∀e',(∀t∈looks l o,e'.get t=k.env.get t)->OpOk P e' o k.s (if q=some i then .pan k.x k.s' else .ok k.x k.s'))
 zero:∀i k,T i=some k->k.s.W=0
 ev:∀i k,T i=some k->Ev k.s k.s'
 dst:∀i o k d,l[i]? =some o->T i=some k->q≠some i->o.dst=some d->d<n
 envAt:∀i k,T i=some k->∀t,k.env.get t=lastF (wrE l q T) (λ_=>true) e0 i t
 memAt:∀i k,T i=some k->∀j,k.s.h.get j=lastF (wrH q T) (λ_=>true) h0 i j
 wf:∀i k,T i=some k->∀j o,k.s.h.get j=some o->j<k.s.nx
 ordH1:∀j i kj ki,j<i->T j=some kj->T i=some ki->∀k,ki.s'.W.testBit k=true->kj.s'.R.testBit k=true\/kj.s'.W.testBit k=true->((masks l []).getD i 0).testBit j=true
 ordH2:∀j i kj ki,j<i->T j=some kj->T i=some ki->∀k,ki.s'.R.testBit k=true->kj.s'.W.testBit k=true->((masks l []).getD i 0).testBit j=true
 nxs:∀i k,T i=some k->n0<=k.s.nx/\k.s'.nx<=n1
 own:∀j i kj ki x,T j=some kj->T i=some ki->kj.s.nx<=x->x<kj.s'.nx->ki.s.nx<=x->x<ki.s'.nx->j=i
 cov:∀i k,T i=some k->(∀j,k.s'.R.testBit j=true->R.testBit j=true)/\∀j,k.s'.W.testBit j=true->W.testBit j=true
 idle:∀i j k x,q=some i->T j=some k->j≠i->k.s'.W.testBit x=true->j<i/\((masks l []).getD i 0).testBit j=true
 all:∀j,j<i->T j=none->∃z,q=some z/\((masks l []).getD j 0).testBit z=true
 curE:∀t,env.get t=lastF (wrE l q T) (λ_=>true) e0 i t
 curH:∀j,h.get j=lastF (wrH q T) (λ_=>true) h0 i j
 curW:∀j o,h.get j=some o->j<nx
 lgs:∀j k,T j=some k->∀x,k.s'.R.testBit x=true\/k.s'.W.testBit x=true->⟨j,k.s'.R,k.s'.W⟩∈lg
 nx0:n0<=nx
 nx1:nx<=n1
section
variable{P:Program}{l:List Oper}{n:Nat}{q:Option Nat}{T:Nat->Option Tk}{e0:Nat->Option CV}{h0:Nat->Option CO}{n0 nx n1 i R W:Nat}{env:Tr CV}{h:Tr CO}{lg:List Lg}
theorem wrE_upd{j t:Nat}{k:Tk}(hj:j≠i):wrE l q (updT T i k) j t=wrE l q T j t:=by
 unfold wrE updT;rw[if_neg hj]
theorem wrH_upd{j t:Nat}{k:Tk}(hj:j≠i):wrH q (updT T i k) j t=wrH q T j t:=by
 unfold wrH updT;rw[if_neg hj]
theorem PR.add(p:PR P l n e0 h0 n0 q T i env h nx n1 R W lg){o:Oper}{x:CV}{R0 R' W' nx' n1' R2 W2:Nat}{h':Tr CO}{env':Tr CV}{lg':List Lg}(ho:l[i]? =some o)(hq:q≠some i)
  (hs:((∀e',(∀t∈looks l o,e'.get t=env.get t)->guardV l e' o=some false)/\x= .tup []/\(⟨h',nx',R',W'⟩:S)=⟨h,nx,R0,0⟩)\/((∀e',(∀t∈looks l o,e'.get t=env.get t)->guardV l e' o=some true)/\∀e',(∀t∈looks l o,e'.get t=env.get t)->OpOk P e' o ⟨h,nx,R0,0⟩ (.ok x ⟨h',nx',R',W'⟩)))
  (hev:Ev ⟨h,nx,R0,0⟩ ⟨h',nx',R',W'⟩) (hput:putE n o.dst x env=some env') (hap:apart ((masks l []).getD i 0) R' W' lg=true) (hn:nx=n1/\n1'=nx'\/nx'=nx/\n1'=n1)
  (hid:∀z,q=some z->W'=0) (hlg:∀x∈lg,x∈lg') (hlg':∀x,R'.testBit x=true\/W'.testBit x=true->⟨i,R',W'⟩∈lg') (hR:∀x,R.testBit x=true\/R'.testBit x=true->R2.testBit x=true) (hW:∀x,W.testBit x=true\/W'.testBit x=true->W2.testBit x=true):
  PR P l n e0 h0 n0 q (updT T i ⟨x,env,⟨h,nx,R0,0⟩,⟨h',nx',R',W'⟩⟩) (i+1) env' h' nx' n1' R2 W2 lg':=by
 have hTi:T i=none:=by
  cases hT:T i with
  | none=>rfl
  | some k=>have:=p.len i k hT;omega
 have hnx:nx<=nx':=hev.nx;have p1:=p.nx1;have p0:=p.nx0;have hdst:∀d,o.dst=some d->d<n:=λd hd=>by
  rw[hd] at hput;simp only[putE] at hput;cases hb:Nat.blt d n with
  | false=>rw[hb] at hput;cases hput
  | true=>exact blt_of hb
 have lE:∀m t,m<=i->lastF (wrE l q (updT T i ⟨x,env,⟨h,nx,R0,0⟩,⟨h',nx',R',W'⟩⟩)) (λ_=>true) e0 m t=lastF (wrE l q T) (λ_=>true) e0 m t:=λm t hm=>lastF_congr λj hj=>wrE_upd Yb;have lH:∀m t,m<=i->lastF (wrH q (updT T i ⟨x,env,⟨h,nx,R0,0⟩,⟨h',nx',R',W'⟩⟩)) (λ_=>true) h0 m t=lastF (wrH q T) (λ_=>true) h0 m t:=λm t hm=>lastF_congr λj hj=>wrH_upd Yb;refine⟨?_,?_,?_,?_,?_,?_,?_,?_,?_,?_,?_,?_,?_,?_,?_,?_,?_,?_,?_,Yb,Yb⟩
 ·intro j k hk;rcases updT_cases hk with⟨rfl,rfl⟩ | ⟨_,hk⟩
  ·omega
  ·have:=p.len j k hk;omega
 ·intro j oj k hoj hk;rcases updT_cases hk with⟨rfl,rfl⟩ | ⟨_,hk⟩
  ·rw[ho] at hoj;cases hoj;rcases hs with⟨h1,h2,h3⟩ | ⟨h1,h2⟩
   ·exact .inl ⟨hq,h1,h2,h3⟩
   ·exact .inr ⟨h1,λe' he=>by rw[if_neg hq];exact h2 e' he⟩
  ·exact p.sound j oj k hoj hk
 ·intro j k hk;rcases updT_cases hk with⟨rfl,rfl⟩ | ⟨_,hk⟩
  ·rfl
  ·exact p.zero j k hk
 ·intro j k hk;rcases updT_cases hk with⟨rfl,rfl⟩ | ⟨_,hk⟩
  ·exact hev
  ·exact p.ev j k hk
 ·intro j oj k d hoj hk hne hd;rcases updT_cases hk with⟨rfl,rfl⟩ | ⟨_,hk⟩
  ·rw[ho] at hoj;cases hoj;exact hdst d hd
  ·exact p.dst j oj k d hoj hk hne hd
 ·intro j k hk t;rcases updT_cases hk with⟨rfl,rfl⟩ | ⟨_,hk⟩
  ·rw[lE _ _ (Nat.le_refl _)];exact p.curE t
  ·rw[lE _ _ Yaz];exact p.envAt j k hk t
 ·intro j k hk t;rcases updT_cases hk with⟨rfl,rfl⟩ | ⟨_,hk⟩
  ·rw[lH _ _ (Nat.le_refl _)];exact p.curH t
  ·rw[lH _ _ Yaz];exact p.memAt j k hk t
 ·intro j k hk;rcases updT_cases hk with⟨rfl,rfl⟩ | ⟨_,hk⟩
  ·exact p.curW
  ·exact p.wf j k hk
 ·intro j i' kj ki hlt hkj hki;rcases updT_cases hkj with⟨rfl,rfl⟩ | ⟨_,hkj2⟩
  ·rcases updT_cases hki with⟨rfl,rfl⟩ | ⟨_,hki⟩
   ·omega
   ·have:=p.len i' ki hki;omega
  ·rcases updT_cases hki with⟨rfl,rfl⟩ | ⟨_,hki⟩
   ·intro z hz hz2;exact (apart_spec hap j _ _ (p.lgs j kj hkj2 z hz2)).1 z hz hz2
   ·exact p.ordH1 j i' kj ki hlt hkj2 hki
 ·intro j i' kj ki hlt hkj hki;rcases updT_cases hkj with⟨rfl,rfl⟩ | ⟨_,hkj2⟩
  ·rcases updT_cases hki with⟨rfl,rfl⟩ | ⟨_,hki⟩
   ·omega
   ·have:=p.len i' ki hki;omega
  ·rcases updT_cases hki with⟨rfl,rfl⟩ | ⟨_,hki⟩
   ·intro z hz hz2;exact (apart_spec hap j _ _ (p.lgs j kj hkj2 z (.inr hz2))).2 z hz hz2
   ·exact p.ordH2 j i' kj ki hlt hkj2 hki
 ·intro j k hk;rcases updT_cases hk with⟨rfl,rfl⟩ | ⟨_,hk⟩
  ·exact⟨p0,by show nx'<=n1';omega⟩
  ·have:=p.nxs j k hk;omega
 ·intro j i' kj ki z hkj hki;rcases updT_cases hkj with⟨rfl,rfl⟩ | ⟨_,hkj2⟩
  ·rcases updT_cases hki with⟨rfl,rfl⟩ | ⟨_,hki⟩
   ·intros;rfl
   ·intro a1 a2 a3 a4;simp only at a1 a2;have:=p.nxs i' ki hki;omega
  ·rcases updT_cases hki with⟨rfl,rfl⟩ | ⟨_,hki⟩
   ·intro a1 a2 a3 a4;simp only at a3 a4;have:=p.nxs j kj hkj2;omega
   ·exact p.own j i' kj ki z hkj2 hki
 ·intro j k hk;rcases updT_cases hk with⟨rfl,rfl⟩ | ⟨_,hk⟩
  ·exact⟨λz hz=>hR z (.inr hz),λz hz=>hW z (.inr hz)⟩
  ·exact⟨λz hz=>hR z (.inl ((p.cov j k hk).1 z hz)),λz hz=>hW z (.inl ((p.cov j k hk).2 z hz))⟩
 ·intro i' j k z hqi hk;rcases updT_cases hk with⟨rfl,rfl⟩ | ⟨_,hk⟩
  ·intro _ hz;simp only[hid i' hqi] at hz;simp at hz
  ·exact p.idle i' j k z hqi hk
 ·intro j hj hT;by_cases e:j=i
  ·subst e;simp[updT] at hT
  ·refine p.all j Yb ?_;unfold updT at hT;rwa [if_neg e] at hT
 ·intro t;unfold lastF;rw[lE i t (Nat.le_refl _),if_pos rfl, <-p.curE t];unfold wrE updT;simp only[ho,if_true];cases hd:o.dst with
  | none=>
   rw[hd] at hput;simp only[putE,Option.some.injEq] at hput;subst hput;simp
  | some d=>
   rw[hd] at hput;simp only[putE] at hput;rw[show Nat.blt d n=true from Nat.ble_eq_true_of_le (hdst d hd),bif_t] at hput;rw[Tr.get_set _ _ _ _ _ hput t];by_cases e:t=d
   ·subst e;simp[hq]
   ·rw[if_neg e,if_neg λhh=>e (Option.some.inj hh.1).symm];rfl
 ·intro t;unfold lastF;rw[lH i t (Nat.le_refl _),if_pos rfl, <-p.curH t];unfold wrH updT;simp only[if_true];by_cases e:W'.testBit t=true
  ·simp[e,hq]
  ·have e':W'.testBit t=false:=by simpa using e
   simp only[e',Bool.false_eq_true,false_and,if_false,Option.getD_none];exact hev.keep t e'
 ·exact hev.wf p.curW
 ·intro j k hk z hz;rcases updT_cases hk with⟨rfl,rfl⟩ | ⟨_,hk⟩
  ·exact hlg' z hz
  ·exact hlg _ (p.lgs j k hk z hz)
theorem PR.off(p:PR P l n e0 h0 n0 q T i env h nx n1 R W lg){z:Nat}(hq:q=some z)(hm:((masks l []).getD i 0).testBit z=true):PR P l n e0 h0 n0 q T (i+1) env h nx n1 R W lg:=by
 have hTi:T i=none:=by
  cases hT:T i with
  | none=>rfl
  | some k=>have:=p.len i k hT;omega
 refine⟨λj k hk=>by have:=p.len j k hk;omega,p.sound,p.zero,p.ev,p.dst,p.envAt,p.memAt,p.wf,p.ordH1,p.ordH2,p.nxs,p.own,p.cov,p.idle,λj hj hT=>?_,λt=>?_,λt=>?_,p.curW,p.lgs,p.nx0,p.nx1⟩
 ·by_cases e:j=i
  ·subst e;exact⟨z,hq,hm⟩
  ·exact p.all j Yb hT
 ·unfold lastF;rw[if_pos rfl, <-p.curE t];have:wrE l q T i t=none:=by unfold wrE;rw[hTi];split <;> first | rfl | (rename_i h1;cases h1)
  rw[this];rfl
 ·unfold lastF;rw[if_pos rfl, <-p.curH t];have:wrH q T i t=none:=by unfold wrH;rw[hTi]
  rw[this];rfl
theorem PR.pan(p:PR P l n e0 h0 n0 none T i env h nx nx R W lg){o:Oper}{x:CV}{R' W' nx' R2 W2:Nat}{h':Tr CO}(ho:l[i]? =some o)
  (hg:∀e',(∀t∈looks l o,e'.get t=env.get t)->guardV l e' o=some true) (hop:∀e',(∀t∈looks l o,e'.get t=env.get t)->OpOk P e' o ⟨h,nx,0,0⟩ (.pan x ⟨h',nx',R',W'⟩))
  (hev:Ev ⟨h,nx,0,0⟩ ⟨h',nx',R',W'⟩) (hap:apart ((masks l []).getD i 0) R' W' lg=true) (hid:Go.Ev.idle ((masks l []).getD i 0) lg=true)
  (hR:∀x,R.testBit x=true\/R'.testBit x=true->R2.testBit x=true) (hW:∀x,W.testBit x=true\/W'.testBit x=true->W2.testBit x=true):
  PR P l n e0 h0 n0 (some i) (updT T i ⟨x,env,⟨h,nx,0,0⟩,⟨h',nx',R',W'⟩⟩) (i+1) env h nx nx' R2 W2 (⟨i,R',W'⟩::lg):=by
 have hTi:T i=none:=by
  cases hT:T i with
  | none=>rfl
  | some k=>have:=p.len i k hT;omega
 have hnx:nx<=nx':=hev.nx;have p0:=p.nx0;have cE:∀j t,j<i->wrE l (some i) (updT T i ⟨x,env,⟨h,nx,0,0⟩,⟨h',nx',R',W'⟩⟩) j t=wrE l none T j t:=λj t hj=>by
  rw[wrE_upd Yb];unfold wrE;simp[show ¬i=j by omega]
 have cH:∀j t,j<i->wrH (some i) (updT T i ⟨x,env,⟨h,nx,0,0⟩,⟨h',nx',R',W'⟩⟩) j t=wrH none T j t:=λj t hj=>by
  rw[wrH_upd Yb];unfold wrH;simp[show ¬i=j by omega]
 have lE:∀m t,m<=i->lastF (wrE l (some i) (updT T i ⟨x,env,⟨h,nx,0,0⟩,⟨h',nx',R',W'⟩⟩)) (λ_=>true) e0 m t=lastF (wrE l none T) (λ_=>true) e0 m t:=λm t hm=>lastF_congr λj hj=>cE j t Yb;have lH:∀m t,m<=i->lastF (wrH (some i) (updT T i ⟨x,env,⟨h,nx,0,0⟩,⟨h',nx',R',W'⟩⟩)) (λ_=>true) h0 m t=lastF (wrH none T) (λ_=>true) h0 m t:=λm t hm=>lastF_congr λj hj=>cH j t Yb;refine⟨?_,?_,?_,?_,?_,?_,?_,?_,?_,?_,?_,?_,?_,?_,?_,?_,?_,?_,?_,p0,hnx⟩
 ·intro j k hk;rcases updT_cases hk with⟨rfl,rfl⟩ | ⟨_,hk⟩
  ·omega
  ·have:=p.len j k hk;omega
 ·intro j oj k hoj hk;rcases updT_cases hk with⟨rfl,rfl⟩ | ⟨hne,hk⟩
  ·rw[ho] at hoj;cases hoj;exact .inr ⟨hg,λe' he=>by rw[if_pos rfl];exact hop e' he⟩
  ·have hne':(some i:Option Nat)≠some j:=λe=>hne (Option.some.inj e).symm;rcases p.sound j oj k hoj hk with⟨_,h1⟩ | ⟨h1,h2⟩
   ·exact .inl ⟨hne',h1⟩
   ·refine .inr ⟨h1,λe' he=>?_⟩;have:=h2 e' he;rw[if_neg Yn] at this;rw[if_neg hne'];exact this
 ·intro j k hk;rcases updT_cases hk with⟨rfl,rfl⟩ | ⟨_,hk⟩
  ·rfl
  ·exact p.zero j k hk
 ·intro j k hk;rcases updT_cases hk with⟨rfl,rfl⟩ | ⟨_,hk⟩
  ·exact hev
  ·exact p.ev j k hk
 ·intro j oj k d hoj hk hne hd;rcases updT_cases hk with⟨rfl,rfl⟩ | ⟨_,hk⟩
  ·exact absurd rfl hne
  ·exact p.dst j oj k d hoj hk Yn hd
 ·intro j k hk t;rcases updT_cases hk with⟨rfl,rfl⟩ | ⟨_,hk⟩
  ·rw[lE _ _ (Nat.le_refl _)];exact p.curE t
  ·rw[lE _ _ Yaz];exact p.envAt j k hk t
 ·intro j k hk t;rcases updT_cases hk with⟨rfl,rfl⟩ | ⟨_,hk⟩
  ·rw[lH _ _ (Nat.le_refl _)];exact p.curH t
  ·rw[lH _ _ Yaz];exact p.memAt j k hk t
 ·intro j k hk;rcases updT_cases hk with⟨rfl,rfl⟩ | ⟨_,hk⟩
  ·exact p.curW
  ·exact p.wf j k hk
 ·intro j i' kj ki hlt hkj hki;rcases updT_cases hkj with⟨rfl,rfl⟩ | ⟨_,hkj2⟩
  ·rcases updT_cases hki with⟨rfl,rfl⟩ | ⟨_,hki⟩
   ·omega
   ·have:=p.len i' ki hki;omega
  ·rcases updT_cases hki with⟨rfl,rfl⟩ | ⟨_,hki⟩
   ·intro z hz hz2;exact (apart_spec hap j _ _ (p.lgs j kj hkj2 z hz2)).1 z hz hz2
   ·exact p.ordH1 j i' kj ki hlt hkj2 hki
 ·intro j i' kj ki hlt hkj hki;rcases updT_cases hkj with⟨rfl,rfl⟩ | ⟨_,hkj2⟩
  ·rcases updT_cases hki with⟨rfl,rfl⟩ | ⟨_,hki⟩
   ·omega
   ·have:=p.len i' ki hki;omega
  ·rcases updT_cases hki with⟨rfl,rfl⟩ | ⟨_,hki⟩
   ·intro z hz hz2;exact (apart_spec hap j _ _ (p.lgs j kj hkj2 z (.inr hz2))).2 z hz hz2
   ·exact p.ordH2 j i' kj ki hlt hkj2 hki
 ·intro j k hk;rcases updT_cases hk with⟨rfl,rfl⟩ | ⟨_,hk⟩
  ·exact⟨p0,Nat.le_refl _⟩
  ·have:=p.nxs j k hk;omega
 ·intro j i' kj ki z hkj hki;rcases updT_cases hkj with⟨rfl,rfl⟩ | ⟨_,hkj2⟩
  ·rcases updT_cases hki with⟨rfl,rfl⟩ | ⟨_,hki⟩
   ·intros;rfl
   ·intro a1 a2 a3 a4;simp only at a1 a2;have:=p.nxs i' ki hki;omega
  ·rcases updT_cases hki with⟨rfl,rfl⟩ | ⟨_,hki⟩
   ·intro a1 a2 a3 a4;simp only at a3 a4;have:=p.nxs j kj hkj2;omega
   ·exact p.own j i' kj ki z hkj2 hki
 ·intro j k hk;rcases updT_cases hk with⟨rfl,rfl⟩ | ⟨_,hk⟩
  ·exact⟨λz hz=>hR z (.inr hz),λz hz=>hW z (.inr hz)⟩
  ·exact⟨λz hz=>hR z (.inl ((p.cov j k hk).1 z hz)),λz hz=>hW z (.inl ((p.cov j k hk).2 z hz))⟩
 ·intro i' j k z hqi hk;cases hqi;rcases updT_cases hk with⟨rfl,rfl⟩ | ⟨_,hk⟩
  ·intro h1;exact absurd rfl h1
  ·intro _ hz;exact⟨p.len j k hk,idle_spec hid j _ _ (p.lgs j k hk z (.inr hz)) z hz⟩
 ·intro j hj hT;by_cases e:j=i
  ·subst e;simp[updT] at hT
  ·obtain⟨z,hz,_⟩:=p.all j Yb (by unfold updT at hT;rwa [if_neg e] at hT);cases hz
 ·intro t;unfold lastF;rw[lE i t (Nat.le_refl _),if_pos rfl, <-p.curE t];unfold wrE updT;simp[ho]
 ·intro t;unfold lastF;rw[lH i t (Nat.le_refl _),if_pos rfl, <-p.curH t];unfold wrH updT;simp
 ·exact p.curW
 ·intro j k hk z hz;rcases updT_cases hk with⟨rfl,rfl⟩ | ⟨_,hk⟩
  ·exact .head _
  ·exact .tail _ (p.lgs j k hk z hz)
end
theorem lor_bit(a b j:Nat):(Nat.lor a b).testBit j=(a.testBit j || b.testBit j):=Nat.testBit_or a b j
theorem shl_bit(k j:Nat):(Nat.shiftLeft 1 k).testBit j=decide (k=j):=by
 have:=bit_lor 0 k j;rwa [show Nat.lor 0 (Nat.shiftLeft 1 k)=Nat.shiftLeft 1 k from Nat.zero_or _,Nat.zero_testBit,Bool.false_or] at this
theorem apart_zero(m:Nat):∀lg:List Lg,apart m 0 0 lg=true
 | []=>rfl
 | x::lg=>by unfold apart;rw[apart_zero m lg];simp
theorem tmBits_spec:∀(l:List Nat) (t:Nat),(tmBits l).testBit t=true↔t∈l
 | [],t=>by simp[tmBits]
 | x::l,t=>by
  unfold tmBits;rw[lor_bit,Bool.or_eq_true,tmBits_spec l t,shl_bit];simp only[decide_eq_true_eq,List.mem_cons];exact⟨λh=>h.imp Eq.symm id,λh=>h.imp Eq.symm id⟩
theorem dstBit_spec(d:Option Nat)(t:Nat):(dstBit d).testBit t=true↔d=some t:=by
 cases d with
 | none=>simp[dstBit]
 | some d=>unfold dstBit;rw[shl_bit];simp
def TmA(m j L D L' D':Nat):Prop:=(∀t,D'.testBit t=true->L.testBit t=true\/D.testBit t=true->m.testBit j=true)/\∀t,D.testBit t=true->L'.testBit t=true->m.testBit j=true
theorem tmApart_spec{m L D:Nat}:∀{tg:List Tm},tmApart m L D tg=true->∀j L' D',⟨j,L',D'⟩∈tg->TmA m j L D L' D'
 | [],_,j,R',W',h=>by cases h
 | ⟨j0,L0,D0⟩::tg,ha,j,L',D',h=>by
  unfold tmApart at ha;cases hc:(m.testBit j0 || (Nat.beq (Nat.land D0 (Nat.lor L D)) 0 && Nat.beq (Nat.land D L0) 0)) with
  | false=>rw[hc] at ha;cases ha
  | true=>
   rw[hc,bif_t] at ha;rcases List.mem_cons.1 h with e | h
   ·cases e;rcases (Bool.or_eq_true _ _).mp hc with h1 | h1
    ·exact⟨λ_ _ _=>h1,λ_ _ _=>h1⟩
    ·obtain⟨h2,h3⟩:=(Bool.and_eq_true _ _).mp h1;have h2:D0 &&& (L ||| D)=0:=beq_of h2;have h3:D &&& L0=0:=beq_of h3;refine⟨λx h4 h5=>?_,λx h4 h5=>?_⟩
     ·have:=congrArg (λz=>z.testBit x) h2;simp only[Nat.testBit_and,Nat.testBit_or,Nat.zero_testBit,h4,Bool.true_and] at this;rcases h5 with h5 | h5 <;> simp[h5] at this
     ·have:=congrArg (λz=>z.testBit x) h3;simp[h4,h5] at this
   ·exact tmApart_spec ha j L' D' h
theorem tmOk_spec{all:List Oper}:∀{l:List Oper} {i:Nat} {ms:List Nat} {tg:List Tm},tmOk all l i ms tg=true->∀a o,l[a]? =some o->∃m,ms[a]? =some m/\(∀d∈deps o,d<i+a)/\(∀j L' D',⟨j,L',D'⟩∈tg->TmA m j (tmBits (looks all o)) (dstBit o.dst) L' D')/\∀b ob,b<a->l[b]? =some ob->TmA m (i+b) (tmBits (looks all o)) (dstBit o.dst) (tmBits (looks all ob)) (dstBit ob.dst)
 | [],_,_,_,_,a,o,h=>by simp at h
 | o0::l,i,ms,tg,h,a,o,ho=>by
  unfold tmOk at h;cases ms with
  | nil=>cases h
  | cons m ms=>
   simp only at h;cases hc:(tmApart m (tmBits (looks all o0)) (dstBit o0.dst) tg && (deps o0).all λj=>Nat.blt j i) with
   | false=>rw[hc] at h;cases h
   | true=>
    rw[hc,bif_t] at h;obtain⟨h1,h2⟩:=(Bool.and_eq_true _ _).mp hc;cases a with
    | zero=>
     simp at ho;subst ho;refine⟨m,rfl,λd hd=>?_,tmApart_spec h1,λb ob hb=>by omega⟩;rw[List.all_eq_true] at h2;exact blt_of (h2 d hd)
    | succ a=>
     obtain⟨m',e1,e2,e3,e4⟩:=tmOk_spec h a o (by simpa using ho);refine⟨m',by simpa using e1,λd hd=>by have:=e2 d hd;omega,λj L' D' hj=>e3 j L' D' (.tail _ hj),λb ob hb hob=>?_⟩;cases b with
     | zero=>
      simp at hob;subst hob;exact e3 _ _ _ (.head _)
     | succ b=>
      have:=e4 b ob Yb (by simpa using hob);rwa [show i+1+b=i+(b+1) by omega] at this
theorem wipe_spec:∀{l:List Oper} {e e':Tr CV},wipe l e=some e'->∀t x,e'.get t=some x->e.get t=some x/\∀o∈l,o.dst≠some t
 | [],e,e',h,t,x,hx=>by
  simp only[wipe,Option.some.injEq] at h;subst h;exact⟨hx,λo ho=>by cases ho⟩
 | o::l,e,e',h,t,x,hx=>by
  unfold wipe at h;split at h
  ·rename_i hd;obtain⟨h1,h2⟩:=wipe_spec h t x hx;refine⟨h1,λo' ho'=>?_⟩;rcases List.mem_cons.1 ho' with rfl | ho'
   ·rw[hd];simp
   ·exact h2 o' ho'
  ·rename_i d hd;split at h
   ·rename_i e2 he2;obtain⟨h1,h2⟩:=wipe_spec h t x hx;rw[Tr.get_set _ _ _ _ _ he2] at h1;split at h1
    ·cases h1
    ·rename_i hne;refine⟨h1,λo' ho'=>?_⟩;rcases List.mem_cons.1 ho' with rfl | ho'
     ·rw[hd];intro e;cases e;exact hne rfl
     ·exact h2 o' ho'
   ·cases h
theorem guardV_congr{all:List Oper}{o:Oper}{e e':Tr CV}(h:∀t∈looks all o,e'.get t=e.get t):guardV all e' o=guardV all e o:=by
 unfold guardV;split
 ·rfl
 ·rename_i j want hg;split
  ·rename_i p hp;split
   ·rename_i d hd;rw[h d (by unfold looks;rw[hg];simp[hp,hd])]
   ·rfl
  ·rfl
theorem lastF_none{β:Type}{wr:Nat->Nat->Option β}{S:Nat->Bool}{z:Nat->β}{t:Nat}(h:∀j,wr j t=none):∀(m:Nat),lastF wr S z m t=z t
 | 0=>rfl
 | m+1=>by unfold lastF;rw[h m,lastF_none h m];simp
theorem Ev.lift{h h':Tr CO}{nx nx' R W R' W' R2 W2:Nat}(e:Ev ⟨h,nx,0,0⟩ ⟨h',nx',R',W'⟩)(hR:∀x,R.testBit x=true->R2.testBit x=true)(hW:∀x,W2.testBit x=true↔W.testBit x=true\/W'.testBit x=true):Ev ⟨h,nx,R,W⟩ ⟨h',nx',R2,W2⟩:=by
 refine⟨e.nx,hR,λk hk=>(hW k).2 (.inl hk),λk hk=>e.keep k ?_,λk hk hk2=>?_,e.wf,λhw hb k hk=>?_⟩
 ·cases hb:W'.testBit k with
  | false=>rfl
  | true=>simp only at hk;rw[(hW k).2 (.inr hb)] at hk;cases hk
 ·rcases (hW k).1 hk2 with h1 | h1
  ·exact .inl h1
  ·rcases e.was k hk h1 with h2 | h2
   ·simp at h2
   ·exact .inr h2
 ·rcases (hW k).1 hk with h1 | h1
  ·exact Nat.lt_of_lt_of_le (hb k h1) e.nx
  ·exact e.wb hw (λk hk=>by simp at hk) k h1
section
variable{P:Program}{r:Run}{l:List Oper}{n:Nat}{e0:Nat->Option CV}{h0:Nat->Option CO}{n0:Nat}
theorem PR.cong{q:Option Nat}{T:Nat->Option Tk}{i nx n1 R W:Nat}{env:Tr CV}{h h':Tr CO}{lg:List Lg}(p:PR P l n e0 h0 n0 q T i env h nx n1 R W lg)(e:∀j,h'.get j=h.get j):PR P l n e0 h0 n0 q T i env h' nx n1 R W lg:=
 ⟨p.len,p.sound,p.zero,p.ev,p.dst,p.envAt,p.memAt,p.wf,p.ordH1,p.ordH2,p.nxs,p.own,p.cov,p.idle,p.all,p.curE,λj=>(e j).trans (p.curH j),λj o h=>p.curW j o ((e j).symm.trans h),p.lgs,p.nx0,p.nx1⟩
theorem step_agree{o:Oper}{env e':Tr CV}(he:∀t∈looks l o,e'.get t=env.get t)(s:S):stepOp P r e' o s=stepOp P r env o s:=
 stepOp_congr (λx hx=>ev_congr λt e=>he t (mem_looks (by rw[<-e];simpa using hx))) s
theorem regP_pr(hl:laidOutB P=true)(R:RunOk P r){z n1:Nat}{W:Nat}:∀(rest:List Oper) (i:Nat) (ms:List Nat) (lg:List Lg) (env:Tr CV) (s:S) (T:Nat->Option Tk) {R3:Nat},i+rest.length=l.length->(∀j,rest[j]? =l[i+j]?)->(∀j m,ms[j]? =some m->(masks l []).getD (i+j) 0=m)->z<i->
  PR P l n e0 h0 n0 (some z) T i env s.h s.nx n1 s.R W lg->regP P r l z rest i ms lg n env s=some R3->∃T' env' h' nx' lg',PR P l n e0 h0 n0 (some z) T' l.length env' h' nx' n1 R3 W lg'/\T' z=T z
 | [],i,ms,lg,env,⟨h,nx,R0,W0⟩,T,R3,hlen,hr,hm,hz,p,hh=>by
  simp only[regP,Option.some.injEq] at hh;subst hh;simp at hlen;subst hlen;exact⟨T,_,_,_,_,p,rfl⟩
 | o::rest,i,ms,lg,env,⟨h,nx,R0,W0⟩,T,R3,hlen,hr,hm,hz,p,hh=>by
  unfold regP at hh;cases ms with
  | nil=>cases hh
  | cons m ms=>
   simp only at hh;have hm0:(masks l []).getD i 0=m:=hm 0 m rfl;have ho:l[i]? =some o:=(hr 0).symm;have hlen':i+1+rest.length=l.length:=by simp at hlen;omega
   have hr':∀j,rest[j]? =l[i+1+j]? :=λj=>by
    have:=hr (j+1);rwa [show i+(j+1)=i+1+j by omega] at this
   have hm':∀j m',ms[j]? =some m'->(masks l []).getD (i+1+j) 0=m':=λj m' hj=>by
    have:=hm (j+1) m' hj;rwa [show i+(j+1)=i+1+j by omega] at this
   have upd:∀k:Tk,updT T i k z=T z:=λk=>by unfold updT;rw[if_neg Yb]
   cases hb:m.testBit z with
   | true=>
    rw[hb,bif_t] at hh;exact regP_pr hl R rest (i+1) ms lg env _ T hlen' hr' hm' Yb (p.off rfl (by rw[hm0];exact hb)) hh
   | false=>
    rw[hb,bif_f] at hh;split at hh
    ·cases hh
    ·rename_i hg;split at hh
     ·rename_i env' hput;have p':=p.add (o:=o) (x:=.tup []) (R0:=0) (R':=0) (W':=0) (nx':=nx) (n1':=n1) (R2:=R0) (W2:=W) (h':=h) (env':=env') (lg':=lg) ho (λe=>by cases e;omega) (.inl ⟨λe' he=>(guardV_congr he).trans hg,rfl,rfl⟩) (Ev.refl _) hput
       (apart_zero _ _) (.inr ⟨rfl,rfl⟩) (λ_ _=>rfl) (λ_ h=>h) (λx hx=>by simp at hx) (λx hx=>by simpa using hx) (λx hx=>by simpa using hx)
      obtain⟨T',e1,e2,e3,e4,e5,e6⟩:=regP_pr hl R rest (i+1) ms lg env' ⟨h,nx,R0,W0⟩ _ hlen' hr' hm' Yb p' hh;exact⟨T',e1,e2,e3,e4,e5,e6.trans (upd _)⟩
     ·cases hh
    ·rename_i hg;cases hd:isDefer o.op with
     | true=>rw[hd] at hh;cases hh
     | false=>
      rw[hd,bif_f] at hh;split at hh
      ·rename_i x h' nx' R' W' hst;cases hc:(apart m R' W' lg && Nat.beq W' 0 && Nat.beq nx nx') with
       | false=>rw[hc] at hh;cases hh
       | true=>
        rw[hc,bif_t] at hh;obtain⟨hc1,hc2⟩:=(Bool.and_eq_true _ _).mp hc;obtain⟨hc3,hc4⟩:=(Bool.and_eq_true _ _).mp hc1;have hW0:=beq_of hc4;have hnx:=beq_of hc2;subst hW0;subst hnx;split at hh
        ·rename_i env' hput;rw[fN_eq] at hh;have hop:=stepOp_sound hl R hst;have ev1:Ev ⟨h,nx,0,0⟩ ⟨h',nx,R',0⟩:=hop.ev;have p':=(p.add (o:=o) (R0:=0) (R2:=Nat.lor R0 R') (W2:=W) (lg':=bif Nat.beq R' 0 then lg else⟨i,R',0⟩::lg) (n1':=n1) ho (λe=>by cases e;omega) (.inr ⟨λe' he=>(guardV_congr he).trans hg,λe' he=>stepOp_sound hl R ((step_agree he _).trans hst)⟩) ev1 hput (by rw[hm0];exact hc3) (.inr ⟨rfl,rfl⟩) (λ_ _=>rfl)
          (λy hy=>by cases hb:Nat.beq R' 0 with | true=>exact hy | false=>exact .tail _ hy) (λy hy=>by
           cases hb:Nat.beq R' 0 with
           | true=>rw[beq_of hb] at hy;simp at hy
           | false=>exact .head _) (λy hy=>by rw[lor_bit,Bool.or_eq_true];exact hy) (λy hy=>by simpa using hy)).cong (h':=h) λj=>(ev1.keep j Yn).symm
         obtain⟨T',e1,e2,e3,e4,e5,e6⟩:=regP_pr hl R rest (i+1) ms _ env' ⟨h,nx,Nat.lor R0 R',W0⟩ _ hlen' hr' hm' Yb p' hh;exact⟨T',e1,e2,e3,e4,e5,e6.trans (upd _)⟩
        ·cases hh
      ·cases hh
theorem regP_R{z:Nat}:∀(rest:List Oper) (i:Nat) (ms:List Nat) (lg:List Lg) (env:Tr CV) (s:S) {R3:Nat},regP P r l z rest i ms lg n env s=some R3->∀x,s.R.testBit x=true->R3.testBit x=true
 | [],i,ms,lg,env,⟨h,nx,R0,W0⟩,R3,hh=>by
  simp only[regP,Option.some.injEq] at hh;subst hh;exact λ_ h=>h
 | o::rest,i,ms,lg,env,⟨h,nx,R0,W0⟩,R3,hh=>by
  unfold regP at hh;cases ms with
  | nil=>cases hh
  | cons m ms=>
   simp only at hh;cases hb:m.testBit z with
   | true=>
    rw[hb,bif_t] at hh;exact regP_R rest _ _ _ _ _ hh
   | false=>
    rw[hb,bif_f] at hh;split at hh
    ·cases hh
    ·split at hh
     ·exact regP_R rest _ _ _ _ _ hh
     ·cases hh
    ·cases hd:isDefer o.op with
     | true=>rw[hd] at hh;cases hh
     | false=>
      rw[hd,bif_f] at hh;split at hh
      ·rename_i x h' nx' R' W' hst;cases hc:(apart m R' W' lg && Nat.beq W' 0 && Nat.beq nx nx') with
       | false=>rw[hc] at hh;cases hh
       | true=>
        rw[hc,bif_t] at hh;split at hh
        ·rw[fN_eq] at hh;exact λy hy=>regP_R rest _ _ _ _ _ hh y Yal
        ·cases hh
      ·cases hh
theorem regD_ev(hl:laidOutB P=true)(R:RunOk P r):∀(rest:List Oper) (i:Nat) (ms:List Nat) (lg:List Lg) (fr:Fr) (s:S) {ex:Ex} {fr':Fr} {s':S},regD P r l rest i ms lg fr s=some (ex,fr',s')->Ev s s'/\fr'.n=fr.n/\fr'.rd=fr.rd/\fr'.ds=fr.ds
 | [],i,ms,lg,⟨n,env,ds,rr⟩,s,ex,fr',s',hh=>by
  simp only[regD,Option.some.injEq,Prod.mk.injEq] at hh;obtain⟨rfl,rfl,rfl⟩:=hh;exact⟨Ev.refl _,rfl,rfl,rfl⟩
 | o::rest,i,ms,lg,⟨n,env,ds,rr⟩,⟨h,nx,R0,W0⟩,ex,fr',s',hh=>by
  unfold regD at hh;cases ms with
  | nil=>cases hh
  | cons m ms=>
   simp only at hh;split at hh
   ·cases hh
   ·split at hh
    ·have h1:=regD_ev hl R rest _ _ _ _ _ hh;exact h1
    ·cases hh
   ·cases hd:isDefer o.op with
    | true=>rw[hd] at hh;cases hh
    | false=>
     rw[hd,bif_f] at hh;split at hh
     ·rename_i x h' nx' R' W' hst;cases hc:apart m R' W' lg with
      | false=>rw[hc] at hh;cases hh
      | true=>
       rw[hc,bif_t] at hh;split at hh
       ·rw[fN_eq,fN_eq] at hh;obtain⟨h1,h2⟩:=regD_ev hl R rest _ _ _ _ _ hh;refine⟨Ev.trans (Ev.lift (stepOp_sound hl R hst).ev ?_ ?_) h1,h2⟩
        ·intro y hy;rw[lor_bit,Bool.or_eq_true];exact .inl hy
        ·intro y;rw[lor_bit,Bool.or_eq_true]
       ·cases hh
     ·rename_i x h' nx' R' W' hst;cases hc:(apart m R' W' lg && idle m lg) with
      | false=>rw[hc] at hh;cases hh
      | true=>
       rw[hc,bif_t,fN_eq,fN_eq] at hh;split at hh
       ·rename_i R3 env' hp hw;simp only[Option.some.injEq,Prod.mk.injEq] at hh;obtain⟨rfl,rfl,rfl⟩:=hh;refine⟨Ev.lift (stepOp_sound hl R hst).ev ?_ ?_,rfl,rfl,rfl⟩
        ·intro y hy;exact regP_R _ _ _ _ _ _ hp y Yal
        ·intro y;rw[lor_bit,Bool.or_eq_true]
       ·cases hh
     ·cases hh
theorem regD_pr(hl:laidOutB P=true)(R:RunOk P r):∀(rest:List Oper) (i:Nat) (ms:List Nat) (lg:List Lg) (env:Tr CV) (ds:List SD) (rr:Option Nat) (s:S) (T:Nat->Option Tk) {ex:Ex} {fr':Fr} {s':S},i+rest.length=l.length->(∀j,rest[j]? =l[i+j]?)->(∀j m,ms[j]? =some m->(masks l []).getD (i+j) 0=m)->
  PR P l n e0 h0 n0 none T i env s.h s.nx s.nx s.R s.W lg->regD P r l rest i ms lg ⟨n,env,ds,rr⟩ s=some (ex,fr',s')->
  (∃T' lg',ex= .normal/\PR P l n e0 h0 n0 none T' l.length fr'.env s'.h s'.nx s'.nx s'.R s'.W lg')\/(∃T' z k env' h' nx' lg',ex= .pan k.x/\T' z=some k/\z<l.length/\s'.h=k.s'.h/\PR P l n e0 h0 n0 (some z) T' l.length env' h' nx' s'.nx s'.R s'.W lg'/\wipe l k.env=some fr'.env)
 | [],i,ms,lg,env,ds,rr,s,T,ex,fr',s',hlen,hr,hm,p,hh=>by
  simp only[regD,Option.some.injEq,Prod.mk.injEq] at hh;obtain⟨rfl,rfl,rfl⟩:=hh;simp at hlen;subst hlen;exact .inl ⟨T,lg,rfl,p⟩
 | o::rest,i,ms,lg,env,ds,rr,⟨h,nx,R0,W0⟩,T,ex,fr',s',hlen,hr,hm,p,hh=>by
  unfold regD at hh;cases ms with
  | nil=>cases hh
  | cons m ms=>
   simp only at hh;have hm0:(masks l []).getD i 0=m:=hm 0 m rfl;have ho:l[i]? =some o:=(hr 0).symm;have hlen':i+1+rest.length=l.length:=by simp at hlen;omega
   have hr':∀j,rest[j]? =l[i+1+j]? :=λj=>by
    have:=hr (j+1);rwa [show i+(j+1)=i+1+j by omega] at this
   have hm':∀j m',ms[j]? =some m'->(masks l []).getD (i+1+j) 0=m':=λj m' hj=>by
    have:=hm (j+1) m' hj;rwa [show i+(j+1)=i+1+j by omega] at this
   split at hh
   ·cases hh
   ·rename_i hg;split at hh
    ·rename_i env' hput;have p':=p.add (o:=o) (x:=.tup []) (R0:=0) (R':=0) (W':=0) (nx':=nx) (n1':=nx) (R2:=R0) (W2:=W0) (h':=h) (env':=env') (lg':=lg) ho Yn (.inl ⟨λe' he=>(guardV_congr he).trans hg,rfl,rfl⟩) (Ev.refl _) hput
      (apart_zero _ _) (.inr ⟨rfl,rfl⟩) (λ_ _=>rfl) (λ_ h=>h) (λx hx=>by simp at hx) (λx hx=>by simpa using hx) (λx hx=>by simpa using hx)
     exact regD_pr hl R rest (i+1) ms lg env' ds rr ⟨h,nx,R0,W0⟩ _ hlen' hr' hm' p' hh
    ·cases hh
   ·rename_i hg;cases hd:isDefer o.op with
    | true=>rw[hd] at hh;cases hh
    | false=>
     rw[hd,bif_f] at hh;split at hh
     ·rename_i x h' nx' R' W' hst;cases hc:apart m R' W' lg with
      | false=>rw[hc] at hh;cases hh
      | true=>
       rw[hc,bif_t] at hh;split at hh
       ·rename_i env' hput;rw[fN_eq,fN_eq] at hh;have hop:=stepOp_sound hl R hst;have ev1:Ev ⟨h,nx,0,0⟩ ⟨h',nx',R',W'⟩:=hop.ev;have p':=p.add (o:=o) (R0:=0) (R2:=Nat.lor R0 R') (W2:=Nat.lor W0 W') (lg':=bif Nat.beq (Nat.lor R' W') 0 then lg else⟨i,R',W'⟩::lg) (n1':=nx') ho Yn (.inr ⟨λe' he=>(guardV_congr he).trans hg,λe' he=>stepOp_sound hl R ((step_agree he _).trans hst)⟩) ev1 hput (by rw[hm0];exact hc) (.inl ⟨rfl,rfl⟩) (λz hz=>by cases hz)
         (λy hy=>by cases hb:Nat.beq (Nat.lor R' W') 0 with | true=>exact hy | false=>exact .tail _ hy) (λy hy=>by
          cases hb:Nat.beq (Nat.lor R' W') 0 with
          | true=>
           have h1:R' ||| W'=0:=beq_of hb
           have h2:=congrArg (λz=>z.testBit y) h1;rcases hy with hy | hy <;> simp[hy] at h2
          | false=>exact .head _) (λy hy=>by rw[lor_bit,Bool.or_eq_true];exact hy) (λy hy=>by rw[lor_bit,Bool.or_eq_true];exact hy)
        exact regD_pr hl R rest (i+1) ms _ env' ds rr ⟨h',nx',Nat.lor R0 R',Nat.lor W0 W'⟩ _ hlen' hr' hm' p' hh
       ·cases hh
     ·rename_i x h' nx' R' W' hst;cases hc:(apart m R' W' lg && idle m lg) with
      | false=>rw[hc] at hh;cases hh
      | true=>
       rw[hc,bif_t,fN_eq,fN_eq] at hh;obtain⟨hc1,hc2⟩:=(Bool.and_eq_true _ _).mp hc;split at hh
       ·rename_i R3 env' hp hw;simp only[Option.some.injEq,Prod.mk.injEq] at hh;obtain⟨rfl,rfl,rfl⟩:=hh;have hop:=stepOp_sound hl R hst;have ev1:Ev ⟨h,nx,0,0⟩ ⟨h',nx',R',W'⟩:=hop.ev;have p':=p.pan (R2:=Nat.lor R0 R') (W2:=Nat.lor W0 W') ho (λe' he=>(guardV_congr he).trans hg) (λe' he=>stepOp_sound hl R ((step_agree he _).trans hst)) ev1 (by rw[hm0];exact hc1) (by rw[hm0];exact hc2) (λy hy=>by rw[lor_bit,Bool.or_eq_true];exact hy) (λy hy=>by rw[lor_bit,Bool.or_eq_true];exact hy);obtain⟨T',e1,e2,e3,e4,e5,e6⟩:=regP_pr hl R rest (i+1) ms _ env ⟨h,nx,Nat.lor R0 R',W0⟩ _ hlen' hr' hm' (Nat.lt_succ_self i) p' hp;exact .inr ⟨T',i,_,e1,e2,e3,e4,rfl,e6.trans (by unfold updT;rw[if_pos rfl]),Yb,rfl,e5,hw⟩
       ·cases hh
     ·cases hh
theorem PR.tok{q:Option Nat}{T:Nat->Option Tk}{nx n1 R W:Nat}{env:Tr CV}{h:Tr CO}{lg:List Lg}(p:PR P l n e0 h0 n0 q T l.length env h nx n1 R W lg)(hd:drawOk l=true)(hq:∀i,q=some i->∃k,T i=some k):TOk P l n q T e0 h0 n0 n1 (λx=>R.testBit x=true) (λx=>W.testBit x=true):=by
 have key:∀j i oj oi,j<i->l[j]? =some oj->l[i]? =some oi->TmA ((masks l []).getD i 0) j (tmBits (looks l oi)) (dstBit oi.dst) (tmBits (looks l oj)) (dstBit oj.dst):=λj i oj oi hlt hoj hoi=>by
  obtain⟨m,e1,_,_,e2⟩:=tmOk_spec hd i oi hoi;have:=e2 j oj hlt hoj;rw[Nat.zero_add] at this;rw[show (masks l []).getD i 0=m by simp[List.getD,e1]];exact this
 refine⟨p.len,p.sound,p.zero,p.ev,p.dst,λi o k ho hk=>p.envAt i k hk,p.memAt,p.wf,λj i oj oi kj ki hlt hoj hoi _ _ t h1 h2=>?_,λj i oj oi kj ki hlt hoj hoi _ _ t h1 h2=>?_,p.ordH1,p.ordH2,p.nxs,p.own,p.cov,p.idle,λi hi hT=>p.all i hi hT,hq,λi o ho j hj=>?_⟩
 ·refine (key j i oj oi hlt hoj hoi).1 t ((dstBit_spec _ _).2 h1) ?_;rcases h2 with h2 | h2
  ·exact .inl ((tmBits_spec _ _).2 h2)
  ·exact .inr ((dstBit_spec _ _).2 h2)
 ·exact (key j i oj oi hlt hoj hoi).2 t ((dstBit_spec _ _).2 h1) ((tmBits_spec _ _).2 h2)
 ·obtain⟨m,_,e1,_⟩:=tmOk_spec hd i o ho;have:=e1 j hj;omega
theorem regD_sound(hl:laidOutB P=true)(hmix:P.follows .mixedOrders=true)(R:RunOk P r){id:Nat}{fr fr':Fr}{s s':S}{ex:Ex}(hd:drawOk l=true)(hh:regD P r l l 0 (masks l []) [] fr s=some (ex,fr',s')):CodeS P (.region id l.toArray true) fr s ex fr' s':=by
 obtain⟨n,env,ds,rd0⟩:=fr;obtain⟨ev1,en,erd,eds⟩:=regD_ev hl R _ _ _ _ _ _ hh;refine⟨ev1,en,erd,λK B ρ rr a w Q hp hf hQ=>?_⟩;show (Code.region id l.toArray true).wpIn (FW rr) 0 P Q a w;refine wpIn_region_any hmix ?_;show wpAnyIn (FW rr) 0 P .any l.toArray Q l.toArray.size (Array.replicate l.toArray.size false) a w.drew;have p0:PR P l n (λt=>env.get t) (λj=>s.h.get j) s.nx none (λ_=>none) 0 env s.h s.nx s.nx s.R s.W []:=
  ⟨λ_ _ h=>Yab,λ_ _ _ _ h=>Yab,λ_ _ h=>Yab,λ_ _ h=>Yab,λ_ _ _ _ _ h=>Yab,λ_ _ h=>Yab,λ_ _ h=>Yab,λ_ _ h=>Yab,λ_ _ _ _ _ h=>Yab,λ_ _ _ _ _ h=>Yab,λ_ _ h=>Yab,λ_ _ _ _ _ h=>Yab,λ_ _ h=>Yab,λ_ _ _ _ h=>Yab,λ_ h=>Yb,λ_=>rfl,λ_=>rfl,hp.wf,λ_ _ h=>Yab,Nat.le_refl _,Nat.le_refl _⟩
 have hms:∀j m,(masks l [])[j]? =some m->(masks l []).getD (0+j) 0=m:=λj m hj=>by simp[List.getD,hj]
 have hpr:=regD_pr hl R l 0 (masks l []) [] env ds rd0 s _ Yn (λj=>by simp) hms p0 hh;have d0:D0 K B ρ w (λj=>s.h.get j) s.nx s'.nx (λx=>s'.R.testBit x=true) (λx=>s'.W.testBit x=true):=⟨hp.cov.R,hp.cov.W,hp.cov.up,hp.base,hp.fresh⟩;have kd:∀{c0:Ctx},KD c0 rr P l Q 0 a w.drew->wpAnyIn (FW rr) 0 P .any l.toArray Q l.toArray.size (Array.replicate l.toArray.size false) a w.drew:=λh=>h _ _ Yn (λi=>by simp[Array.getD]) Yn;have none_:∀(q:Option Nat) (T:Nat->Option Tk) (t:Nat),lastF (wrE l q T) (λs=>Nat.blt s 0) (λt=>env.get t) l.length t=env.get t:=λq T t=>by
  have:∀m,lastF (wrE l q T) (λs=>Nat.blt s 0) (λt=>env.get t) m t=env.get t:=λm=>by
   induction m with
   | zero=>rfl
   | succ m ih=>unfold lastF;rw[if_neg (by show ¬false=true;simp)];exact ih
  exact this _
 have noneH:∀(q:Option Nat) (T:Nat->Option Tk) (t:Nat),lastF (wrH q T) (λs=>Nat.blt s 0) (λj=>s.h.get j) l.length t=s.h.get t:=λq T t=>by
  have:∀m,lastF (wrH q T) (λs=>Nat.blt s 0) (λj=>s.h.get j) m t=s.h.get t:=λm=>by
   induction m with
   | zero=>rfl
   | succ m ih=>unfold lastF;rw[if_neg (by show ¬false=true;simp)];exact ih
  exact this _
 have startM:∀(q:Option Nat) (T:Nat->Option Tk),DM P K B ρ w s.nx s'.nx (λx=>s'.W.testBit x=true) T (λi=>Nat.blt i 0) (lastF (wrH q T) (λs=>Nat.blt s 0) (λj=>s.h.get j) l.length) ρ w.drew:=λq T=>
  ⟨Le.refl _,λ_ _=>rfl,MKF.congr (h:=λj=>s.h.get j) ⟨λk o hk ho=>hp.mem.obj k o hk ho,λk k' o o' b n n' hk hk' ho ho'=>hp.mem.inj k k' o o' b n n' hk hk' ho ho'⟩ λx=>noneH q T x,Nat.le_refl _,rfl,rfl,rfl,λ_ _ _=>rfl,λk b m h1 h2 h3=>by rw[hp.fresh k h1 h2] at h3;cases h3⟩
 have startA:∀(q:Option Nat) (T:Nat->Option Tk),DA l q T (λt=>env.get t) n a.defers (λi=>Nat.blt i 0) ρ a:=λq T=>
  ⟨hf.size,λt x hx=>hf.env t x ((none_ q T t).symm.trans hx),rfl⟩
 have go1:∀{S:Nat->Bool} {h:Nat->Option CO} {ρ':Rho} {w':World} {q:Option Nat} {T:Nat->Option Tk},TOk P l n q T (λt=>env.get t) (λj=>s.h.get j) s.nx s'.nx (λx=>s'.R.testBit x=true) (λx=>s'.W.testBit x=true)->DM P K B ρ w s.nx s'.nx (λx=>s'.W.testBit x=true) T S h ρ' w'->(∀j,s'.h.get j=h j)->Go1 P K B ρ s w ρ' s' w':=λt d e=>
  ⟨d.ext,λk hk=>d.dom k λi ki _ hki h1 h2=>by have:=t.nxs i ki hki;omega,d.mem.to λk _=>e k,d.size,d.os,d.tape,d.out,d.frame,d.newb⟩
 rcases hpr with⟨T,lg,rfl,p⟩ | ⟨T,z,k,env',h',nx',lg',rfl,hz,hzl,hsh,p,hw⟩
 ·have t:=p.tok hd (λi e=>by cases e);refine kd (draw_run (rr:=rr) (ds:=a.defers) t d0 ?_ ?_ ⟨B,λ_ _=>False,w,0,[]⟩ (startM none T) (startA none T))
  ·intro _ ρ' a' w' d e;refine hQ _ _ _ ⟨ρ',go1 t d λj=>p.curH j,rfl,⟨by rw[en];exact e.tm,λx y hy=>?_,?_,?_⟩⟩
   ·rw[p.curE] at hy;exact e.env x y hy
   ·rw[eds,e.ds];exact hf.ds.imp λ_ _=>DOk.le d.ext
   ·rw[erd];exact hf.rd.le d.ext
  ·intro i k hq;cases hq
 ·have t:=p.tok hd (λi e=>by cases e;exact⟨k,hz⟩);refine kd (draw_run (rr:=rr) (ds:=a.defers) t d0 ?_ ?_ ⟨B,λ_ _=>False,w,0,[]⟩ (startM (some z) T) (startA (some z) T))
  ·intro hq;cases hq
  ·intro i k' hq hk' S ρ1 ρ2 a' w' v d e hle hx;cases hq;rw[hz] at hk';cases hk';refine hQ _ _ _ ⟨ρ2,go1 t d λj=>by rw[hsh],⟨v,rfl,hx⟩,⟨by rw[en];exact e.tm,λx y hy=>?_,?_,?_⟩⟩
   ·obtain⟨h1,h2⟩:=wipe_spec hw x y hy;have nw:∀j,wrE l (some z) T j x=none:=λj=>by
     cases hwr:wrE l (some z) T j x with
     | none=>rfl
     | some v'=>
      obtain⟨o,_,ho,_,hdst,_⟩:=wrE_some (l:=l) (q:=some z) (T:=T) (i:=j) (t:=x) (by rw[hwr];simp);exact absurd hdst (h2 o (List.mem_of_getElem? ho))
    rw[p.envAt z k hz x,lastF_none nw] at h1;exact (e.env x y (by rw[lastF_none nw];exact h1)).le hle
   ·rw[eds,e.ds];exact hf.ds.imp λ_ _=>DOk.le d.ext
   ·rw[erd];exact hf.rd.le d.ext
end
section
variable{P:Program}{r:Run}
theorem resV_inv{env:Tr CV}:∀(rs:List ResultVar) (s:S) (f:List CV->S->Option Ret) {res:Ret},resV P env rs s f=some res->
  ∃xs s1,f xs s1=some res/\Ev s s1/\s1.h=s.h/\s1.nx=s.nx/\∀(K:Nat->Prop) (B:Nat) (ρ:Rho) (a:Act) (w:World),MK P K B ρ s.h w->(∀k,s1.R.testBit k=true->K k)->EnvC ρ env a->∃vs,(rs.mapM (resStep a.tmps)).run P w= .ok vs w/\CRL ρ xs vs
 | [],s,f,res,h=>⟨[],s,h,Ev.refl s,rfl,rfl,λK B ρ a w _ _ _=>⟨[],rfl,.nil⟩⟩
 | .tmp t::rs,s,f,res,h=>by
  unfold resV at h;split at h
  ·rename_i x hx;obtain⟨xs,s1,h1,h2,h3,h4,h5⟩:=resV_inv rs s _ h;refine⟨x::xs,s1,h1,h2,h3,h4,λK B ρ a w hm hK he=>?_⟩;obtain⟨vs,e1,e2⟩:=h5 K B ρ a w hm hK he;refine⟨a.tmps.getD t undef::vs,?_,.cons _ _ _ _ (he t x hx) e2⟩;have e0:(resStep a.tmps (.tmp t)).run P w= .ok (a.tmps.getD t undef) w:=rfl;simp only[List.mapM_cons,Sem.run_bind,e0,e1,Result.andThen_ok,Sem.run_pure]
  ·cases h
 | .cell b t::rs,s,f,res,h=>by
  unfold resV at h;split at h
  ·rename_i k o n hb ht;obtain⟨tt,cs,opn,l,g1,g2,g3⟩:=rdRow_inv h;obtain⟨xs,s1,h1,h2,h3,h4,h5⟩:=resV_inv rs (s.read k) _ g3;refine⟨.agg l::xs,s1,h1,(Ev.read s k).trans h2,h3,h4,λK B ρ a w hm hK he=>?_⟩;have hk:K k:=hK k (h2.R k (read_bit s k));obtain⟨vs,e1,e2⟩:=h5 K B ρ a w hm hK he;obtain⟨bb,m,us,q1,_,q3,q4,q5,q6⟩:=hm.cells hk g1 g2;have hv:=he b _ hb;generalize hu:a.tmps.getD b undef=u at hv;cases hv with
   | ptr _ _ b' n' hr=>
    rw[q1] at hr;cases hr;have hl:=run_loadVar_agg ht bb o _ w q5 q6;refine⟨.agg ((us.toList.drop o).take n).toArray::vs,?_,.cons _ _ _ _ (.agg _ _ (by simpa using q4)) e2⟩;have e0:(resStep a.tmps (.cell b t)).run P w= .ok (.agg ((us.toList.drop o).take n).toArray) w:=by
     simp only[resStep,hu,asAddr,Sem.run_bind,Sem.run_pure,Result.andThen_ok,hl]
    simp only[List.mapM_cons,Sem.run_bind,e0,e1,Result.andThen_ok,Sem.run_pure]
  ·rename_i k o n hb ht;obtain⟨tt,cs,opn,l,g1,g2,g3⟩:=rdRow_inv h;split at g3
   ·rename_i x;obtain⟨xs,s1,h1,h2,h3,h4,h5⟩:=resV_inv rs (s.read k) _ g3;refine⟨x::xs,s1,h1,(Ev.read s k).trans h2,h3,h4,λK B ρ a w hm hK he=>?_⟩;have hk:K k:=hK k (h2.R k (read_bit s k));obtain⟨vs,e1,e2⟩:=h5 K B ρ a w hm hK he;obtain⟨bb,m,us,q1,_,q3,q4,q5,q6⟩:=hm.cells hk g1 g2;have hv:=he b _ hb;generalize hu:a.tmps.getD b undef=u at hv;cases hv with
    | ptr _ _ b' n' hr=>
     rw[q1] at hr;cases hr;obtain⟨v,e3,e4⟩:=q4.get (i:=0) rfl;have hl:=run_loadVar_one ht bb o v w (q6 0 v e3);refine⟨v::vs,?_,.cons _ _ _ _ e4 e2⟩;have e0:(resStep a.tmps (.cell b t)).run P w= .ok v w:=by
      simp only[resStep,hu,asAddr,Sem.run_bind,Sem.run_pure,Result.andThen_ok,hl]
     simp only[List.mapM_cons,Sem.run_bind,e0,e1,Result.andThen_ok,Sem.run_pure]
   ·cases g3
  ·cases h
theorem results_of{fn:Func}{tmps:Array Value}{vs:List Value}{w:World}(h:(fn.results.toList.mapM (resStep tmps)).run P w= .ok vs w):(results fn tmps).run P w= .ok (if h:vs.length=1 then vs[0] else .tuple vs.toArray) w:=by
 unfold Go.results;have hr:fn.results=fn.results.toList.toArray:=by simp
 rw[hr,List.mapM_toArray];simp only[Sem.run_bind,Sem.run_map];have key:∀g:ResultVar->Sem Value,(∀r,g r=resStep tmps r)->(fn.results.toList.mapM g).run P w= .ok vs w:=λg hg=>by rw[show g=resStep tmps from funext hg];exact h
 rw[key _ (λr=>by cases r <;> rfl)];simp
theorem tup_rel{ρ:Rho}{xs:List CV}{vs:List Value}(h:CRL ρ xs vs):CR ρ (tupV xs) (if h:vs.length=1 then vs[0] else .tuple vs.toArray):=by
 cases h with
 | nil=>exact .tup _ _ .nil
 | cons x v xs vs hx ht=>
  cases ht with
  | nil=>simpa [tupV] using hx
  | cons y u xs vs hy ht=>exact .tup _ _ (.cons _ _ _ _ hx (.cons _ _ _ _ hy ht))
theorem resV_ret{env:Tr CV}{fn:Func}{s:S}{res:Ret}(h:resV P env fn.results.toList s (λl s=>some (.ok (tupV l) s))=some res):∃x s1,res= .ok x s1/\Ev s s1/\∀(K:Nat->Prop) (B:Nat) (ρ:Rho) (a:Act) (w:World),Pre P K B ρ s s1 w->EnvC ρ env a->∃v,(results fn a.tmps).run P w= .ok v w/\Go1 P K B ρ s w ρ s1 w/\CR ρ x v:=by
 obtain⟨xs,s1,h1,h2,h3,h4,h5⟩:=resV_inv _ _ _ h;simp only[Option.some.injEq] at h1;refine⟨_,_,h1.symm,h2,λK B ρ a w hp he=>?_⟩;obtain⟨vs,e1,e2⟩:=h5 K B ρ a w hp.mem hp.cov.R he;exact⟨_,results_of e1,.same hp.mem h3 h4 rfl (.refl w),tup_rel e2⟩
theorem setArgs_get:∀(xs:List CV) (i:Nat) (e e':Tr CV),setArgs i xs e=some e'->∀t,e'.get t=if i<=t/\t<i+xs.length then xs[t - i]? else e.get t
 | [],i,e,e',h,t=>by
  simp only[setArgs,Option.some.injEq] at h;subst h;rw[if_neg (by intro⟨a,b⟩;simp only[List.length_nil] at b;omega)]
 | x::xs,i,e,e',h,t=>by
  unfold setArgs at h;split at h
  ·rename_i e2 h2;rw[setArgs_get xs (i+1) e2 e' h t,Tr.get_set _ _ _ _ _ h2];by_cases h1:t=i
   ·subst h1;rw[if_neg Yb,if_pos rfl,if_pos Yn];simp
   ·rw[if_neg h1];by_cases h3:i<=t/\t<i+(x::xs).length
    ·rw[if_pos h3];simp only[List.length_cons] at h3;rw[if_pos Yb,show t - i=(t - (i+1))+1 by omega];simp
    ·rw[if_neg h3];simp only[List.length_cons] at h3;rw[if_neg Yb]
  ·cases h
theorem args_envC{ρ:Rho}{xs:List CV}{vs:List Value}{e:Tr CV}{n:Nat}{ds:List Deferred}(h:setArgs 0 xs .nil=some e)(hr:CRL ρ xs vs)(hn:xs.length<=n):EnvC ρ e {tmps:=vs.toArray++Array.replicate (n - vs.toArray.size) undef,defers:=ds}:=by
 intro t x hx;rw[setArgs_get _ _ _ _ h] at hx;split at hx
 ·rename_i ht;simp only[Nat.sub_zero] at hx;obtain⟨v,h1,h2⟩:=hr.get hx;have hlt:=(List.getElem?_eq_some_iff.1 h1).1;have:(vs.toArray++Array.replicate (n - vs.toArray.size) undef).getD t undef=v:=by
   simp only[Array.getD_eq_getD_getElem?];rw[Array.getElem?_append_left (by simpa using hlt)];simp[h1]
  rw[this];exact h2
 ·cases hx
theorem setPs_envC{ρ:Rho}{n:Nat}:∀(ps:List Nat) (xs:List CV) (vs:List Value) (e e':Tr CV) (tm:Array Value),setPs n ps xs e=some e'->CRL ρ xs vs->tm.size=n->(∀t x,e.get t=some x->CR ρ x (tm.getD t undef))->
  (∀t x,e'.get t=some x->CR ρ x (((ps.zip vs).foldl (λtm (p,v)=>tm.setIfInBounds p v) tm).getD t undef))/\((ps.zip vs).foldl (λtm (p,v)=>tm.setIfInBounds p v) tm).size=n/\ps.length=vs.length
 | [],xs,vs,e,e',tm,h,hr,hn,he=>by
  cases xs with
  | nil=>
   cases hr;simp only[setPs,Option.some.injEq] at h;subst h;exact⟨he,hn,rfl⟩
  | cons x xs=>simp[setPs] at h
 | p::ps,xs,vs,e,e',tm,h,hr,hn,he=>by
  cases hr with
  | nil=>simp[setPs] at h
  | cons x v xs vs hx ht=>
   unfold setPs at h;cases hb:Nat.blt p n with
   | false=>rw[hb] at h;cases h
   | true=>
    rw[hb,bif_t] at h;split at h
    ·rename_i e2 h2;have hp:=blt_of hb;obtain⟨h3,h4,h5⟩:=setPs_envC ps xs vs e2 e' (tm.setIfInBounds p v) h ht (by simpa using hn) (λt y hy=>by
      rw[Tr.get_set _ _ _ _ _ h2] at hy;split at hy
      ·rename_i e;subst e;cases hy;simp[Array.getD,hn,hp];exact hx
      ·rename_i e;have:=he t y hy;simp only[Array.getD_eq_getD_getElem?] at this ⊢;rwa [Array.getElem?_setIfInBounds_ne (Ne.symm e)])
     exact⟨h3,h4,by simp[h5]⟩
    ·cases h
end
end Go.Ev
