/- Part 12 of the proof: contracts of functions of the program and what they need. No condition beyond those that each theorem names. -/
import Derived.Test.YtogjaoodkaahoaaGreatVowJudgesP11
import Derived.RecoverIn
import Derived.RangeFuncNested
set_option maxHeartbeats 1000000
set_option linter.unusedVariables false
set_option linter.unusedSimpArgs false
namespace Go.Ev
open Go.Eng
open Go.RowKit (Below)
def Calm(r:Result Next):Prop:=(∃v w,r= .ok (.value v) w)\/(∃w,r= .ok .skip w)\/∃h w,r= .halt h w
theorem calm_v(P:Program)(s:Sem Value)(w:World):Calm ((do pure (.value (<-s)):Sem Next).run P w):=by
 simp only[Sem.run_bind];cases s.run P w with
 | ok v w'=>exact .inl ⟨v,w',rfl⟩
 | halt h w'=>exact .inr (.inr ⟨h,w',rfl⟩)
theorem calm_u(P:Program)(s:Sem Unit)(w:World):Calm ((do s;pure .skip:Sem Next).run P w):=by
 simp only[Sem.run_bind];cases s.run P w with
 | ok v w'=>exact .inr (.inl ⟨w',rfl⟩)
 | halt h w'=>exact .inr (.inr ⟨h,w',rfl⟩)
theorem calm_a(x:Result Value):Calm (x.andThen λa w'=>Result.ok (Next.value a) w'):=by
 cases x with
 | ok v w'=>exact .inl ⟨v,w',rfl⟩
 | halt h w'=>exact .inr (.inr ⟨h,w',rfl⟩)
section
variable{P:Program}{r:Run}{env:Tr CV}{o:Oper}{s:S}{res:Ret}
theorem opV_calm(h:opV P env o.op s=some res){ρ:Rho}{a:Act}(he:EnvC ρ env a)(w:World):Calm ((execOp a.eval o).run P w):=by
 cases hop:o.op <;> rw[hop] at h <;> (try (simp only[opV] at h;cases h;done)) <;> simp only[execOp,hop]
 case move x=>exact .inl ⟨_,_,rfl⟩
 case assign x=>exact .inl ⟨_,_,rfl⟩
 case pick c x y=>
  simp only[Sem.run_bind];cases (asBool (a.eval c)).run P w with
  | ok v w'=>exact .inl ⟨_,w',rfl⟩
  | halt h w'=>exact .inr (.inr ⟨h,w',rfl⟩)
 case nilCheck x=>
  simp only[opV,o_nilCheck] at h;split at h
  ·rename_i k o' hx;have hv:=ev_sound he hx;generalize a.eval x=u at hv ⊢;cases hv;exact .inl ⟨_,_,rfl⟩
  ·rename_i f c d hx;have hv:=ev_sound he hx;generalize a.eval x=u at hv ⊢;cases hv;exact .inl ⟨_,_,rfl⟩
  ·rename_i t v hx;have hv:=ev_sound he hx;generalize a.eval x=u at hv ⊢;cases hv;exact .inl ⟨_,_,rfl⟩
  ·rename_i k hx;have hv:=ev_sound he hx;generalize a.eval x=u at hv ⊢;cases hv;exact .inl ⟨_,_,rfl⟩
  ·cases h
 case call c=>
  obtain⟨ce,ar,at_⟩:=c;simp only[opV,o_call] at h;split at h <;> first | (cases h;done) | skip
  all_goals
   simp only[resolve,invoke,builtin,Sem.run_bind,Sem.run_pure,Result.andThen_ok];exact calm_a _
 all_goals first | exact calm_v P _ w | exact calm_u P _ w
theorem Runs.calm{a:Act}{w:World}{R:Value->World->Prop}(h:Runs P none o a w R (λ_ _=>False))(hd:∀c,o.op≠ .defer c)(hc:Calm ((execOp a.eval o).run P w)):∃v w',R v w'/\((∃u,(execOp a.eval o).run P w= .ok (.value u) w'/\a.put o.dst u=a.put o.dst v)\/((execOp a.eval o).run P w= .ok .skip w'/\a.put o.dst undef=a.put o.dst v)):=by
 have h1:=(h (λa' w'=>∃v,a'=a.put o.dst v/\R v w') (λ_ _ _=>False) (λv w' hr=>⟨v,rfl,hr⟩) (λ_ _ h=>h)).2;have hs:o.semAt (FW none).round a.eval=execOp a.eval o:=Oper.semAt_none _ _;rw[hs] at h1;rcases hc with⟨v,w',e⟩ | ⟨w',e⟩ | ⟨x,w',e⟩
 ·rw[e] at h1 ⊢;obtain⟨v',e1,e2⟩:=h1;exact⟨v',w',e2,.inl ⟨v,rfl,e1⟩⟩
 ·rw[e] at h1 ⊢;obtain⟨v',e1,e2⟩:=h1;exact⟨v',w',e2,.inr ⟨rfl,e1⟩⟩
 ·rw[e] at h1;cases x <;> exact h1.elim
def ModeOk(ρ:Rho):Dm->FrameMode->Prop
 | ⟨none,false⟩,u=>u= .returning
 | ⟨none,true⟩,_=>False
 | ⟨some x,false⟩,u=>∃v,u= .panicking [{v:=v,recovered:=false}]/\CR ρ x v
 | ⟨some x,true⟩,u=>∃v,u= .panicking [{v:=v,recovered:=true}]
theorem ModeOk.le{ρ ρ':Rho}(hl:Le ρ ρ'):∀{m:Dm} {u:FrameMode},ModeOk ρ m u->ModeOk ρ' m u
 | ⟨none,false⟩,_,h=>h
 | ⟨none,true⟩,_,h=>h
 | ⟨some x,false⟩,_,⟨v,h1,h2⟩=>⟨v,h1,h2.le hl⟩
 | ⟨some x,true⟩,_,h=>h
structure ActD(ρ:Rho)(n:Nat)(env:Tr CV)(a:Act):Prop where
 size:a.tmps.size=n
 ds:a.defers= []
 env:EnvC ρ env a
theorem ActD.put{ρ:Rho}{n:Nat}{env env':Tr CV}{a:Act}(h:ActD ρ n env a){dst:Option Nat}{x:CV}{v:Value}(hp:putE n dst x env=some env')(hx:CR ρ x v):ActD ρ n env' (a.put dst v):=
 ⟨by rw[tmps_put_size];exact h.size,by rw[put_defers];exact h.ds,h.env.put h.size hp hx⟩
theorem ActD.le{ρ ρ':Rho}{n:Nat}{env:Tr CV}{a:Act}(h:ActD ρ n env a)(hl:Le ρ ρ'):ActD ρ' n env a:=⟨h.size,h.ds,h.env.le hl⟩
def PostD(P:Program)(K:Nat->Prop)(B:Nat)(ρ:Rho)(s:S)(w:World)(ex:Ex)(n:Nat)(env':Tr CV)(m':Dm)(s':S)(e:Exit)(a':Act)(u':FrameMode)(w':World):Prop:=
 ∃ρ',Go1 P K B ρ s w ρ' s' w'/\ExOk ρ' ex e/\ActD ρ' n env' a'/\ModeOk ρ' m' u'
theorem PostD.left{K:Nat->Prop}{B:Nat}{ρ ρ1:Rho}{s s1 s':S}{w w1 w':World}{ex:Ex}{n:Nat}{env':Tr CV}{m':Dm}{e:Exit}{a':Act}{u':FrameMode}(g:Go1 P K B ρ s w ρ1 s1 w1)(e1:Ev s s1)(e2:Ev s1 s')(h:PostD P K B ρ1 s1 w1 ex n env' m' s' e a' u' w'):PostD P K B ρ s w ex n env' m' s' e a' u' w':=
 let ⟨ρ',h1,h2⟩:=h;⟨ρ',g.trans h1 e1 e2,h2⟩
theorem recover_exec{c:Call}(h:o.op= .call c)(hc:c.callee= .builtin .recover)(a:Act)(w:World):(execOp a.eval o).run P w= .ok .recover w:=by
 obtain⟨ce,ar,at_⟩:=c;simp only at hc;subst hc;simp[execOp,h,resolve,invoke,builtin]
theorem regR_sound(hl:laidOutB P=true){n:Nat}{all:List Oper}:∀(rest:List Oper) (i:Nat) (env:Tr CV) (m:Dm) (s:S) {env':Tr CV} {m':Dm} {s':S},(∀j,rest[j]? =all[i+j]?)->regR P n all rest env m s=some (env',m',s')->
  Ev s s'/\∀(K:Nat->Prop) (B:Nat) (ρ:Rho) (a:Act) (w:World) (c0:Frame) (cs:List Frame) (Q:Exit->Act->List Frame->World->Prop),Pre P K B ρ s s' w->ActD ρ n env a->ModeOk ρ m c0.mode->
   (∀e a' u' w',PostD P K B ρ s w .normal n env' m' s' e a' u' w'->Q e a' ({c0 with mode:=u'}::cs) w')->wpOpsSIn (FW none) 0 P all.toArray Q (List.range' i rest.length) a (c0::cs) w
 | [],i,env,m,s,env',m',s',hr,h=>by
  simp only[regR,Option.some.injEq,Prod.mk.injEq] at h;obtain⟨rfl,rfl,rfl⟩:=h;exact⟨Ev.refl _,λK B ρ a w c0 cs Q hp ha hm hQ=>hQ _ _ c0.mode _ ⟨ρ,Go1.refl hp.mem,rfl,ha,hm⟩⟩
 | o::rest,i,env,m,s,env',m',s',hr,h=>by
  have ho:all.toArray[i]? =some o:=by have:=hr 0;simpa using this.symm
  have hr':∀j,rest[j]? =all[i+1+j]? :=λj=>by
   have:=hr (j+1);rwa [show i+(j+1)=i+1+j by omega] at this
  have calm:∀{res:Ret},opV P env o.op s=some res->guardV all env o=some true->(∀c,o.op≠ .defer c)->∀{x:CV} {s1:S},res= .ok x s1->∀{env1:Tr CV},putE n o.dst x env=some env1->regR P n all rest env1 m s1=some (env',m',s')->Ev s s'/\∀(K:Nat->Prop) (B:Nat) (ρ:Rho) (a:Act) (w:World) (c0:Frame) (cs:List Frame) (Q:Exit->Act->List Frame->World->Prop),Pre P K B ρ s s' w->ActD ρ n env a->ModeOk ρ m c0.mode->
   (∀e a' u' w',PostD P K B ρ s w .normal n env' m' s' e a' u' w'->Q e a' ({c0 with mode:=u'}::cs) w')->wpOpsSIn (FW none) 0 P all.toArray Q (List.range' i (o::rest).length) a (c0::cs) w:=by
   intro res hv hg hd x s1 hres env1 hput hh;subst hres;have hop:=opV_sound hl hv;obtain⟨h1,h2⟩:=regR_sound hl rest (i+1) env1 m s1 hr' hh;refine⟨hop.1.trans h1,λK B ρ a w c0 cs Q hp ha hm hQ=>?_⟩;rw[List.length_cons,List.range'_succ];unfold wpOpsSIn;simp only[ho];refine⟨λ_ _=>trivial,?_⟩;have hw:Region.wanted o (yielded all.toArray a.tmps)=true:=guard_sound hg ha.env;simp only[hw,if_true];obtain⟨v,w1,⟨ρ1,g,hx⟩,hcase⟩:=Runs.calm (hop.2 K B ρ none a w (hp.left h1) ha.env) hd (opV_calm hv ha.env w);have next:=h2 K B ρ1 (a.put o.dst v) w1 c0 cs Q (hp.right hop.1 g) ((ha.le g.ext).put hput hx) (hm.le g.ext) λe a' u' w' hpost=>hQ e a' u' w' (hpost.left g hop.1 h1);rcases hcase with⟨u,e1,e2⟩ | ⟨e1,e2⟩
   ·simp only[e1];rw[e2];exact next
   ·simp only[e1];rw[e2];exact next
  unfold regR at h;split at h
  ·cases h
  ·rename_i hg;split at h
   ·rename_i env1 hput;obtain⟨h1,h2⟩:=regR_sound hl rest (i+1) env1 m s hr' h;refine⟨h1,λK B ρ a w c0 cs Q hp ha hm hQ=>?_⟩;rw[List.length_cons,List.range'_succ];unfold wpOpsSIn;simp only[ho];refine⟨λ_ _=>trivial,?_⟩;have hw:Region.wanted o (yielded all.toArray a.tmps)=false:=guard_sound hg ha.env;simp only[hw,Bool.false_eq_true,if_false];exact h2 K B ρ _ w c0 cs Q hp (ha.put hput (.tup _ _ .nil)) hm hQ
   ·cases h
  ·rename_i hg;split at h
   ·rename_i c hop;split at h
    ·rename_i hc;split at h
     ·rename_i x;split at h
      ·rename_i env1 hput;obtain⟨h1,h2⟩:=regR_sound hl rest (i+1) env1 _ s hr' h;refine⟨h1,λK B ρ a w c0 cs Q hp ha hm hQ=>?_⟩;rw[List.length_cons,List.range'_succ];unfold wpOpsSIn;simp only[ho];refine⟨λ_ _=>trivial,?_⟩;have hw:Region.wanted o (yielded all.toArray a.tmps)=true:=guard_sound hg ha.env;simp only[hw,if_true,recover_exec hop hc a w];obtain⟨v,hm1,hx⟩:=hm;simp only[recoverD,hm1];exact h2 K B ρ _ w {c0 with mode:=.panicking [{v:=v,recovered:=true}]} cs Q hp (ha.put hput hx) ⟨v,rfl⟩ hQ
      ·cases h
     ·rename_i hne;split at h
      ·rename_i env1 hput;obtain⟨h1,h2⟩:=regR_sound hl rest (i+1) env1 _ s hr' h;refine⟨h1,λK B ρ a w c0 cs Q hp ha hm hQ=>?_⟩;rw[List.length_cons,List.range'_succ];unfold wpOpsSIn;simp only[ho];refine⟨λ_ _=>trivial,?_⟩;have hw:Region.wanted o (yielded all.toArray a.tmps)=true:=guard_sound hg ha.env;have hrec:recoverD (c0::cs)=none:=by
        obtain⟨p,b⟩:=m;cases p with
        | none=>cases b with
         | false=>have hm:c0.mode= .returning:=hm;simp[recoverD,hm]
         | true=>exact hm.elim
        | some x=>cases b with
         | false=>exact absurd rfl (hne x)
         | true=>obtain⟨v,hm⟩:=hm;simp[recoverD,hm]
       simp only[hw,if_true,recover_exec hop hc a w,hrec];exact h2 K B ρ _ w c0 cs Q hp (ha.put hput (.val _)) hm hQ
      ·cases h
    ·split at h
     ·rename_i x s1 hv;split at h
      ·rename_i env1 hput;exact calm hv hg Yah rfl hput h
      ·cases h
     ·cases h
   ·split at h
    ·rename_i x s1 hv;split at h
     ·rename_i env1 hput;refine calm hv hg (λc hd=>?_) rfl hput h;rw[hd] at hv;simp[opV] at hv
     ·cases h
    ·cases h
theorem codeD_sound(hl:laidOutB P=true)(R:RunOk P r){n:Nat}:∀(c:Code) (env:Tr CV) (m:Dm) (s:S) {ex:Ex} {env':Tr CV} {m':Dm} {s':S},codeD P r n c env m s=some (ex,env',m',s')->
  Ev s s'/\∀(K:Nat->Prop) (B:Nat) (ρ:Rho) (a:Act) (w:World) (c0:Frame) (cs:List Frame) (Q:Exit->Act->List Frame->World->Prop),Pre P K B ρ s s' w->ActD ρ n env a->ModeOk ρ m c0.mode->
   (∀e a' u' w',PostD P K B ρ s w ex n env' m' s' e a' u' w'->Q e a' ({c0 with mode:=u'}::cs) w')->c.wpSIn (FW none) 0 P Q a (c0::cs) w:=by
 have plain:∀(c:Code) (env:Tr CV) (m:Dm) (s:S) {ex:Ex} {env':Tr CV} {m':Dm} {s':S},(match r.code c ⟨n,env,[],none⟩ s with
   | some (ex,⟨_,env',[],_⟩,s')=>some (ex,env',m,s')
   | _=>none)=some (ex,env',m',s')->Ev s s'/\∀(K:Nat->Prop) (B:Nat) (ρ:Rho) (a:Act) (w:World) (c0:Frame) (cs:List Frame) (Q:Exit->Act->List Frame->World->Prop),Pre P K B ρ s s' w->ActD ρ n env a->ModeOk ρ m c0.mode->
   (∀e a' u' w',PostD P K B ρ s w ex n env' m' s' e a' u' w'->Q e a' ({c0 with mode:=u'}::cs) w')->c.wpSIn (FW none) 0 P Q a (c0::cs) w:=by
  intro c env m s ex env' m' s' h;split at h
  ·rename_i ex1 n1 env1 rd1 s1 hc;simp only[Option.some.injEq,Prod.mk.injEq] at h;obtain⟨rfl,rfl,rfl,rfl⟩:=h;obtain⟨h1,h2,h3,h4⟩:=R.code _ _ _ _ _ _ hc;simp only at h2 h3;subst h2;refine⟨h1,λK B ρ a w c0 cs Q hp ha hm hQ=>wpSIn_of_wpIn rfl (wpL_wp ?_)⟩;refine h4 K B ρ none a w _ hp ⟨ha.size,ha.env,by rw[ha.ds];exact .nil,rfl⟩ λe a' w' ⟨ρ',g,hex,hfr⟩=>?_;refine hQ e a' c0.mode w' ⟨ρ',g,hex,⟨hfr.size,?_,hfr.env⟩,hm.le g.ext⟩;have hds:=hfr.ds;cases hh:a'.defers with
   | nil=>rfl
   | cons d ds=>rw[hh] at hds;cases hds
  ·cases h
 intro c
 induction c with
 | seq x y ihx ihy=>
  intro env m s ex env' m' s' h;unfold codeD at h;split at h
  ·rename_i env1 m1 s1 hx;obtain⟨h1,h2⟩:=ihx env m s hx;obtain⟨h3,h4⟩:=ihy env1 m1 s1 h;refine⟨h1.trans h3,λK B ρ a w c0 cs Q hp ha hm hQ=>wpSIn_seq (h2 K B ρ a w c0 cs _ (hp.left h3) ha hm ?_)⟩;rintro e a' u' w' ⟨ρ',g,hex,ha',hm'⟩;cases hex;exact h4 K B ρ' a' w' {c0 with mode:=u'} cs Q (hp.right h1 g) ha' hm' λe a' u' w' hpost=>hQ e a' u' w' (hpost.left g h1 h3)
  ·rename_i hne;obtain⟨h1,h2⟩:=ihx env m s h;refine⟨h1,λK B ρ a w c0 cs Q hp ha hm hQ=>wpSIn_seq (h2 K B ρ a w c0 cs _ hp ha hm ?_)⟩;intro e a' u' w' hpost;have h3:=hQ e a' u' w' hpost;obtain⟨ρ',g,hex,ha',hm'⟩:=hpost;cases ex with
   | normal=>exact absurd h (hne _ _ _)
   | exit id=>cases hex;exact h3
   | ret=>cases hex;exact h3
   | pan x=>obtain⟨v,rfl,_⟩:=hex;exact h3
 | cond t x y ihx ihy=>
  intro env m s ex env' m' s' h;unfold codeD at h;split at h
  ·rename_i hv;obtain⟨h1,h2⟩:=ihx env m s h;exact⟨h1,λK B ρ a w c0 cs Q hp ha hm hQ=>wpSIn_cond (t:=true) (ev_sound ha.env hv).val_eq (h2 K B ρ a w c0 cs Q hp ha hm hQ)⟩
  ·rename_i hv;obtain⟨h1,h2⟩:=ihy env m s h;exact⟨h1,λK B ρ a w c0 cs Q hp ha hm hQ=>wpSIn_cond (t:=false) (ev_sound ha.env hv).val_eq (h2 K B ρ a w c0 cs Q hp ha hm hQ)⟩
  ·cases h
 | region id ops any=>
  intro env m s ex env' m' s' h;cases any with
  | true=>exact plain _ _ _ _ h
  | false=>
   unfold codeD at h;cases hb:hasRec ops.toList with
   | false=>rw[hb] at h;exact plain _ _ _ _ h
   | true=>
    rw[hb,bif_t] at h;split at h
    ·rename_i env1 m1 s1 hreg;simp only[Option.some.injEq,Prod.mk.injEq] at h;obtain⟨rfl,rfl,rfl,rfl⟩:=h;obtain⟨h1,h2⟩:=regR_sound hl ops.toList 0 env m s Yn hreg;refine⟨h1,λK B ρ a w c0 cs Q hp ha hm hQ=>wpSIn_region ?_⟩;have:=h2 K B ρ a w c0 cs Q hp ha hm hQ;rwa [Array.toArray_toList,Array.length_toList, <-List.range_eq_range'] at this
    ·cases h
 | _=>intro env m s ex env' m' s' h;exact plain _ _ _ _ h
end
section
variable{P:Program}{r:Run}{n:Nat}
theorem regR_p{all:List Oper}:∀(rest:List Oper) (env:Tr CV) (m:Dm) (s:S) {env':Tr CV} {m':Dm} {s':S},regR P n all rest env m s=some (env',m',s')->m'.p=m.p
 | [],env,m,s,env',m',s',h=>by
  simp only[regR,Option.some.injEq,Prod.mk.injEq] at h;obtain⟨rfl,rfl,rfl⟩:=h;rfl
 | o::rest,env,m,s,env',m',s',h=>by
  unfold regR at h;split at h
  ·cases h
  ·split at h
   ·exact regR_p rest _ _ _ h
   ·cases h
  ·split at h
   ·split at h
    ·split at h
     ·split at h
      ·have:=regR_p rest _ _ _ h;exact this
      ·cases h
     ·split at h
      ·exact regR_p rest _ _ _ h
      ·cases h
    ·split at h
     ·split at h
      ·exact regR_p rest _ _ _ h
      ·cases h
     ·cases h
   ·split at h
    ·split at h
     ·exact regR_p rest _ _ _ h
     ·cases h
    ·cases h
theorem codeD_p:∀(c:Code) (env:Tr CV) (m:Dm) (s:S) {ex:Ex} {env':Tr CV} {m':Dm} {s':S},codeD P r n c env m s=some (ex,env',m',s')->m'.p=m.p:=by
 have plain:∀(c:Code) (env:Tr CV) (m:Dm) (s:S) {ex:Ex} {env':Tr CV} {m':Dm} {s':S},(match r.code c ⟨n,env,[],none⟩ s with
   | some (ex,⟨_,env',[],_⟩,s')=>some (ex,env',m,s')
   | _=>none)=some (ex,env',m',s')->m'.p=m.p:=by
  intro c env m s ex env' m' s' h;split at h
  ·simp only[Option.some.injEq,Prod.mk.injEq] at h;obtain⟨rfl,rfl,rfl,rfl⟩:=h;rfl
  ·cases h
 intro c
 induction c with
 | seq x y ihx ihy=>
  intro env m s ex env' m' s' h;unfold codeD at h;split at h
  ·rename_i env1 m1 s1 hx;exact (ihy _ _ _ h).trans (ihx _ _ _ hx)
  ·exact ihx _ _ _ h
 | cond t x y ihx ihy=>
  intro env m s ex env' m' s' h;unfold codeD at h;split at h
  ·exact ihx _ _ _ h
  ·exact ihy _ _ _ h
  ·cases h
 | region id ops any=>
  intro env m s ex env' m' s' h;cases any with
  | true=>exact plain _ _ _ _ h
  | false=>
   unfold codeD at h;cases hb:hasRec ops.toList with
   | false=>rw[hb] at h;exact plain _ _ _ _ h
   | true=>
    rw[hb,bif_t] at h;split at h
    ·rename_i env1 m1 s1 hreg;simp only[Option.some.injEq,Prod.mk.injEq] at h;obtain⟨rfl,rfl,rfl,rfl⟩:=h;exact regR_p _ _ _ _ hreg
    ·cases h
 | _=>intro env m s ex env' m' s' h;exact plain _ _ _ _ h
theorem fnOk_of{f:FuncId}{fn:Func}{code:Code}{args:List CV}{α:Type}{x:Option α}{y:α}(h:(bif fnOk P f && Nat.ble (len args) fn.ntmps then x else none)=some y):fnOk P f=true/\args.length<=fn.ntmps/\x=some y:=by
 cases hb:(fnOk P f && Nat.ble (len args) fn.ntmps) with
 | false=>rw[hb] at h;cases h
 | true=>
  rw[hb,bif_t] at h;obtain⟨h1,h2⟩:=(Bool.and_eq_true _ _).mp hb;exact⟨h1,by rw[<-len_eq];exact Nat.le_of_ble_eq_true h2,h⟩
theorem callD_sound(hl:laidOutB P=true)(R:RunOk P r){f:FuncId}{args:List CV}{p:Option CV}{s s':S}{back:Bool}(h:callD P r f args p s=some (back,s')):
  Ev s s'/\fnOk P f=true/\∀(K:Nat->Prop) (B:Nat) (ρ:Rho) (vs:List Value) (w:World) (u:FrameMode) (Q:Ending->FrameMode->World->Prop),Pre P K B ρ s s' w->CRL ρ args vs->ModeOk ρ ⟨p,false⟩ u->
   (∀v u' w' ρ',Go1 P K B ρ s w ρ' s' w'->ModeOk ρ' ⟨p,back⟩ u'->Q (.returned v) u' w')->CallsDIn (FW none) 0 P f vs.toArray u w Q:=by
 unfold callD at h;split at h
 ·cases h
 ·rename_i fn hf;split at h
  ·rename_i code env hb hargs;obtain⟨hok,hlen,h⟩:=fnOk_of (args:=args) (code:=code) h;have key:∀{ex:Ex} {env':Tr CV} {m:Dm} {s1:S},codeD P r fn.ntmps code env ⟨p,false⟩ s=some (ex,env',m,s1)->(ex= .normal\/ex= .ret)->(match resV P env' fn.results.toList s1 λl s=>some (.ok (tupV l) s) with
    | some (.ok _ s')=>some (m.back,s')
    | _=>none)=some (back,s')->Ev s s'/\fnOk P f=true/\∀(K:Nat->Prop) (B:Nat) (ρ:Rho) (vs:List Value) (w:World) (u:FrameMode) (Q:Ending->FrameMode->World->Prop),Pre P K B ρ s s' w->CRL ρ args vs->ModeOk ρ ⟨p,false⟩ u->
   (∀v u' w' ρ',Go1 P K B ρ s w ρ' s' w'->ModeOk ρ' ⟨p,back⟩ u'->Q (.returned v) u' w')->CallsDIn (FW none) 0 P f vs.toArray u w Q:=by
    intro ex env' m s1 hcode hex hres;obtain⟨h1,h2⟩:=codeD_sound hl R code env ⟨p,false⟩ s hcode;have hmp:=codeD_p code env ⟨p,false⟩ s hcode;split at hres
    ·rename_i x s2 hr;simp only[Option.some.injEq,Prod.mk.injEq] at hres;obtain⟨rfl,rfl⟩:=hres;obtain⟨x',s3,e1,e2,e3⟩:=resV_ret hr;cases e1;refine⟨h1.trans e2,hok,λK B ρ vs w u Q hp hvs hm hQ=>?_⟩;refine callsDIn_of_wpSIn hf hb trivial λc0 cs hc0=>?_;refine h2 K B ρ _ w c0 cs _ (hp.left e2) ⟨?_,rfl,args_envC hargs hvs hlen⟩ (by rw[hc0];exact hm) ?_
     ·have:=hvs.length;simp;omega
     ·rintro e a' u' w' ⟨ρ',g,hexo,ha',hm'⟩;obtain⟨v,q1,q2,q3⟩:=e3 K B ρ' a' w' (hp.right h1 g) ha'.env;have hmm:ModeOk ρ' ⟨p,m.back⟩ u':=by
       have:m=⟨p,m.back⟩:=by obtain⟨mp,mb⟩:=m;simp only at hmp;subst hmp;rfl
       rwa [this] at hm'
      have hfin:=hQ v u' w' ρ' (g.trans q2 h1 e2) hmm;rcases hex with rfl | rfl
      ·cases hexo;exact⟨ha'.ds,u',rfl,v,q1,hfin⟩
      ·cases hexo;exact⟨ha'.ds,u',rfl,v,q1,hfin⟩
    ·cases hres
   split at h
   ·rename_i env' m s1 hcode;exact key hcode (.inl rfl) h
   ·rename_i env' m s1 hcode;exact key hcode (.inr rfl) h
   ·cases h
  ·cases h
def OutOk(ρ:Rho):Option CV->FrameMode->Prop
 | none,u=>u= .returning
 | some x,u=>∃v,u= .panicking [{v:=v,recovered:=false}]/\CR ρ x v
theorem OutOk.mode{ρ:Rho}:∀{p:Option CV} {u:FrameMode},OutOk ρ p u->ModeOk ρ ⟨p,false⟩ u
 | none,_,h=>h
 | some _,_,h=>h
theorem OutOk.run{ρ:Rho}:∀{p:Option CV} {u:FrameMode},OutOk ρ p u->u≠ .run
 | none,_,h=>by rw[h];simp
 | some _,_,⟨v,h,_⟩=>by rw[h];simp
theorem OutOk.le{ρ ρ':Rho}(hl:Le ρ ρ'):∀{p:Option CV} {u:FrameMode},OutOk ρ p u->OutOk ρ' p u
 | none,_,h=>h
 | some _,_,⟨v,h,h2⟩=>⟨v,h,h2.le hl⟩
theorem leave_sound(hl:laidOutB P=true)(R:RunOk P r){fn:Func}{env:Tr CV}:∀(ds:List SD) (p:Option CV) (s:S) {res:Ret},leave P r fn env ds p s=some res->
  Ev s res.s/\∀(K:Nat->Prop) (B:Nat) (ρ:Rho) (a:Act) (w:World) (ds':List Deferred) (u:FrameMode) (Q:Ending->World->Prop),Pre P K B ρ s res.s w->F2 (DOk ρ) ds ds'->EnvC ρ env a->OutOk ρ p u->
   (∀e w',RetR P K B ρ s w res e w'->Q e w')->LeavesInM (FW none) 0 P fn a.tmps Q ds' u w
 | [],none,s,res,h=>by
  unfold leave at h;obtain⟨x,s1,rfl,h2,h3⟩:=resV_ret h;refine⟨h2,λK B ρ a w ds' u Q hp hds he hu hQ=>?_⟩;cases hds;obtain rfl:u= .returning:=hu;obtain⟨v,q1,q2,q3⟩:=h3 K B ρ a w hp he;exact⟨v,q1,hQ _ _ ⟨ρ,v,rfl,q2,q3⟩⟩
 | [],some x,s,res,h=>by
  unfold leave at h;cases h;refine⟨Ev.refl _,λK B ρ a w ds' u Q hp hds he hu hQ=>?_⟩;cases hds;obtain⟨v,rfl,hx⟩:=hu;exact hQ _ _ ⟨ρ,v,rfl,Go1.refl hp.mem,hx⟩
 | .mark k::ds,p,s,res,h=>by
  unfold leave at h;obtain⟨ob,g1,h⟩:=rd_inv h;cases ob with
  | dfr=>
   simp only at h;obtain⟨o0,h',g2,g3,h⟩:=wr_inv h;obtain⟨h1,h2⟩:=leave_sound hl R ds p _ h;have e1:Ev s (s.read k):=Ev.read s k;have e2:Ev (s.read k) ((s.read k).write k h'):=Ev.write g2 g3;refine⟨(e1.trans e2).trans h1,λK B ρ a w ds' u Q hp hds he hu hQ=>?_⟩;cases hds with
   | cons hd ht=>
    obtain⟨b,m,q1,rfl⟩:=hd;have hK:K k:=hp.cov.W k (h1.W k (write_bit _ _ _));obtain⟨b',m',ob,q2,q3,q4,q5⟩:=hp.mem.obj k _ hK g1;rw[q1] at q2;cases q2;obtain rfl:ob= .deferred (some []):=q5;have hlt:b<w.heap.size:=(Array.getElem?_eq_some_iff.1 q4).1;have gg:Go1 P K B ρ s w ρ ((s.read k).write k h') (w.putObj b (.deferred none)):=
     (Go1.read hp.mem k).trans (Go1.set (s:=s.read k) (o0:=o0) (o':=.gone) (ob:=.deferred (some [])) (ob':=.deferred none) hp.mem hK g2 g3 q1 q4 (World.putObj_heap_same hlt) (by simp[World.putObj]) (λj hj=>World.putObj_heap_other hj) ⟨rfl,rfl,rfl⟩ rfl) e1 e2
    refine⟨hu.run,.inl ⟨b,_,rfl,run_takeDeferred q4,?_⟩⟩;refine h2 K B ρ a _ _ u Q (hp.right (e1.trans e2) gg) ht he hu λe w' hr=>hQ e w' (hr.left gg (e1.trans e2) h1)
  | _=>cases h
 | .call f args caps::ds,p,s,res,h=>by
  unfold leave at h;split at h
  ·cases h
  ·rename_i l hcat;have hcat:=cat_eq hcat;have run:∀{back:Bool} {s1:S} {p':Option CV},callD P r f l p s=some (back,s1)->(p'=if back then none else p)->leave P r fn env ds p' s1=some res->Ev s res.s/\∀(K:Nat->Prop) (B:Nat) (ρ:Rho) (a:Act) (w:World) (ds':List Deferred) (u:FrameMode) (Q:Ending->World->Prop),Pre P K B ρ s res.s w->F2 (DOk ρ) (.call f args caps::ds) ds'->EnvC ρ env a->OutOk ρ p u->
   (∀e w',RetR P K B ρ s w res e w'->Q e w')->LeavesInM (FW none) 0 P fn a.tmps Q ds' u w:=by
    intro back s1 p' hc hp' hlv;obtain⟨h1,hok,h2⟩:=callD_sound hl R hc;obtain⟨h3,h4⟩:=leave_sound hl R ds p' s1 hlv;refine⟨h1.trans h3,λK B ρ a w ds' u Q hp hds he hu hQ=>?_⟩;cases hds with
    | @cons _ _ _ dsr hd ht=>
     obtain⟨vs,vc,q1,q2,rfl⟩:=hd;have eargs:(vs++vc.toList).toArray=vs.toArray++vc:=by apply Array.ext';simp
     refine⟨hu.run,.inr ⟨by simp[FW],.func f,vc,f,vs.toArray++vc,rfl,by simp[invoke,run_callFunc hok],λ_ _=>trivial,?_⟩⟩;have hcall:=h2 K B ρ (vs++vc.toList) w u (λ
      | .returned _,u',w'=>LeavesInM (FW none) 0 P fn a.tmps Q dsr (settle u') w'
      | .panicked chain,u',w'=>LeavesInM (FW none) 0 P fn a.tmps Q dsr (raised u' chain) w'
      | .outgrown,_,w'=>Q .outgrown w') (hp.left h3) (by rw[hcat];exact q1.append q2) hu.mode ?_
     ·rw[eargs] at hcall;exact hcall
     ·intro v u' w' ρ' g hm;refine h4 K B ρ' a w' _ (settle u') Q (hp.right h1 g) (ht.imp λ_ _=>DOk.le g.ext) (he.le g.ext) ?_ λe w'' hr=>hQ e w'' (hr.left g h1 h3);subst hp';cases back with
      | true=>
       cases p with
       | none=>exact hm.elim
       | some x=>obtain⟨v',rfl⟩:=hm;rfl
      | false=>
       cases p with
       | none=>have hm:u'= .returning:=hm;subst hm;rfl
       | some x=>obtain⟨v',rfl,hx⟩:=hm;exact⟨v',rfl,hx⟩
   split at h
   ·rename_i s1 hc;exact run hc rfl h
   ·rename_i s1 hc;exact run hc rfl h
   ·cases h
theorem callN_sound(hl:laidOutB P=true)(R:RunOk P r){f:FuncId}{args:List CV}{s:S}{res:Ret}(h:callN P r f args s=some res):CallS P f args s res:=by
 unfold callN at h;split at h
 ·cases h
 ·rename_i fn hf;split at h
  ·rename_i code env hb hargs;obtain⟨hok,hlen,h⟩:=fnOk_of (args:=args) (code:=code) h;have key:∀{ex:Ex} {n':Nat} {env':Tr CV} {ds:List SD} {rd':Option Nat} {s1:S} {p:Option CV},r.code code ⟨fn.ntmps,env,[],none⟩ s=some (ex,⟨n',env',ds,rd'⟩,s1)->(p=none/\(ex= .normal\/ex= .ret)\/∃x,p=some x/\ex= .pan x)->leave P r fn env' ds p s1=some res->CallS P f args s res:=by
    intro ex n' env' ds rd' s1 p hcode hex hlv;obtain⟨h1,_,_,h2⟩:=R.code _ _ _ _ _ _ hcode;obtain⟨h3,h4⟩:=leave_sound hl R ds p s1 hlv;refine⟨h1.trans h3,hok,λK B ρ vs w hp hvs=>calls_of_FW (n:=0) (callsIn_of_wp_marks hf hb trivial (wpL_wp ?_) rfl)⟩;refine h2 K B ρ none _ w _ (hp.left h3) ⟨?_,args_envC hargs hvs hlen,.nil,rfl⟩ ?_
    ·have:=hvs.length;simp;omega
    ·rintro e a' w' ⟨ρ',g,hexo,hfr⟩;have fin:∀u,OutOk ρ' p u->LeavesInM (FW none) 0 P fn a'.tmps (RetR P K B ρ s w res) a'.defers u w':=λu hu=>
      h4 K B ρ' a' w' a'.defers u _ (hp.right h1 g) hfr.ds hfr.env hu λe w'' hr=>hr.left g h1 h3
     rcases hex with⟨rfl,rfl | rfl⟩ | ⟨x,rfl,rfl⟩
     ·cases hexo;exact fin _ rfl
     ·cases hexo;exact fin _ rfl
     ·obtain⟨v,rfl,hx⟩:=hexo;exact fin _ ⟨v,rfl,hx⟩
   split at h
   ·rename_i hcode;exact key hcode (.inl ⟨rfl,.inl rfl⟩) h
   ·rename_i hcode;exact key hcode (.inl ⟨rfl,.inr rfl⟩) h
   ·rename_i x _ _ _ _ _ hcode;exact key hcode (.inr ⟨x,rfl,rfl⟩) h
   ·cases h
  ·cases h
end
section
variable{P:Program}{r:Run}
theorem MK.loop{K:Nat->Prop}{B:Nat}{ρ:Rho}{s:S}{w:World}(hm:MK P K B ρ s.h w){k:Nat}{st:LoopState}{pd:Option Code}{env:Tr CV}{n:Nat}{ps:List Nat}{as bo:Code}{d:Nat}(hK:K k)(h0:s.h.get k=some (.loop st pd env n ps as bo d)){b m:Nat}(hρ:ρ k=some (b,m)):
  ∃lp:Loop,w.heap[b]? =some (.loop lp)/\lp.state=st/\lp.pending=pd/\lp.params=ps.toArray/\lp.assign=as/\lp.body=bo/\lp.tmps.size=n/\(∀t x,env.get t=some x->CR ρ x (lp.tmps.getD t undef))/\∃n',ρ d=some (lp.defers,n'):=by
 obtain⟨b',m',ob,h1,h2,h3,h4⟩:=hm.obj k _ hK h0;rw[hρ] at h1;cases h1;obtain⟨lp,rfl,h5⟩:=h4;exact⟨lp,h3,h5⟩
theorem Go1.loopSt{K:Nat->Prop}{B:Nat}{ρ:Rho}{s:S}{w:World}(hm:MK P K B ρ s.h w){k:Nat}{st st':LoopState}{pd pd':Option Code}{env:Tr CV}{n:Nat}{ps:List Nat}{as bo:Code}{d:Nat}{h':Tr CO}(hK:K k)(h0:s.h.get k=some (.loop st pd env n ps as bo d))
  (hs:Tr.set 24 s.h k (some (.loop st' pd' env n ps as bo d))=some h') {b m:Nat} (hρ:ρ k=some (b,m)) {lp:Loop} (hb:w.heap[b]? =some (.loop lp)):Go1 P K B ρ s w ρ (s.write k h') (w.putObj b (.loop {lp with state:=st',pending:=pd'})):=by
 obtain⟨lp',h1,_,_,h2,h3,h4,h5,h6,h7⟩:=hm.loop hK h0 hρ;rw[hb] at h1;cases h1;have hlt:b<w.heap.size:=(Array.getElem?_eq_some_iff.1 hb).1;exact Go1.set hm hK h0 hs hρ hb (World.putObj_heap_same hlt) (by simp[World.putObj]) (λj hj=>World.putObj_heap_other hj) ⟨rfl,rfl,rfl⟩ ⟨_,rfl,rfl,rfl,h2,h3,h4,h5,h6,h7⟩
theorem zip_fold(ps:List Nat)(vs:List Value)(tm:Array Value):(ps.toArray.zip vs.toArray).foldl (λtmps (t,a)=>tmps.setIfInBounds t a) tm=(ps.zip vs).foldl (λtm (p,v)=>tm.setIfInBounds p v) tm:=by
 rw[List.zip_toArray,List.foldl_toArray]
theorem roundN_sound(hl:laidOutB P=true)(R:RunOk P r){k:Nat}{args:List CV}{s:S}{res:Ret}(h:roundN P r k args s=some res):RoundS P k args s res:=by
 unfold roundN at h;obtain⟨ob,g1,h⟩:=rd_inv h;split at h
 ·rename_i st pd env n ps assign body d;split at h
  ·cases h
  ·rename_i env1 hps;split at h
   ·rename_i n' env2 rd2 s1 hassign;obtain⟨evA,nA,rA,runA⟩:=R.code _ _ _ _ _ _ hassign;obtain⟨ob2,g2,h⟩:=rd_inv h;split at h
    ·rename_i pd2 env' n2 ps' as' bo' d';obtain⟨o2,h2,g3,g4,h⟩:=wr_inv h;have e0:Ev s (s.read k):=Ev.read s k;have e1:Ev s1 (s1.read k):=Ev.read s1 k;have e2:Ev (s1.read k) ((s1.read k).write k h2):=Ev.write g3 g4;have eA:=(e0.trans evA).trans (e1.trans e2);have key:∀{ex:Ex} {fr3:Fr} {s3:S} {jp:Option Code} {res:Ret},r.code body ⟨n,env2,[],some k⟩ ((s1.read k).write k h2)=some (ex,fr3,s3)->(ex= .normal/\jp=none\/ex= .ret/\jp=some .ret\/∃id,ex= .exit id/\jp=some (.exit id))->
       (rd s3 k λob s=>match ob with
        | .loop _ _ env' n' ps' as' bo' d'=>wr s k (some (.loop (if jp.isNone then .ready else .done) jp env' n' ps' as' bo' d')) λs=>some (.ok (.val (.bool jp.isNone)) s)
        | _=>none)=some res->RoundS P k args s res:=by
      intro ex fr3 s3 jp res hbody hex h;obtain⟨evB,nB,rB,runB⟩:=R.code _ _ _ _ _ _ hbody;obtain⟨ob3,g5,h⟩:=rd_inv h;split at h
      ·rename_i st3 pd3 env3 n3 ps3 as3 bo3 d3;obtain⟨o3,h3,g6,g7,h⟩:=wr_inv h;simp only[Option.some.injEq] at h;subst h;have e3:Ev s3 (s3.read k):=Ev.read s3 k;have e4:Ev (s3.read k) ((s3.read k).write k h3):=Ev.write g6 g7;have eB:=e3.trans e4;refine⟨eA.trans (evB.trans eB),λK B ρ vs w b m hp hρ hvs=>?_⟩;have hK:K k:=hp.cov.W k (write_bit _ _ _);obtain⟨lp,hb,q1,q2,q3,q4,q5,q6,q7,q8⟩:=hp.mem.loop hK g1 hρ;obtain⟨f1,f2,f3⟩:=setPs_envC ps args vs env env1 lp.tmps hps hvs q6 q7;have hy:=run_yield (P:=P) (args:=vs.toArray) hb (by rw[q3];simp[f3]);rw[q3,zip_fold] at hy;refine⟨_,_,_,_,hy,roundIn_of_wpIn (F:=FW none) (n:=0) trivial ?_⟩;have p0:Pre P K B ρ (s.read k) s1 w:=(hp.right e0 (Go1.read hp.mem k)).left ((e1.trans e2).trans (evB.trans eB));rw[q4,q5];refine wpL_wp (F:=FW (some b)) (runA K B ρ (some b) _ w _ p0 ⟨f2,f1,.nil,⟨b,m,hρ,rfl⟩⟩ ?_);rintro e a1 w1 ⟨ρ1,gA,hexA,frA⟩;cases hexA;have gA':Go1 P K B ρ s w ρ1 s1 w1:=(Go1.read hp.mem k).trans gA e0 evA;have hρ1:ρ1 k=some (b,m):=gA.ext _ _ hρ;obtain⟨lp1,hb1,r1,r2,r3,r4,r5,r6,r7,r8⟩:=MK.loop (s:=s1) gA.mem hK g2 hρ1;have gW:Go1 P K B ρ1 s1 w1 ρ1 ((s1.read k).write k h2) (w1.putObj b (.loop {lp1 with state:=.busy,pending:=pd2})):=
        (Go1.read gA.mem k).trans (Go1.loopSt (s:=s1.read k) gA.mem hK g2 g4 hρ1 hb1) e1 e2
       have hbusy:({lp1 with state:=.busy,pending:=pd2}:Loop)={lp1 with state:=.busy}:=by rw[<-r2]
       rw[hbusy] at gW;refine⟨_,run_beginRound hb1 r1,?_⟩;have g2':Go1 P K B ρ s w ρ1 ((s1.read k).write k h2) (w1.putObj b (.loop {lp1 with state:=.busy})):=gA'.trans gW (e0.trans evA) (e1.trans e2);have hds:a1.defers= []:=by
        have:=frA.ds;cases hh:a1.defers with
        | nil=>rfl
        | cons d ds=>rw[hh] at this;cases this
       have p2:Pre P K B ρ1 ((s1.read k).write k h2) s3 (w1.putObj b (.loop {lp1 with state:=.busy})):=(hp.right eA g2').left eB;refine wpL_wp (F:=FW (some b)) (runB K B ρ1 (some b) a1 _ _ p2 ⟨by have:=frA.size;simp only at nA;rw[this,nA],frA.env,by rw[hds];exact .nil,⟨b,m,hρ1,rfl⟩⟩ ?_);rintro e a3 w3 ⟨ρ3,gB,hexB,frB⟩;have hρ3:ρ3 k=some (b,m):=gB.ext _ _ hρ1;obtain⟨lp3,hb3,t1,t2,t3⟩:=MK.loop (s:=s3) gB.mem hK g5 hρ3;have gE:Go1 P K B ρ3 s3 w3 ρ3 ((s3.read k).write k h3) (w3.putObj b (.loop {lp3 with state:=if jp.isNone then .ready else .done,pending:=jp})):=
        (Go1.read gB.mem k).trans (Go1.loopSt (s:=s3.read k) gB.mem hK g5 g7 hρ3 hb3) e3 e4
       have gAll:Go1 P K B ρ s w ρ3 ((s3.read k).write k h3) (w3.putObj b (.loop {lp3 with state:=if jp.isNone then .ready else .done,pending:=jp})):=
        (g2'.trans gB eA evB).trans gE (eA.trans evB) eB
       have hrun:=run_endRound (P:=P) jp hb3;have hR:RetR P K B ρ s w (.ok (.val (.bool jp.isNone)) ((s3.read k).write k h3)) (.returned (.bool jp.isNone)) (w3.putObj b (.loop {lp3 with state:=if jp.isNone then .ready else .done,pending:=jp})):=⟨ρ3,_,rfl,gAll,.val _⟩;rcases hex with⟨rfl,rfl⟩ | ⟨rfl,rfl⟩ | ⟨id,rfl,rfl⟩
       ·cases hexB;exact⟨_,_,hrun,hR⟩
       ·cases hexB;exact⟨_,_,hrun,hR⟩
       ·cases hexB;exact⟨_,_,hrun,hR⟩
      ·cases h
     split at h
     ·rename_i hbody;exact key (jp:=none) hbody (.inl ⟨rfl,rfl⟩) h
     ·rename_i hbody;exact key (jp:=some .ret) hbody (.inr (.inl ⟨rfl,rfl⟩)) h
     ·rename_i id _ _ hbody;exact key (jp:=some (.exit id)) hbody (.inr (.inr ⟨id,rfl,rfl⟩)) h
     ·cases h
    ·cases h
   ·cases h
 ·cases h
def rangeGo(P:Program)(r:Run)(n:Nat)(env:Tr CV)(rr:Option Nat)(f:FuncId)(first caps:List CV)(ps:List Nat)(assign body:Code)(d:Nat)(ds':List SD)(s:S):Option (Ex×Fr×S):=
 nw s (.loop .ready none env n ps assign body d) λk s=>match app2 first [.yld k] caps with
 | none=>none
 | some l=>match r.call f l s with
  | none=>none
  | some (.pan x s)=>some (.pan x,⟨n,env,ds',rr⟩,s)
  | some (.ok _ s)=>rd s k λob s=>match ob with
   | .loop .ready none env' n' ps' as' bo' d'=>wr s k (some (.loop .exhausted none env' n' ps' as' bo' d')) λs=>some (.normal,⟨n,env,ds',rr⟩,s)
   | .loop .done (some j) env' n' ps' as' bo' d'=>wr s k (some (.loop .exhausted (some j) env' n' ps' as' bo' d')) λs=>r.code j ⟨n,env,ds',rr⟩ s
   | _=>none
theorem app2_eq{a b c l:List CV}(h:app2 a b c=some l):l=a++(b++c):=by
 unfold app2 at h;split at h
 ·rename_i m hm;rw[cat_eq hm] at h;exact cat_eq h
 ·cases h
theorem rangeGo_sound(R:RunOk P r){n:Nat}{env:Tr CV}{rr:Option Nat}{f:FuncId}{first caps:List CV}{ps:List Nat}{assign body:Code}{d:Nat}{ds':List SD}{s:S}{ex:Ex}{fr':Fr}{s':S}(h:rangeGo P r n env rr f first caps ps assign body d ds' s=some (ex,fr',s')):
  Ev s s'/\fr'.n=n/\fr'.rd=rr/\∀(K:Nat->Prop) (B:Nat) (ρ:Rho) (r0:Option Nat) (a:Act) (w:World) (Q:Exit->Act->World->Prop) (g:Operand) (D nd:Nat) (fnid:FuncId),Pre P K B ρ s s' w->FrOk ρ ⟨n,env,ds',rr⟩ r0 a->CR ρ (.fn f first caps) (a.eval g)->ρ d=some (D,nd)->
   (∀e a' w',Post P K B ρ s w ex fr' s' r0 e a' w'->Q e a' w')->∃dd args,(resolve a.eval (rangeCall g w.heap.size) 0).run P (w.alloc (.loop {state:=.ready,pending:=none,fn:=fnid,tmps:=a.tmps,params:=ps.toArray,assign,body,defers:=D}))= .ok dd (w.alloc (.loop {state:=.ready,pending:=none,fn:=fnid,tmps:=a.tmps,params:=ps.toArray,assign,body,defers:=D}))/\
    (invoke dd.target dd.args).run P (w.alloc (.loop {state:=.ready,pending:=none,fn:=fnid,tmps:=a.tmps,params:=ps.toArray,assign,body,defers:=D}))= .ok (.enter f args) (w.alloc (.loop {state:=.ready,pending:=none,fn:=fnid,tmps:=a.tmps,params:=ps.toArray,assign,body,defers:=D}))/\
    CallsIn (FW r0) (0 - 1) P f args (w.alloc (.loop {state:=.ready,pending:=none,fn:=fnid,tmps:=a.tmps,params:=ps.toArray,assign,body,defers:=D})) (rangePost (FW r0) 0 P w.heap.size Q a):=by
 unfold rangeGo at h;obtain⟨h1,g1,h⟩:=nw_inv h;split at h
 ·cases h
 ·rename_i l hl2;have hl3:=app2_eq hl2;have e1:Ev s (s.new h1):=Ev.new g1;have start:∀{res:Ret},CallS P f l (s.new h1) res->∀(e2:Ev res.s s') (K:Nat->Prop) (B:Nat) (ρ:Rho) (r0:Option Nat) (a:Act) (w:World) (Q:Exit->Act->World->Prop) (g:Operand) (D nd:Nat) (fnid:FuncId),Pre P K B ρ s s' w->FrOk ρ ⟨n,env,ds',rr⟩ r0 a->CR ρ (.fn f first caps) (a.eval g)->ρ d=some (D,nd)->
    (∀e w',(∃ρ1,ρ1 s.nx=some (w.heap.size,0)/\Go1 P K B ρ s w ρ1 (s.new h1) (w.alloc (.loop {state:=.ready,pending:=none,fn:=fnid,tmps:=a.tmps,params:=ps.toArray,assign,body,defers:=D}))/\RetR P K B ρ1 (s.new h1) (w.alloc (.loop {state:=.ready,pending:=none,fn:=fnid,tmps:=a.tmps,params:=ps.toArray,assign,body,defers:=D})) res e w')->rangePost (FW r0) 0 P w.heap.size Q a e w')->
    ∃dd args,(resolve a.eval (rangeCall g w.heap.size) 0).run P (w.alloc (.loop {state:=.ready,pending:=none,fn:=fnid,tmps:=a.tmps,params:=ps.toArray,assign,body,defers:=D}))= .ok dd (w.alloc (.loop {state:=.ready,pending:=none,fn:=fnid,tmps:=a.tmps,params:=ps.toArray,assign,body,defers:=D}))/\
    (invoke dd.target dd.args).run P (w.alloc (.loop {state:=.ready,pending:=none,fn:=fnid,tmps:=a.tmps,params:=ps.toArray,assign,body,defers:=D}))= .ok (.enter f args) (w.alloc (.loop {state:=.ready,pending:=none,fn:=fnid,tmps:=a.tmps,params:=ps.toArray,assign,body,defers:=D}))/\
    CallsIn (FW r0) (0 - 1) P f args (w.alloc (.loop {state:=.ready,pending:=none,fn:=fnid,tmps:=a.tmps,params:=ps.toArray,assign,body,defers:=D})) (rangePost (FW r0) 0 P w.heap.size Q a):=by
   intro res hc e2 K B ρ r0 a w Q g D nd fnid hp hf hg hD hQ;obtain⟨c1,c2,c3⟩:=hc;generalize hlr:({state:=.ready,pending:=none,fn:=fnid,tmps:=a.tmps,params:=ps.toArray,assign,body,defers:=D}:Loop)=lr at*;have hfr:=hp.fresh s.nx (Nat.le_refl _) (Nat.lt_of_lt_of_le (Nat.lt_succ_self _) (c1.trans e2).nx);have hle:=Rho.put_le (w.heap.size,0) hfr;have gN:Go1 P K B ρ s w (ρ.put s.nx (w.heap.size,0)) (s.new h1) (w.alloc (.loop lr)):=
    Go1.new hp.mem (hp.cov.up _ (Nat.le_refl _)) g1 hfr hp.base rfl (alloc_like _ _) ⟨lr,rfl,by rw[<-hlr],by rw[<-hlr],by rw[<-hlr],by rw[<-hlr],by rw[<-hlr],by rw[<-hlr];exact hf.size,λt x hx=>by rw[<-hlr];exact (hf.env t x hx).le hle,nd,by rw[<-hlr];exact hle _ _ hD⟩
   have hk1:(ρ.put s.nx (w.heap.size,0)) s.nx=some (w.heap.size,0):=Rho.put_same _ _ _;generalize hu:a.eval g=u at hg;cases hg with
   | fn _ _ _ vf vc hvf hvc=>
    refine⟨{target:=.fn (.func f) vc,args:=vf++#[.func (.yield w.heap.size) #[] #[]]},vf++#[.func (.yield w.heap.size) #[] #[]]++vc,?_,by simp[invoke,run_callFunc c2],?_⟩
    ·simp only[resolve,rangeCall,hu];simp[Deferred.ofValue,Act.eval]
    ·have hcall:=c3 K B _ (vf.toList++([.func (.yield w.heap.size) #[] #[]]++vc.toList)) _ ((hp.right e1 gN).left e2) (by rw[hl3];exact (hvf.le hle).append ((CRL.cons _ _ _ _ (.yld _ _ _ hk1) .nil).append (hvc.le hle)));have earr:(vf.toList++([Value.func (.yield w.heap.size) #[] #[]]++vc.toList)).toArray=vf++#[.func (.yield w.heap.size) #[] #[]]++vc:=by apply Array.ext';simp
     rw[earr] at hcall;exact callsIn_FW (hcall.mono λe w' hr=>hQ e w' ⟨_,hk1,gN,hr⟩)
  split at h
  ·cases h
  ·rename_i x s1 hcall;simp only[Option.some.injEq,Prod.mk.injEq] at h;obtain⟨rfl,rfl,rfl⟩:=h;have hc:=R.call _ _ _ _ hcall;refine⟨e1.trans hc.1,rfl,rfl,λK B ρ r0 a w Q g D nd fnid hp hf hg hD hQ=>start hc (Ev.refl _) K B ρ r0 a w Q g D nd fnid hp hf hg hD ?_⟩;rintro e w' ⟨ρ1,_,gN,ρ2,v,rfl,g2,hx⟩;exact hQ _ _ _ ⟨ρ2,gN.trans g2 e1 hc.1,⟨v,rfl,hx⟩,hf.le (gN.ext.trans g2.ext)⟩
  ·rename_i x s1 hcall;have hc:=R.call _ _ _ _ hcall;obtain⟨ob,g2,h⟩:=rd_inv h;split at h
   ·rename_i env' n' ps' as' bo' d';obtain⟨o3,h3,g3,g4,h⟩:=wr_inv h;simp only[Option.some.injEq,Prod.mk.injEq] at h;obtain⟨rfl,rfl,rfl⟩:=h;have e2:Ev s1 (s1.read s.nx):=Ev.read _ _;have e3:Ev (s1.read s.nx) ((s1.read s.nx).write s.nx h3):=Ev.write g3 g4;refine⟨(e1.trans hc.1).trans (e2.trans e3),rfl,rfl,λK B ρ r0 a w Q g D nd fnid hp hf hg hD hQ=>start hc (e2.trans e3) K B ρ r0 a w Q g D nd fnid hp hf hg hD ?_⟩;rintro e w' ⟨ρ1,hk1,gN,ρ2,v,rfl,gC,hx⟩;have hK:K s.nx:=hp.cov.up _ (Nat.le_refl _);have hk2:=gC.ext _ _ hk1;obtain⟨lp,hb,q1,q2,_⟩:=MK.loop (s:=s1) gC.mem hK g2 hk2;have gE:=(Go1.read gC.mem s.nx).trans (Go1.loopSt (s:=s1.read s.nx) gC.mem hK g2 g4 hk2 hb) e2 e3;have hrun:=run_endLoop (P:=P) hb (by rw[q1];simp);rw[q2] at hrun;refine⟨none,_,hrun,?_⟩;exact hQ _ _ _ ⟨ρ2,(gN.trans gC e1 hc.1).trans gE (e1.trans hc.1) (e2.trans e3),rfl,hf.le ((gN.ext.trans gC.ext).trans gE.ext)⟩
   ·rename_i j env' n' ps' as' bo' d';obtain⟨o3,h3,g3,g4,h⟩:=wr_inv h;have e2:Ev s1 (s1.read s.nx):=Ev.read _ _;have e3:Ev (s1.read s.nx) ((s1.read s.nx).write s.nx h3):=Ev.write g3 g4;obtain⟨e4,nn,rn,run⟩:=R.code _ _ _ _ _ _ h;have e123:=(e1.trans hc.1).trans (e2.trans e3);refine⟨e123.trans e4,nn,rn,λK B ρ r0 a w Q g D nd fnid hp hf hg hD hQ=>start hc ((e2.trans e3).trans e4) K B ρ r0 a w Q g D nd fnid hp hf hg hD ?_⟩;rintro e w' ⟨ρ1,hk1,gN,ρ2,v,rfl,gC,hx⟩;have hK:K s.nx:=hp.cov.up _ (Nat.le_refl _);have hk2:=gC.ext _ _ hk1;obtain⟨lp,hb,q1,q2,_⟩:=MK.loop (s:=s1) gC.mem hK g2 hk2;have gE:=(Go1.read gC.mem s.nx).trans (Go1.loopSt (s:=s1.read s.nx) gC.mem hK g2 g4 hk2 hb) e2 e3;have hrun:=run_endLoop (P:=P) hb (by rw[q1];simp);rw[q2] at hrun;refine⟨some j,_,hrun,?_⟩;have gAll:=(gN.trans gC e1 hc.1).trans gE (e1.trans hc.1) (e2.trans e3);exact wpL_wp (run K B ρ2 r0 a _ Q (hp.right e123 gAll) (hf.le gAll.ext) λe a' w' hpost=>hQ _ _ _ (hpost.left gAll e123 e4))
   ·cases h
end
section
variable{P:Program}{r:Run}
theorem rangeN_sound(R:RunOk P r){g:Operand}{ps:List Nat}{assign body:Code}{fr fr':Fr}{s s':S}{ex:Ex}(h:rangeN P r g ps assign body fr s=some (ex,fr',s')):CodeS P (.rangeFunc g ps.toArray assign body) fr s ex fr' s':=by
 obtain⟨n,env,ds,rr⟩:=fr;unfold rangeN at h;simp only at h;split at h
 ·rename_i f first caps hg;cases rr with
  | none=>
   simp only at h;obtain⟨h1,g1,h⟩:=nw_inv h;have h:rangeGo P r n env none f first caps ps assign body s.nx (.mark s.nx::ds) (s.new h1)=some (ex,fr',s'):=h;obtain⟨e2,nn,rn,run⟩:=rangeGo_sound R h;have e1:Ev s (s.new h1):=Ev.new g1;refine⟨e1.trans e2,nn,rn,λK B ρ r0 a w Q hp hf hQ=>?_⟩;obtain rfl:r0=none:=hf.rd;show (Code.rangeFunc g ps.toArray assign body).wpIn (FW none) 0 P Q a w;refine wpIn_rangeFunc λfnid hfn=>?_;have hfr:=hp.fresh s.nx (Nat.le_refl _) (Nat.lt_of_lt_of_le (Nat.lt_succ_self _) e2.nx);have hle:=Rho.put_le (w.heap.size,0) hfr;have gN:Go1 P K B ρ s w (ρ.put s.nx (w.heap.size,0)) (s.new h1) (w.alloc (.deferred (some []))):=
    Go1.new hp.mem (hp.cov.up _ (Nat.le_refl _)) g1 hfr hp.base rfl (alloc_like _ _) rfl
   have hk1:(ρ.put s.nx (w.heap.size,0)) s.nx=some (w.heap.size,0):=Rho.put_same _ _ _;have hf1:FrOk (ρ.put s.nx (w.heap.size,0)) ⟨n,env,.mark s.nx::ds,none⟩ none {a with defers:={target:=.collected w.heap.size,args:=#[]}::a.defers}:=
    ⟨hf.size,hf.env.le hle,.cons ⟨_,_,hk1,rfl⟩ (hf.ds.imp λ_ _=>DOk.le hle),rfl⟩
   have hgv:CR (ρ.put s.nx (w.heap.size,0)) (.fn f first caps) (a.eval g):=(ev_sound hf.env hg).le hle;obtain⟨dd,args,q1,q2,q3⟩:=run K B _ none {a with defers:={target:=.collected w.heap.size,args:=#[]}::a.defers} (w.alloc (.deferred (some []))) Q g w.heap.size 0 fnid (hp.right e1 gN) hf1 hgv hk1 λe a' w' hpost=>hQ e a' w' (hpost.left gN e1 e2);rw[World.size_alloc] at q1 q3;exact⟨_,_,_,dd,_,f,args,_,run_enterLoop_outer fnid a.tmps ps.toArray assign body,q1,λ_ _=>trivial,q2,by simp[FW],q3⟩
  | some l=>
   simp only at h;obtain⟨ob,g1,h⟩:=rd_inv h;split at h
   ·rename_i st pd env' n' ps' as' bo' d;have h:rangeGo P r n env (some l) f first caps ps assign body d ds (s.read l)=some (ex,fr',s'):=h;obtain⟨e2,nn,rn,run⟩:=rangeGo_sound R h;have e1:Ev s (s.read l):=Ev.read _ _;refine⟨e1.trans e2,nn,rn,λK B ρ r0 a w Q hp hf hQ=>?_⟩;obtain⟨b,m,hb,rfl⟩:=hf.rd;show (Code.rangeFunc g ps.toArray assign body).wpIn (FW (some b)) 0 P Q a w;refine wpIn_rangeFunc λfnid hfn=>?_;have hK:K l:=hp.cov.R l (e2.R l (read_bit s l));obtain⟨lp,hlp,_,_,_,_,_,_,_,nd,hD⟩:=hp.mem.loop hK g1 hb;have gN:Go1 P K B ρ s w ρ (s.read l) w:=Go1.read hp.mem l;obtain⟨dd,args,q1,q2,q3⟩:=run K B ρ (some b) a w Q g lp.defers nd fnid (hp.right e1 gN) ⟨hf.size,hf.env,hf.ds,⟨b,m,hb,rfl⟩⟩ (ev_sound hf.env hg) hD λe a' w' hpost=>hQ e a' w' (hpost.left gN e1 e2);exact⟨_,[],_,dd,_,f,args,_,run_enterLoop_inner hlp fnid a.tmps ps.toArray assign body,q1,λ_ _=>trivial,q2,by simp[FW],q3⟩
   ·cases h
 ·cases h
theorem codeN_sound(hl:laidOutB P=true)(hmix:P.follows .mixedOrders=true)(R:RunOk P r){c:Code}{fr fr':Fr}{s s':S}{ex:Ex}(h:codeN P r c fr s=some (ex,fr',s')):CodeS P c fr s ex fr' s':=by
 cases c with
 | skip=>
  simp only[codeN,Option.some.injEq,Prod.mk.injEq] at h;obtain⟨rfl,rfl,rfl⟩:=h;exact⟨Ev.refl _,rfl,rfl,λK B ρ rr a w Q hp hf hQ=>wpIn_skip (hQ _ _ _ ⟨ρ,Go1.refl hp.mem,rfl,hf⟩)⟩
 | label k=>
  simp only[codeN,Option.some.injEq,Prod.mk.injEq] at h;obtain⟨rfl,rfl,rfl⟩:=h;exact⟨Ev.refl _,rfl,rfl,λK B ρ rr a w Q hp hf hQ=>wpIn_label (hQ _ _ _ ⟨ρ,Go1.refl hp.mem,rfl,hf⟩)⟩
 | ret=>
  simp only[codeN,Option.some.injEq,Prod.mk.injEq] at h;obtain⟨rfl,rfl,rfl⟩:=h;exact⟨Ev.refl _,rfl,rfl,λK B ρ rr a w Q hp hf hQ=>wpIn_ret (hQ _ _ _ ⟨ρ,Go1.refl hp.mem,rfl,hf⟩)⟩
 | exit id=>
  simp only[codeN,Option.some.injEq,Prod.mk.injEq] at h;obtain⟨rfl,rfl,rfl⟩:=h;exact⟨Ev.refl _,rfl,rfl,λK B ρ rr a w Q hp hf hQ=>wpIn_exit (hQ _ _ _ ⟨ρ,Go1.refl hp.mem,rfl,hf⟩)⟩
 | region id ops any=>
  cases any with
  | false=>
   obtain⟨h1,h2,h3,h4⟩:=regS_sound hl R _ _ _ (show regS P r ops.toList ops.toList fr s=some (ex,fr',s') from h);refine⟨h1,h2,h3,λK B ρ rr a w Q hp hf hQ=>?_⟩;have:=wpIn_region_lit (id:=id) (h4 K B ρ rr a w Q hp hf hQ);rwa [Array.toArray_toList] at this
  | true=>
   have h:(bif drawOk ops.toList then regD P r ops.toList ops.toList 0 (masks ops.toList []) [] fr s else none)=some (ex,fr',s'):=h;cases hb:drawOk ops.toList with
   | false=>rw[hb] at h;cases h
   | true=>
    rw[hb,bif_t] at h;have:=regD_sound (id:=id) hl hmix R hb h;rwa [Array.toArray_toList] at this
 | seq x y=>
  have h:(match r.code x fr s with
   | some (.normal,fr',s')=>r.code y fr' s'
   | x=>x)=some (ex,fr',s'):=h
  split at h
  ·rename_i fr1 s1 hx;obtain⟨h1,h2,h3,h4⟩:=R.code _ _ _ _ _ _ hx;obtain⟨h5,h6,h7,h8⟩:=R.code _ _ _ _ _ _ h;refine⟨h1.trans h5,h6.trans h2,h7.trans h3,λK B ρ rr a w Q hp hf hQ=>wpIn_seq (wpL_wp (h4 K B ρ rr a w _ (hp.left h5) hf ?_))⟩;rintro e a' w' ⟨ρ',g,hex,hfr⟩;cases hex;exact wpL_wp (h8 K B ρ' rr a' w' Q (hp.right h1 g) hfr λe a' w' hpost=>hQ _ _ _ (hpost.left g h1 h5))
  ·rename_i hne;obtain⟨h1,h2,h3,h4⟩:=R.code _ _ _ _ _ _ h;refine⟨h1,h2,h3,λK B ρ rr a w Q hp hf hQ=>wpIn_seq (wpL_wp (h4 K B ρ rr a w _ hp hf ?_))⟩;intro e a' w' hpost;have h5:=hQ e a' w' hpost;obtain⟨ρ',g,hex,hfr⟩:=hpost;cases ex with
   | normal=>exact absurd h (hne _ _)
   | exit id=>cases hex;exact h5
   | ret=>cases hex;exact h5
   | pan x=>obtain⟨v,rfl,_⟩:=hex;exact h5
 | cond t x y=>
  have h:(match ev fr.env t with
   | some (.val (.bool true))=>r.code x fr s
   | some (.val (.bool false))=>r.code y fr s
   | _=>none)=some (ex,fr',s'):=h
  split at h
  ·rename_i hv;obtain⟨h1,h2,h3,h4⟩:=R.code _ _ _ _ _ _ h;exact⟨h1,h2,h3,λK B ρ rr a w Q hp hf hQ=>wpIn_cond_true (ev_sound hf.env hv).val_eq (wpL_wp (h4 K B ρ rr a w Q hp hf hQ))⟩
  ·rename_i hv;obtain⟨h1,h2,h3,h4⟩:=R.code _ _ _ _ _ _ h;exact⟨h1,h2,h3,λK B ρ rr a w Q hp hf hQ=>wpIn_cond_false (ev_sound hf.env hv).val_eq (wpL_wp (h4 K B ρ rr a w Q hp hf hQ))⟩
  ·cases h
 | block id b=>
  have h:(match r.code b fr s with
   | some (.exit id',fr',s')=>bif Nat.beq id' id then some (.normal,fr',s') else some (.exit id',fr',s')
   | x=>x)=some (ex,fr',s'):=h
  split at h
  ·rename_i id' fr1 s1 hx;obtain⟨h1,h2,h3,h4⟩:=R.code _ _ _ _ _ _ hx;cases hb:Nat.beq id' id with
   | true=>
    rw[hb,bif_t] at h;simp only[Option.some.injEq,Prod.mk.injEq] at h;obtain⟨rfl,rfl,rfl⟩:=h;have:=beq_of hb;subst this;refine⟨h1,h2,h3,λK B ρ rr a w Q hp hf hQ=>wpIn_block (wpL_wp (h4 K B ρ rr a w _ hp hf ?_))⟩;rintro e a' w' ⟨ρ',g,hex,hfr⟩;cases hex;simp only[Exit.inBlock,if_true];exact hQ _ _ _ ⟨ρ',g,rfl,hfr⟩
   | false=>
    rw[hb,bif_f] at h;simp only[Option.some.injEq,Prod.mk.injEq] at h;obtain⟨rfl,rfl,rfl⟩:=h;refine⟨h1,h2,h3,λK B ρ rr a w Q hp hf hQ=>wpIn_block (wpL_wp (h4 K B ρ rr a w _ hp hf ?_))⟩;rintro e a' w' ⟨ρ',g,hex,hfr⟩;cases hex;simp only[Exit.inBlock,if_neg (nbeq_of hb)];exact hQ _ _ _ ⟨ρ',g,rfl,hfr⟩
  ·rename_i hne;obtain⟨h1,h2,h3,h4⟩:=R.code _ _ _ _ _ _ h;refine⟨h1,h2,h3,λK B ρ rr a w Q hp hf hQ=>wpIn_block (wpL_wp (h4 K B ρ rr a w _ hp hf ?_))⟩;intro e a' w' hpost;have h5:=hQ e a' w' hpost;obtain⟨ρ',g,hex,hfr⟩:=hpost;cases ex with
   | normal=>cases hex;exact h5
   | exit id'=>exact absurd h (hne _ _ _)
   | ret=>cases hex;exact h5
   | pan x=>obtain⟨v,rfl,_⟩:=hex;exact h5
 | loop b=>
  have h:(match r.code b fr s with
   | some (.normal,fr',s')=>r.code (.loop b) fr' s'
   | x=>x)=some (ex,fr',s'):=h
  split at h
  ·rename_i fr1 s1 hx;obtain⟨h1,h2,h3,h4⟩:=R.code _ _ _ _ _ _ hx;obtain⟨h5,h6,h7,h8⟩:=R.code _ _ _ _ _ _ h;refine⟨h1.trans h5,h6.trans h2,h7.trans h3,λK B ρ rr a w Q hp hf hQ=>loopW_step (wpL_wp (h4 K B ρ rr a w _ (hp.left h5) hf ?_))⟩;rintro e a' w' ⟨ρ',g,hex,hfr⟩;cases hex;exact h8 K B ρ' rr a' w' Q (hp.right h1 g) hfr λe a' w' hpost=>hQ _ _ _ (hpost.left g h1 h5)
  ·rename_i hne;obtain⟨h1,h2,h3,h4⟩:=R.code _ _ _ _ _ _ h;refine⟨h1,h2,h3,λK B ρ rr a w Q hp hf hQ=>loopW_step (wpL_wp (h4 K B ρ rr a w _ hp hf ?_))⟩;intro e a' w' hpost;have h5:=hQ e a' w' hpost;obtain⟨ρ',g,hex,hfr⟩:=hpost;cases ex with
   | normal=>exact absurd h (hne _ _)
   | exit id=>cases hex;exact h5
   | ret=>cases hex;exact h5
   | pan x=>obtain⟨v,rfl,_⟩:=hex;exact h5
 | scope b=>
  have h:(match fr.rd with
   | none=>r.code b fr s
   | some _=>none)=some (ex,fr',s'):=h
  split at h
  ·rename_i hrd;obtain⟨h1,h2,h3,h4⟩:=R.code _ _ _ _ _ _ h;refine⟨h1,h2,h3,λK B ρ rr a w Q hp hf hQ=>?_⟩;have hrr:=hf.rd;rw[hrd] at hrr;obtain rfl:rr=none:=hrr;show (Code.scope b).wpIn (FW none) 0 P Q a w;refine (wpIn_wide (n:=0)).2 (wp_scope_straight ((wpIn_wide (n:=0)).1 (wpL_wp (h4 K B ρ none a w _ hp hf ?_))));intro e a' w' hpost;have h5:=hQ e a' w' hpost;obtain⟨ρ',g,hex,hfr⟩:=hpost;cases ex with
   | normal=>cases hex;exact h5
   | exit id=>cases hex;exact h5
   | ret=>cases hex;exact h5
   | pan x=>obtain⟨v,rfl,_⟩:=hex;exact h5
  ·cases h
 | rangeFunc g ps assign body=>
  have:=rangeN_sound R (show rangeN P r g ps.toList assign body fr s=some (ex,fr',s') from h);rwa [Array.toArray_toList] at this
 | _=>simp[codeN] at h
end
def Says(P:Program)(f:FuncId):Prop:=fnOk P f=true/\∀w,Calls P f #[] w λe w'=>e= .returned (.bool true)/\Below w.heap.size w w'
section
variable{P:Program}{r:Run}
end
def eqL{α:Type}(f:α->α->Bool):List α->List α->Bool
 | [],[]=>true
 | a::l,b::m=>f a b && eqL f l m
 | _,_=>false
def eqW:Value->Value->Bool
 | .bool a,.bool b=>a==b
 | .int k n,.int l m=>decide (k=l) && decide (n=m)
 | .string a,.string b=>eqL (λx y=>Nat.beq x.toNat y.toNat) a.data.toList b.data.toList
 | .pointer none,.pointer none=>true
 | .slice none a b,.slice none c d=>Nat.beq a c && Nat.beq b d
 | .map none,.map none=>true
 | .nilFunc,.nilFunc=>true
 | .nilIface,.nilIface=>true
 | _,_=>false
def eqC:Nat->CV->CV->Bool
 | 0,_,_=>false
 | n+1,x,y=>match x,y with
  | .any,.any=>true
  | .val v,.val w=>eqW v w
  | .ptr a b,.ptr c d=>Nat.beq a c && Nat.beq b d
  | .sl a b c d e,.sl a' b' c' d' e'=>Nat.beq a a' && Nat.beq b b' && Nat.beq c c' && decide (d=d') && Nat.beq e e'
  | .e0,.e0=>true
  | .map a,.map b=>Nat.beq a b
  | .agg l,.agg m=>eqL (eqC n) l m
  | .tup l,.tup m=>eqL (eqC n) l m
  | .fn f a b,.fn g c d=>Nat.beq f g && eqL (eqC n) a c && eqL (eqC n) b d
  | .yld a,.yld b=>Nat.beq a b
  | .iface t a,.iface u b=>Nat.beq t u && eqC n a b
  | _,_=>false
def eqO:CO->CO->Bool
 | .row t l a,.row u m b=>Nat.beq t u && eqL (eqC 9) l m && a==b
 | .map t l a,.map u m b=>Nat.beq t u && eqL (λx y=>eqC 9 x.1 y.1 && eqC 9 x.2.1 y.2.1 && Nat.beq x.2.2 y.2.2) l m && Nat.beq a b
 | _,_=>false
theorem eqL_eq{α:Type}{f:α->α->Bool}(hf:∀a b,f a b=true->a=b):∀l m,eqL f l m=true->l=m
 | [],[],_=>rfl
 | a::l,b::m,h=>by
  simp only[eqL,Bool.and_eq_true] at h;rw[hf a b h.1,eqL_eq hf l m h.2]
 | [],_::_,h=>by cases h
 | _::_,[],h=>by cases h
theorem eqW_eq(x y:Value)(h:eqW x y=true):x=y:=by
 unfold eqW at h;split at h <;> simp_all;rename_i a b;have h2:=eqL_eq (λ(x y:UInt8) h=>UInt8.toNat_inj.1 (Nat.eq_of_beq_eq_true h)) _ _ h;cases a;cases b;simp only[ByteArray.mk.injEq];exact Array.ext' h2
theorem eqC_eq:∀n x y,eqC n x y=true->x=y
 | 0,_,_,h=>by cases h
 | n+1,x,y,h=>by
  have ih:=eqC_eq n;have il:=eqL_eq ih;unfold eqC at h;split at h
  ·rfl
  ·rw[eqW_eq _ _ h]
  ·simp_all
  ·simp_all
  ·rfl
  ·simp_all
  ·rw[il _ _ h]
  ·rw[il _ _ h]
  ·simp only[Bool.and_eq_true,Nat.beq_eq] at h;rw[h.1.1,il _ _ h.1.2,il _ _ h.2]
  ·simp_all
  ·simp only[Bool.and_eq_true,Nat.beq_eq] at h;rw[h.1,ih _ _ h.2]
  ·cases h
theorem eqO_eq(x y:CO)(h:eqO x y=true):x=y:=by
 unfold eqO at h;split at h
 ·simp only[Bool.and_eq_true,Nat.beq_eq,beq_iff_eq] at h;rw[h.1.1,h.2,eqL_eq (eqC_eq 9) _ _ h.1.2]
 ·simp only[Bool.and_eq_true,Nat.beq_eq] at h;rw[h.1.1,h.2,eqL_eq (λx y h=>?_) _ _ h.1.2];simp only[Bool.and_eq_true,Nat.beq_eq] at h;obtain⟨a,b,c⟩:=x;obtain⟨a',b',c'⟩:=y;simp only at h;rw[eqC_eq _ _ _ h.1.1,eqC_eq _ _ _ h.1.2,h.2]
 ·cases h
structure Rec where
 f:FuncId
 nx:Nat
 args:List CV
 pre:List (Nat×CO)
 x:CV
 post:List (Nat×CO)
 nx':Nat
def hasP:List (Nat×CO)->Tr CO->Bool
 | [],_=>true
 | (k,o)::r,h=>(match h.get k with | some p=>eqO p o | none=>false) && hasP r h
def setP:List (Nat×CO)->Tr CO->Option (Tr CO)
 | [],h=>some h
 | (k,o)::r,h=>match Tr.set 24 h k (some o) with | some h'=>setP r h' | none=>none
def maskP:List (Nat×CO)->Nat->Nat
 | [],m=>m
 | (k,_)::r,m=>maskP r (Nat.lor m (Nat.shiftLeft 1 k))
def belP(l m:List (Nat×CO))(nx nx':Nat):Bool:=match l with
 | []=>true
 | (k,_)::r=>(bif Nat.blt k nx then m.any λx=>Nat.beq x.1 k else Nat.blt k nx') && belP r m nx nx'
def reC(g:Nat->Option Nat):Nat->CV->CV
 | 0,_=>.any
 | n+1,x=>match x with
  | .val v=>.val v
  | .ptr k o=>match g k with | some k'=>.ptr k' o | none=>.any
  | .sl k o l c z=>match g k with | some k'=>.sl k' o l c z | none=>.any
  | .e0=>.e0
  | .map k=>match g k with | some k'=>.map k' | none=>.any
  | .agg l=>.agg (l.map (reC g n))
  | .tup l=>.tup (l.map (reC g n))
  | .fn f a b=>.fn f (a.map (reC g n)) (b.map (reC g n))
  | .iface t x=>.iface t (reC g n x)
  | _=>.any
def reO(g:Nat->Option Nat):CO->CO
 | .row t l a=>.row t (l.map (reC g 9)) a
 | .map t l a=>.map t (l.map λx=>(x.1,reC g 9 x.2.1,x.2.2)) a
 | x=>x
def shK(b n k:Nat):Nat:=bif Nat.blt k b then k else k - b+n
def shS(b n k:Nat):Option Nat:=some (shK b n k)
def clip(b k:Nat):Option Nat:=bif Nat.blt k b then some k else none
def shP(b n:Nat)(x:Nat×CO):Nat×CO:=(shK b n x.1,reO (shS b n) x.2)
def useR(c:Rec)(args:List CV)(s:S):Option Ret:=match s with
 | ⟨h,n,R,W⟩=>bif eqL (eqC 9) args c.args && hasP c.pre h then (match setP (c.post.map (shP c.nx n)) h with
  | some h'=>some (.ok (reC (shS c.nx n) 9 c.x) ⟨h',n+(c.nx' - c.nx),maskP c.pre R,maskP (c.post.map (shP c.nx n)) W⟩)
  | none=>none) else none
def look:List Rec->FuncId->List CV->S->Option Ret
 | [],_,_,_=>none
 | c::r,f,args,s=>bif Nat.beq c.f f then (match useR c args s with | some x=>some x | none=>look r f args s) else look r f args s
def fixM(a b:Nat):Bool:=Nat.beq (Nat.lor a b) a
def checkR(c:Rec)(s:S):Bool:=match s with
 | ⟨h,nx,_,W⟩=>Nat.beq nx c.nx' && Nat.ble c.nx nx && hasP c.post h && belP c.post c.pre c.nx nx && eqL (eqC 9) (c.args.map (reC (clip c.nx) 9)) c.args && (c.pre.all λx=>Nat.blt x.1 c.nx && eqO (reO (clip c.nx) x.2) x.2) && fixM (maskP c.post 0) (W%2^c.nx)
def callM(P:Program)(l:List Rec)(r:Run)(f:FuncId)(args:List CV)(s:S):Option Ret:=match look l f args s with
 | some x=>some x
 | none=>callN P r f args s
def runM(P:Program)(l:List Rec):Nat->Run
 | 0=>⟨λ_ _ _=>none,λ_ _ _=>none,λ_ _ _=>none⟩
 | n+1=>⟨callM P l (runM P l n),codeN P (runM P l n),roundN P (runM P l n)⟩
def recT(P:Program)(l:List Rec)(n:Nat)(c:Rec):Bool:=match setP c.pre .nil with
 | some h0=>(match (runM P l n).call c.f c.args ⟨h0,c.nx,0,0⟩ with
  | some (.ok x s)=>eqC 9 x c.x && checkR c s
  | _=>false)
 | none=>false
def RecS(P:Program)(c:Rec):Prop:=∃h0 s,setP c.pre .nil=some h0/\CallS P c.f c.args ⟨h0,c.nx,0,0⟩ (.ok c.x s)/\checkR c s=true
theorem setP_get:∀(l:List (Nat×CO)) (h h':Tr CO),setP l h=some h'->∀k,(h'.get k=h.get k/\∀o,(k,o)∉l)\/∃o,(k,o)∈l/\h'.get k=some o
 | [],h,h',e,k=>by cases e;exact .inl ⟨rfl,λo=>List.not_mem_nil⟩
 | (j,p)::r,h,h',e,k=>by
  simp only[setP] at e;split at e
  ·rename_i h1 he;rcases setP_get r h1 h' e k with⟨h2,h3⟩ | ⟨o,h2,h3⟩
   ·rw[Tr.get_set _ _ _ _ _ he] at h2;by_cases hk:k=j
    ·subst hk;rw[if_pos rfl] at h2;exact .inr ⟨p,List.mem_cons_self,h2⟩
    ·rw[if_neg hk] at h2;refine .inl ⟨h2,λo ho=>?_⟩;rcases List.mem_cons.1 ho with h4 | h4
     ·cases h4;exact hk rfl
     ·exact h3 o h4
   ·exact .inr ⟨o,List.mem_cons_of_mem _ h2,h3⟩
  ·cases e
theorem hasP_get:∀(l:List (Nat×CO)) (h:Tr CO),hasP l h=true->∀k o,(k,o)∈l->h.get k=some o
 | [],h,e,k,o,hm=>by cases hm
 | (j,p)::r,h,e,k,o,hm=>by
  simp only[hasP,Bool.and_eq_true] at e;rcases List.mem_cons.1 hm with h1 | h1
  ·cases h1;have:=e.1;split at this
   ·rename_i q hq;rw[hq,eqO_eq _ _ this]
   ·cases this
  ·exact hasP_get r h e.2 k o h1
theorem maskP_bit:∀(l:List (Nat×CO)) (m k:Nat),(maskP l m).testBit k=true↔m.testBit k=true\/∃o,(k,o)∈l
 | [],m,k=>by simp[maskP]
 | (j,p)::r,m,k=>by
  rw[maskP,maskP_bit r];have e:(Nat.lor m (Nat.shiftLeft 1 j)).testBit k=(m.testBit k || decide (j=k)):=by
   show (m ||| (1<<<j)).testBit k=_;rw[Nat.testBit_or,Nat.one_shiftLeft,Nat.testBit_two_pow]
  rw[e,Bool.or_eq_true,decide_eq_true_eq];constructor
  ·rintro ((h | h) | ⟨o,h⟩)
   ·exact .inl h
   ·exact .inr ⟨p,by rw[h];exact List.mem_cons_self⟩
   ·exact .inr ⟨o,List.mem_cons_of_mem _ h⟩
  ·rintro (h | ⟨o,h⟩)
   ·exact .inl (.inl h)
   ·rcases List.mem_cons.1 h with h1 | h1
    ·cases h1;exact .inl (.inr rfl)
    ·exact .inr ⟨o,h1⟩
theorem belP_all:∀(l m:List (Nat×CO)) (nx nx':Nat),belP l m nx nx'=true->∀k o,(k,o)∈l->(k<nx/\∃o',(k,o')∈m)\/(nx<=k/\k<nx')
 | [],m,nx,nx',h,k,o,hm=>by cases hm
 | (j,p)::r,m,nx,nx',h,k,o,hm=>by
  simp only[belP,Bool.and_eq_true] at h;rcases List.mem_cons.1 hm with h1 | h1
  ·cases h1;have h2:=h.1;cases hb:Nat.blt j nx with
   | true=>
    rw[hb,bif_t,List.any_eq_true] at h2;obtain⟨⟨k',o'⟩,hx,he⟩:=h2;have:k'=j:=Nat.eq_of_beq_eq_true he;subst this;exact .inl ⟨Nat.le_of_ble_eq_true hb,o',hx⟩
   | false=>
    rw[hb,bif_f] at h2;refine .inr ⟨Nat.le_of_not_lt λhlt=>?_,Nat.le_of_ble_eq_true h2⟩;have:Nat.blt j nx=true:=Nat.ble_eq_true_of_le hlt;rw[hb] at this;cases this
  ·exact belP_all r m nx nx' h.2 k o h1
theorem hasP_eq:∀(l:List (Nat×CO)) (h:Tr CO),hasP l h=true->∀k o,(k,o)∈l->∃p,eqO p o=true
 | [],h,e,k,o,hm=>by cases hm
 | (j,p)::r,h,e,k,o,hm=>by
  simp only[hasP,Bool.and_eq_true] at e;rcases List.mem_cons.1 hm with h1 | h1
  ·cases h1;have:=e.1;split at this
   ·rename_i q hq;exact⟨q,this⟩
   ·cases this
  ·exact hasP_eq r h e.2 k o h1
theorem CRL.re{ρ ρ':Rho}{f:CV->CV}(hf:∀x v,CR ρ x v->CR ρ' (f x) v):∀{xs:List CV} {vs:List Value},CRL ρ xs vs->CRL ρ' (xs.map f) vs
 | _,_,.nil=>.nil
 | _,_,.cons x v xs vs h t=>.cons _ _ _ _ (hf x v h) (CRL.re hf t)
theorem reC_ok{g:Nat->Option Nat}{ρ ρ':Rho}(hg:∀k k' y,g k=some k'->ρ k=some y->ρ' k'=some y):∀n x v,CR ρ x v->CR ρ' (reC g n x) v
 | 0,x,v,h=>.any v
 | n+1,x,v,h=>by
  have ih:=reC_ok hg n;cases h <;> simp only[reC]
  ·exact .any _
  ·exact .val _
  ·rename_i h;split
   ·rename_i hk;exact .ptr _ _ _ _ (hg _ _ _ hk h)
   ·exact .any _
  ·rename_i h hc;split
   ·rename_i hk;exact .sl _ _ _ _ _ _ _ (hg _ _ _ hk h) hc
   ·exact .any _
  ·rename_i h hc hm hn;split
   ·rename_i hk;exact .slO _ _ _ _ _ _ _ (hg _ _ _ hk h) hc hm hn
   ·exact .any _
  ·exact .e0 _ _
  ·rename_i h;split
   ·rename_i hk;exact .map _ _ _ (hg _ _ _ hk h)
   ·exact .any _
  ·rename_i h;exact .agg _ _ (h.re ih)
  ·rename_i h;exact .tup _ _ (h.re ih)
  ·rename_i h h';exact .fn _ _ _ _ _ (h.re ih) (h'.re ih)
  ·exact .any _
  ·rename_i h;exact .iface _ _ _ (ih _ _ h)
theorem F2.map{α β γ:Type}{R:α->β->Prop}{R':γ->β->Prop}{f:α->γ}(hi:∀x y,R x y->R' (f x) y):∀{xs:List α} {ys:List β},F2 R xs ys->F2 R' (xs.map f) ys
 | _,_,.nil=>.nil
 | _,_,.cons h t=>.cons (hi _ _ h) (t.map hi)
theorem reO_ok{P:Program}{g:Nat->Option Nat}{ρ ρ':Rho}(hg:∀k k' y,g k=some k'->ρ k=some y->ρ' k'=some y){p o:CO}{n:Nat}{ob:Obj}(he:eqO p o=true)(h:OR P ρ n o ob):OR P ρ' n (reO g o) ob:=by
 have ih:=reC_ok hg 9;cases o with
 | row t cs a=>cases a with
  | false=>obtain⟨vs,h1,h2,h3⟩:=h;exact⟨vs,h1,h2,h3.re ih⟩
  | true=>obtain⟨vs,h1,h2,h3,h4⟩:=h;exact⟨vs,h1,h2,by rwa [List.length_map],by rw[List.length_map];exact h4.re ih⟩
 | map kt es c=>obtain⟨en,h1,h2,h3⟩:=h;exact⟨en,h1,h2.map λ_ _ ⟨a,b,c,d⟩=>⟨a,ih _ _ b,c,d⟩,h3⟩
 | _=>cases p <;> cases he
theorem shK_lt{b n k:Nat}(h:k<b):shK b n k=k:=by
 have:Nat.blt k b=true:=Nat.ble_eq_true_of_le h;unfold shK;rw[this];rfl
theorem shK_ge{b n k:Nat}(h:b<=k):shK b n k=k - b+n:=by
 have:Nat.blt k b=false:=by
  cases hb:Nat.blt k b with
  | true=>exact absurd (Nat.le_of_ble_eq_true hb) Yb
  | false=>rfl
 unfold shK;rw[this];rfl
theorem useR_ok{P:Program}{c:Rec}(hc:RecS P c){args:List CV}{s:S}{res:Ret}(hu:useR c args s=some res):CallS P c.f args s res:=by
 obtain⟨h0,s1,hs0,⟨e0,hfn,hcall⟩,hchk⟩:=hc;obtain⟨h,n,R,W⟩:=s;obtain⟨h1,nx1,R1,W1⟩:=s1;unfold useR at hu;simp only at hu;cases hb:eqL (eqC 9) args c.args && hasP c.pre h with
 | false=>rw[hb,bif_f] at hu;cases hu
 | true=>
  rw[hb,bif_t] at hu;simp only[Bool.and_eq_true] at hb;obtain rfl:=eqL_eq (eqC_eq 9) _ _ hb.1;have hpre:=hasP_get _ _ hb.2;split at hu
  ·rename_i h' hset;cases hu;simp only[checkR,fixM,Bool.and_eq_true] at hchk;obtain⟨⟨⟨⟨⟨⟨hnx,hle⟩,hpost⟩,hbel⟩,hargs⟩,hpc⟩,hfix⟩:=hchk;have hnx:=Nat.eq_of_beq_eq_true hnx;subst hnx;have hle:=Nat.le_of_ble_eq_true hle;have hpe:=hasP_eq _ _ hpost;have hpost:=hasP_get _ _ hpost;have hbel:=belP_all _ _ _ _ hbel;have hargs:=eqL_eq (eqC_eq 9) _ _ hargs;have hpc:∀k o,(k,o)∈c.pre->k<c.nx/\eqO (reO (clip c.nx) o) o=true:=λk o hm=>by
    have:=List.all_eq_true.1 hpc (k,o) hm;simp only[Bool.and_eq_true] at this;exact⟨Nat.le_of_ble_eq_true this.1,this.2⟩
   generalize hq:c.post.map (shP c.nx n)=q at hset;have hget:=setP_get _ _ _ hset;have hg0:=setP_get _ _ _ hs0;have hin:∀k o,(k,o)∈c.post->(shK c.nx n k,reO (shS c.nx n) o)∈q:=λk o hm=>hq▸List.mem_map.2 ⟨(k,o),hm,rfl⟩;have hout:∀k o,(k,o)∈q->∃j p,(j,p)∈c.post/\k=shK c.nx n j/\o=reO (shS c.nx n) p:=λk o hm=>by
    rw[<-hq] at hm;obtain⟨⟨j,p⟩,h1,h2⟩:=List.mem_map.1 hm;cases h2;exact⟨j,p,h1,rfl,rfl⟩
   have hW:∀k,k<c.nx->W1.testBit k=true->∃o,(k,o)∈c.post:=λk hk hw=>by
    have:=(maskP_bit c.post 0 k).1 (by
     have e:(Nat.lor (maskP c.post 0) (W1%2^c.nx)).testBit k=true:=by
      show ((maskP c.post 0) ||| (W1%2^c.nx)).testBit k=true;rw[Nat.testBit_or,Nat.testBit_mod_two_pow,hw];simp[hk]
     rwa [Nat.eq_of_beq_eq_true hfix] at e)
    exact this.resolve_left Yn
   have hpp:∀k o,(k,o)∈c.post->k<c.nx->∃o',(k,o')∈c.pre:=λk o hm hk=>((hbel k o hm).resolve_right λx=>by omega).2;have hkq:∀k o,(k,o)∈q->(∃o',(k,o')∈c.pre)\/(n<=k/\k<n+(c.nx' - c.nx)):=λk o hm=>by
    obtain⟨j,p,h2,rfl,rfl⟩:=hout k o hm;rcases hbel j p h2 with h3 | h3
    ·rw[shK_lt h3.1];exact .inl h3.2
    ·rw[shK_ge h3.1];exact .inr Yb
   have hev:Ev ⟨h,n,R,W⟩ ⟨h',n+(c.nx' - c.nx),maskP c.pre R,maskP q W⟩:=by
    refine⟨Nat.le_add_right _ _,λk hk=>(maskP_bit _ _ _).2 (.inl hk),λk hk=>(maskP_bit _ _ _).2 (.inl hk),λk hk=>?_,λk hk hw=>?_,λhwf k o ho=>?_,λhwf hwb k hk=>?_⟩
    ·rcases hget k with⟨h2,_⟩ | ⟨o,h2,_⟩
     ·exact h2
     ·rw[(maskP_bit _ _ _).2 (.inr ⟨o,h2⟩)] at hk;cases hk
    ·rcases (maskP_bit _ _ _).1 hw with h2 | ⟨o,h2⟩
     ·exact .inl h2
     ·rcases hkq k o h2 with⟨o',h3⟩ | h3
      ·exact .inr ⟨o',hpre k o' h3⟩
      ·simp only at hk;omega
    ·rcases hget k with⟨h2,_⟩ | ⟨p,h2,_⟩
     ·exact Nat.lt_of_lt_of_le (hwf k o (h2▸ho)) (Nat.le_add_right _ _)
     ·rcases hkq k p h2 with⟨o',h3⟩ | h3
      ·exact Nat.lt_of_lt_of_le (hwf k o' (hpre k o' h3)) (Nat.le_add_right _ _)
      ·exact h3.2
    ·rcases (maskP_bit _ _ _).1 hk with h2 | ⟨p,h2⟩
     ·exact Nat.lt_of_lt_of_le (hwb k h2) (Nat.le_add_right _ _)
     ·rcases hkq k p h2 with⟨o',h3⟩ | h3
      ·exact Nat.lt_of_lt_of_le (hwf k o' (hpre k o' h3)) (Nat.le_add_right _ _)
      ·exact h3.2
   refine⟨hev,hfn,λK B ρ vs w hp hvs=>?_⟩;have hKpre:∀k o,(k,o)∈c.pre->K k:=λk o hm=>hp.cov.R k ((maskP_bit _ _ _).2 (.inr ⟨o,hm⟩));have h0get:∀k o,h0.get k=some o->(k,o)∈c.pre:=λk o ho=>by
    rcases hg0 k with⟨h2,_⟩ | ⟨p,h2,h3⟩
    ·rw[h2] at ho;cases ho
    ·rw[h3] at ho;cases ho;exact h2
   let ρ0:Rho:=λk=>if k<c.nx then ρ k else none
   have r0:∀k y,ρ0 k=some y->k<c.nx/\ρ k=some y:=λk y h=>by
    by_cases hk:k<c.nx
    ·exact⟨hk,by simpa [ρ0,hk] using h⟩
    ·simp[ρ0,hk] at h
   have r1:∀k,k<c.nx->ρ0 k=ρ k:=λk hk=>by simp[ρ0,hk]
   have hclip:∀k k' y,clip c.nx k=some k'->ρ k=some y->ρ0 k'=some y:=λk k' y h1 h2=>by
    unfold clip at h1;cases hb:Nat.blt k c.nx with
    | true=>rw[hb,bif_t] at h1;cases h1;rw[r1 _ (Nat.le_of_ble_eq_true hb)];exact h2
    | false=>rw[hb,bif_f] at h1;cases h1
   have hp0:Pre P (λ_=>True) B ρ0 ⟨h0,c.nx,0,0⟩ ⟨h1,c.nx',R1,W1⟩ w:=by
    refine⟨⟨λ_ _=>trivial,λ_ _=>trivial,λ_ _=>trivial⟩,⟨λk o _ ho=>?_,λk k' o o' b n n' _ _ ho ho' h2 h3=>?_⟩,hp.base,λk h2 _=>?_,λk o ho=>(hpc k o (h0get k o ho)).1⟩
    ·have hm:=h0get k o ho;obtain⟨b,m,ob,a1,a2,a3,a4⟩:=hp.mem.obj k o (hKpre k o hm) (hpre k o hm);have hce:=(hpc k o hm).2;exact⟨b,m,ob,by rw[r1 _ (hpc k o hm).1];exact a1,a2,a3,eqO_eq _ _ hce▸reO_ok hclip hce a4⟩
    ·exact hp.mem.inj k k' o o' b n n' (hKpre k o (h0get k o ho)) (hKpre k' o' (h0get k' o' ho')) (hpre k o (h0get k o ho)) (hpre k' o' (h0get k' o' ho')) (r0 k _ h2).2 (r0 k' _ h3).2
    ·simp only[ρ0];rw[if_neg (by simp only at h2;omega)]
   have hwb:=e0.wb (λk o ho=>hp0.wf k o ho) (λk hk=>by simp at hk);have hold:∀k b m,W1.testBit k=true->ρ0 k=some (b,m)->∃o o',(k,o)∈c.post/\(k,o')∈c.pre/\(k,reO (shS c.nx n) o)∈q:=λk b m hw hk=>by
    have hlt:=(r0 k _ hk).1;obtain⟨o,ho⟩:=hW k hlt hw;obtain⟨o',ho'⟩:=hpp k o ho hlt;exact⟨o,o',ho,ho',by have:=hin k o ho;rwa [shK_lt hlt] at this⟩
   refine (hcall (λ_=>True) B ρ0 vs w hp0 (hargs▸hvs.re (reC_ok hclip 9))).mono λe w' hr=>?_;obtain⟨ρ1,v,rfl,g,hx⟩:=hr
   let ρ':Rho:=λk=>if n<=k/\k<n+(c.nx' - c.nx) then ρ1 (k - n+c.nx) else ρ k
   have d1:∀k,k<n\/n+(c.nx' - c.nx)<=k->ρ' k=ρ k:=λk hk=>by simp only[ρ'];rw[if_neg Yb]
   have d2:∀k,n<=k->k<n+(c.nx' - c.nx)->ρ' k=ρ1 (k - n+c.nx):=λk h1 h2=>by simp only[ρ'];rw[if_pos ⟨h1,h2⟩]
   have hext:Le ρ ρ':=λk y hk=>by
    by_cases hr:n<=k/\k<n+(c.nx' - c.nx)
    ·rw[hp.fresh k hr.1 hr.2] at hk;cases hk
    ·rw[d1 k Yb];exact hk
   have hsh:∀k y,ρ1 k=some y->ρ' (shK c.nx n k)=some y:=λk y hk=>by
    by_cases hlt:k<c.nx
    ·rw[g.dom k (.inl hlt)] at hk;rw[shK_lt hlt];exact hext k y (r0 k y hk).2
    ·by_cases h2:k<c.nx'
     ·rw[shK_ge Yb,d2 _ Yb Yb];have:k - c.nx+n - n+c.nx=k:=by omega
      rw[this];exact hk
     ·rw[g.dom k (.inr Yaj)] at hk;exact absurd (r0 k y hk).1 hlt
   have hsS:∀k k' y,shS c.nx n k=some k'->ρ1 k=some y->ρ' k'=some y:=λk k' y h1 h2=>by cases h1;exact hsh k y h2
   have pos:∀j p b m,(j,p)∈c.post->ρ' (shK c.nx n j)=some (b,m)->ρ1 j=some (b,m):=λj p b m hm hk=>by
    obtain⟨b1,m1,ob,a1,_⟩:=g.mem.obj j p trivial (hpost j p hm);rw[hsh j _ a1] at hk;rw[a1];exact hk
   refine⟨ρ',v,rfl,⟨hext,d1,⟨λk o hK ho=>?_,λk k' o o' b m m' hK hK' ho ho' hk hk'=>?_⟩,g.size,g.os,g.tape,g.out,λb hb hfr=>?_,λk b m h2 h3 hk=>?_⟩,reC_ok hsS 9 _ _ hx⟩
   ·rcases hget k with⟨h2,hnp⟩ | ⟨p,h2,h3⟩
    ·have ho2:h.get k=some o:=h2▸ho;obtain⟨b,m,ob,a1,a2,a3,a4⟩:=hp.mem.obj k o hK ho2;refine⟨b,m,ob,hext k _ a1,a2,?_,a4.le hext⟩;rw[g.frame b (Array.getElem?_eq_some_iff.1 a3).1 λj m' hj hρ=>?_];exact a3;obtain⟨_,u,_,hu,hv⟩:=hold j b m' hj hρ;have:=hp.mem.inj k j o u b m m' hK (hKpre j u hu) ho2 (hpre j u hu) a1 (r0 j _ hρ).2;subst this;exact hnp _ hv
    ·obtain⟨j,p,h4,rfl,rfl⟩:=hout k p h2;rw[h3] at ho;cases ho;obtain⟨b,m,ob,a1,a2,a3,a4⟩:=g.mem.obj j p trivial (hpost j p h4);obtain⟨p2,he⟩:=hpe j p h4;exact⟨b,m,ob,hsh j _ a1,a2,a3,reO_ok hsS he a4⟩
   ·-- one of them was there, and is kept; the other stands in post
    have mix:∀j k' p o' b m m',K k'->(j,p)∈c.post->h.get k'=some o'->(∀o,(k',o)∉q)->ρ' (shK c.nx n j)=some (b,m)->ρ' k'=some (b,m')->False:=λj k' p o' b m m' hK' hm ho' hnp hk hk'=>by
     have hlt':k'<n:=hp.wf k' o' ho';have hk2:ρ k'=some (b,m'):=(d1 k' (.inl hlt'))▸hk';have hj:=pos j p b m hm hk;have was:∀i u l,(i,u)∈c.pre->(∃o,(i,o)∈q)->ρ i=some (b,l)->False:=λi u l hu ⟨o,ho⟩ hi=>by
      have:=hp.mem.inj k' i o' u b m' l hK' (hKpre i u hu) ho' (hpre i u hu) hk2 hi;subst this;exact hnp o ho
     rcases hbel j p hm with⟨hlt,u,hu⟩ | ⟨h4,h5⟩
     ·rw[g.dom j (.inl hlt)] at hj;exact was j u m hu ⟨_,by have:=hin j p hm;rwa [shK_lt hlt] at this⟩ (r0 j _ hj).2
     ·rcases g.newb j b m h4 h5 hj with h6 | ⟨i,l,hi,hρ⟩
      ·obtain⟨b2,n2,ob,a1,a2,a3,a4⟩:=hp.mem.obj k' o' hK' ho';rw[hk2] at a1;cases a1;have:=(Array.getElem?_eq_some_iff.1 a3).1;exact absurd this (Nat.not_lt_of_le h6)
      ·obtain⟨_,u,_,hu,hv⟩:=hold i b l hi hρ;exact was i u l hu ⟨_,hv⟩ (r0 i _ hρ).2
    rcases hget k with⟨h2,hnp⟩ | ⟨p,h2,h3⟩ <;> rcases hget k' with⟨h2',hnp'⟩ | ⟨p',h2',h3'⟩
    ·have l1:=hp.wf k o (h2▸ho);have l2:=hp.wf k' o' (h2'▸ho');exact hp.mem.inj k k' o o' b m m' hK hK' (h2▸ho) (h2'▸ho') ((d1 k (.inl l1))▸hk) ((d1 k' (.inl l2))▸hk')
    ·obtain⟨j,p,h4,rfl,rfl⟩:=hout k' p' h2';exact (mix j k p o b m' m hK h4 (h2▸ho) hnp hk' hk).elim
    ·obtain⟨j,p,h4,rfl,rfl⟩:=hout k p h2;exact (mix j k' p o' b m m' hK' h4 (h2'▸ho') hnp' hk hk').elim
    ·obtain⟨j,p,h4,rfl,rfl⟩:=hout k p h2;obtain⟨j',p',h4',rfl,rfl⟩:=hout k' p' h2';have:=g.mem.inj j j' p p' b m m' trivial trivial (hpost j p h4) (hpost j' p' h4') (pos j p b m h4 hk) (pos j' p' b m' h4' hk');rw[this]
   ·refine g.frame b hb λk m hk hρ=>?_;obtain⟨o,_,_,_,hv⟩:=hold k b m hk hρ;exact hfr k m ((maskP_bit _ _ _).2 (.inr ⟨_,hv⟩)) (r0 k _ hρ).2
   ·rw[d2 k h2 h3] at hk;simp only at h2 h3;rcases g.newb (k - n+c.nx) b m (by simp only;omega) (by simp only;omega) hk with h6 | ⟨j,l,hj,hρ⟩
    ·exact .inl h6
    ·obtain⟨o,_,_,_,hv⟩:=hold j b l hj hρ;exact .inr ⟨j,l,(maskP_bit _ _ _).2 (.inr ⟨_,hv⟩),(r0 j _ hρ).2⟩
  ·cases hu
theorem look_ok{P:Program}:∀(l:List Rec),(∀c,c∈l->RecS P c)->∀{f:FuncId} {args:List CV} {s:S} {res:Ret},look l f args s=some res->CallS P f args s res
 | [],_,_,_,_,_,h=>by cases h
 | c::r,hc,f,args,s,res,h=>by
  have ih:=look_ok r (λx hx=>hc x (List.mem_cons_of_mem _ hx)) (f:=f) (args:=args) (s:=s) (res:=res);simp only[look] at h;cases hb:Nat.beq c.f f with
  | false=>rw[hb,bif_f] at h;exact ih h
  | true=>
   rw[hb,bif_t] at h;split at h
   ·rename_i x hu;cases h;exact (Nat.eq_of_beq_eq_true hb)▸useR_ok (hc c List.mem_cons_self) hu
   ·exact ih h
theorem runM_ok{P:Program}(hl:laidOutB P=true)(hmix:P.follows .mixedOrders=true){l:List Rec}(hc:∀c,c∈l->RecS P c):∀n,RunOk P (runM P l n)
 | 0=>⟨λ_ _ _ _ h=>Yab,λ_ _ _ _ _ _ h=>Yab,λ_ _ _ _ h=>Yab⟩
 | n+1=>⟨λf args s res h=>(by
   have h:callM P l (runM P l n) f args s=some res:=h;unfold callM at h;split at h
   ·rename_i hx;cases h;exact look_ok l hc hx
   ·exact callN_sound hl (runM_ok hl hmix hc n) h),λ_ _ _ _ _ _ h=>codeN_sound hl hmix (runM_ok hl hmix hc n) h,λ_ _ _ _ h=>roundN_sound hl (runM_ok hl hmix hc n) h⟩
theorem rec_run{P:Program}(hl:laidOutB P=true)(hmix:P.follows .mixedOrders=true){l:List Rec}(hc:∀c,c∈l->RecS P c){n:Nat}{c:Rec}(h:recT P l n c=true):RecS P c:=by
 unfold recT at h;split at h
 ·rename_i h0 hs;split at h
  ·rename_i x s hr;simp only[Bool.and_eq_true] at h;obtain rfl:=eqC_eq _ _ _ h.1;exact⟨h0,s,hs,(runM_ok hl hmix hc n).call _ _ _ _ hr,h.2⟩
  ·cases h
 ·cases h
theorem rs0{P:Program}:∀c,c∈([]:List Rec)->RecS P c:=λc h=>by cases h
theorem rsC{P:Program}{a:Rec}{l:List Rec}(h:RecS P a)(t:∀c,c∈l->RecS P c):∀c,c∈a::l->RecS P c:=List.forall_mem_cons.2 ⟨h,t⟩
theorem rec_says{P:Program}{c:Rec}(hc:RecS P c)(ha:c.args= [])(hp:c.pre= [])(hx:c.x= .val (.bool true))(hn:c.nx=0):Says P c.f:=by
 obtain⟨h0,s,hs,⟨h1,h2,h3⟩,_⟩:=hc;rw[hp] at hs;cases hs;refine⟨h2,λw=>?_⟩;rw[hn,ha,hx] at h3;have hp:Pre P (λ_=>True) w.heap.size (λ_=>none) ⟨.nil,0,0,0⟩ s w:=
  ⟨⟨λ_ _=>trivial,λ_ _=>trivial,λ_ _=>trivial⟩,⟨λk o _ ho=>(by cases ho),λk k' o o' b n n' _ _ ho=>(by cases ho)⟩,Nat.le_refl _,λ_ _ _=>rfl,λk o ho=>(by cases ho)⟩
 refine (h3 _ _ _ [] w hp .nil).mono λe w' hr=>?_;obtain⟨ρ',u,rfl,g,hx⟩:=hr;rw[hx.val_eq];exact⟨rfl,g.os,g.tape,g.out,g.size,λk hk=>g.frame k hk λj m _ hρ=>(by cases hρ)⟩
end Go.Ev
