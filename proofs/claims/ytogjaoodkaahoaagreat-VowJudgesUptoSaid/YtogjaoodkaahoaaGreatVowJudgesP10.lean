/- Part 10 of the proof: contracts of functions of the program and what they need. No condition beyond those that each theorem names. -/
import Derived.Test.YtogjaoodkaahoaaGreatVowJudgesP9
import Derived.Maps.Keyed
import Derived.DeepKeys4
import Derived.Deep.AppendSrc
import Derived.Laws.Concat
set_option maxHeartbeats 1000000
set_option linter.unusedVariables false
set_option linter.unusedSimpArgs false
namespace Go.Ev
open Go.Eng
open Go.RowKit (Below)
section
variable{P:Program}{env:Tr CV}{o:Oper}{s:S}{res:Ret}
theorem slice_ok{t:TypeId}{x:Operand}{lo hi mx:Option Operand}{sz:Nat}{a r:CV}{l h m:Option CV}(hop:o.op= .slice t x lo hi mx)(ht:slSize P t=some sz)(hx:ev env x=some a)(hl:evO env lo=some l)(hh:evO env hi=some h)(hm:evO env mx=some m)(hs:(hi.isSome || !mx.isSome)=true)(hr:sliceV sz a l h m=some r):OpOk P env o s (.ok r s):=by
 refine .pure Yah λρ f w he=>?_;have hv:=ev_sound he hx;have bd:∀{d n:Nat} {q:Option Operand} {c:Option CV},evO env q=some c->bound d c=some n->bnd d (q.map f.eval) n:=λ{d n q c} hq hb=>by
  rcases evO_sound he hq with⟨rfl,e⟩ | ⟨z,v,rfl,e,hz⟩
  ·rw[e];simp only[bound,Option.some.injEq] at hb;exact hb.symm
  ·rw[e];obtain⟨k,rfl⟩:=natAny_eq (by simpa [bound] using hb);exact⟨k,hz.val_eq⟩
 have hs':(hi.map f.eval).isSome || !(mx.map f.eval).isSome:=by simpa using hs
 have run:∀{u v:Value},f.eval x=u->(Instr.sliceAt t u (lo.map f.eval) (hi.map f.eval) (mx.map f.eval)).run P w= .ok v w->(execOp f.eval o).run P w= .ok (.value v) w:=λe1 e2=>by simp[execOp,hop,e1,e2]
 generalize hu:f.eval x=u at hv;unfold sliceV at hr;split at hr
 ·rename_i k q n c z;cases hz:Nat.beq z sz with
  | false=>rw[hz] at hr;cases hr
  | true=>
   have:=beq_of hz;subst this;rw[hz,bif_t] at hr;split at hr
   ·rename_i L H M e1 e2 e3;cases hc:(Nat.ble L H && Nat.ble H M && Nat.ble M c) with
    | false=>rw[hc] at hr;cases hr
    | true=>
     rw[hc,bif_t] at hr;simp only[Bool.and_eq_true] at hc;have q1:=Nat.le_of_ble_eq_true hc.1.1;have q2:=Nat.le_of_ble_eq_true hc.1.2;have q3:=Nat.le_of_ble_eq_true hc.2;cases hv with
     | sl _ _ _ _ _ b n' hρ hnc=>
      have hrun:=run_sliceG ht (some ⟨b,q,none⟩) n c L H M _ _ _ (bd hl e1) (bd hh e2) (bd hm e3) hs' q1 q2 q3 w;refine⟨_,run hu hrun,?_⟩;cases hml:Nat.beq M L with
      | true=>
       have:=beq_of hml;subst this;rw[hml,bif_t] at hr;cases hr;rw[if_pos rfl,show H - M=0 by omega,Nat.sub_self];exact .sl _ _ _ _ _ _ _ hρ (Nat.le_refl _)
      | false=>
       rw[hml,bif_f] at hr;cases hr;rw[if_neg (nbeq_of hml),Option.map_some,Addr.add_lit];exact .sl _ _ _ _ _ _ _ hρ Yb
   ·cases hr
 ·rename_i k q n z;cases hz:Nat.beq z sz with
  | false=>rw[hz] at hr;cases hr
  | true=>
   have:=beq_of hz;subst this;rw[hz,bif_t] at hr;split at hr
   ·rename_i L H e1 e2;cases hc:(Nat.ble L H && Nat.ble H n) with
    | false=>rw[hc] at hr;cases hr
    | true=>
     rw[hc,bif_t] at hr;simp only[Bool.and_eq_true] at hc;have q1:=Nat.le_of_ble_eq_true hc.1;have q2:=Nat.le_of_ble_eq_true hc.2;cases hv with
     | slO _ _ _ c _ b n' hρ hnc hm9 hn9=>
      have hrun:=run_sliceG ht (some ⟨b,q,none⟩) n c L H c _ _ _ (bd hl e1) (bd hh e2) (bd hm rfl) hs' q1 Yb (Nat.le_refl _) w;refine⟨_,run hu hrun,?_⟩;cases hl0:Nat.beq L 0 with
      | true=>
       have:=beq_of hl0;subst this;rw[hl0,bif_t] at hr;cases hr;have e:(if c=0 then (some ⟨b,q,none⟩:Option Addr) else Option.map (λ(x:Addr)=>x.add (0*z)) (some ⟨b,q,none⟩))=some ⟨b,q,none⟩:=by
        split
        ·rfl
        ·simp[Addr.add]
       rw[e,Nat.sub_zero,Nat.sub_zero];exact .slO _ _ _ _ _ _ _ hρ Yb hm9 hn9
      | false=>
       rw[hl0,bif_f] at hr;cases hln:Nat.blt L n with
       | true=>
        have hln':=blt_of hln;rw[hln,bif_t] at hr;cases hr;rw[if_neg Yb,Option.map_some,Addr.add_lit];refine .slO _ _ _ _ _ _ _ hρ Yb Yb ?_;rw[<-hn9,Nat.sub_mul];have:L*z<=c*z:=Nat.mul_le_mul_right _ Yb;omega
       | false=>
        rw[hln,bif_f] at hr;cases hr;rw[blt_eq,decide_eq_false_iff_not] at hln;rw[show H - L=0 by omega];exact .e0 _ _
   ·rename_i L H M0 e1 e2;split at hr
    ·rename_i M e3;cases hc:(Nat.ble L H && Nat.ble H M && Nat.ble M n) with
     | false=>rw[hc] at hr;cases hr
     | true=>
      rw[hc,bif_t] at hr;simp only[Bool.and_eq_true] at hc;have q1:=Nat.le_of_ble_eq_true hc.1.1;have q2:=Nat.le_of_ble_eq_true hc.1.2;have q3:=Nat.le_of_ble_eq_true hc.2;cases hv with
      | slO _ _ _ c _ b n' hρ hnc hm9 hn9=>
       have hrun:=run_sliceG ht (some ⟨b,q,none⟩) n c L H M _ _ _ (bd hl e1) (bd hh e2) (bd (d:=c) hm (by simpa [bound] using e3)) hs' q1 q2 Yb w;refine⟨_,run hu hrun,?_⟩;cases hml:Nat.beq M L with
       | true=>
        have:=beq_of hml;subst this;rw[hml,bif_t] at hr;cases hr;rw[if_pos rfl,show H - M=0 by omega,Nat.sub_self];exact .sl _ _ _ _ _ _ _ hρ (Nat.le_refl _)
       | false=>
        rw[hml,bif_f] at hr;cases hr;rw[if_neg (nbeq_of hml),Option.map_some,Addr.add_lit];exact .sl _ _ _ _ _ _ _ hρ Yb
    ·cases hr
   ·cases hr
 ·split at hr
  ·rename_i e1 e2 e3;cases hr;cases hv with
   | e0 ad c=>
    cases m with
    | none=>
     have hrun:=run_sliceG ht ad 0 c 0 0 c _ _ _ (bd hl e1) (bd hh e2) (bd hm rfl) hs' (Nat.le_refl _) (Nat.zero_le _) (Nat.le_refl _) w;exact⟨_,run hu hrun,.e0 _ _⟩
    | some M=>
     have hrun:=run_sliceG ht ad 0 c 0 0 0 _ _ _ (bd hl e1) (bd hh e2) (bd (d:=c) hm e3) hs' (Nat.le_refl _) (Nat.le_refl _) (Nat.zero_le _) w;exact⟨_,run hu hrun,.e0 _ _⟩
  ·cases hr
 ·split at hr
  ·rename_i e1 e2 e3;cases hr;cases hv;have hrun:=run_sliceG ht none 0 0 0 0 0 _ _ _ (bd hl e1) (bd hh e2) (bd hm e3) hs' (Nat.le_refl _) (Nat.le_refl _) (Nat.le_refl _) w;exact⟨_,run hu hrun,by simpa using CR.val (.slice none 0 0)⟩
  ·cases hr
 ·cases hr
theorem sliceA_ok{t:TypeId}{x:Operand}{lo hi mx:Option Operand}{N sz k q:Nat}{r:CV}{l h m:Option CV}(hop:o.op= .slice t x lo hi mx)(ht:arrInfo P t=some (N,sz))(hx:ev env x=some (.ptr k q))(hl:evO env lo=some l)(hh:evO env hi=some h)(hm:evO env mx=some m)(hs:(hi.isSome || !mx.isSome)=true)(hr:sliceV sz (.sl k q N (some N) sz) l h m=some r):OpOk P env o s (.ok r s):=by
 refine .pure Yah λρ f w he=>?_;have hv:=ev_sound he hx;have bd:∀{d n:Nat} {q:Option Operand} {c:Option CV},evO env q=some c->bound d c=some n->bnd d (q.map f.eval) n:=λ{d n q c} hq hb=>by
  rcases evO_sound he hq with⟨rfl,e⟩ | ⟨z,v,rfl,e,hz⟩
  ·rw[e];simp only[bound,Option.some.injEq] at hb;exact hb.symm
  ·rw[e];obtain⟨k,rfl⟩:=natAny_eq (by simpa [bound] using hb);exact⟨k,hz.val_eq⟩
 have hs':(hi.map f.eval).isSome || !(mx.map f.eval).isSome:=by simpa using hs
 have run:∀{u v:Value},f.eval x=u->(Instr.sliceAt t u (lo.map f.eval) (hi.map f.eval) (mx.map f.eval)).run P w= .ok v w->(execOp f.eval o).run P w= .ok (.value v) w:=λe1 e2=>by simp[execOp,hop,e1,e2]
 generalize hu:f.eval x=u at hv;unfold sliceV at hr;simp only at hr;cases hz:Nat.beq sz sz with
 | false=>rw[hz] at hr;cases hr
 | true=>
  rw[hz,bif_t] at hr;split at hr
  ·rename_i L H M e1 e2 e3;cases hc:(Nat.ble L H && Nat.ble H M && Nat.ble M N) with
   | false=>rw[hc] at hr;cases hr
   | true=>
    rw[hc,bif_t] at hr;simp only[Bool.and_eq_true] at hc;have q1:=Nat.le_of_ble_eq_true hc.1.1;have q2:=Nat.le_of_ble_eq_true hc.1.2;have q3:=Nat.le_of_ble_eq_true hc.2;cases hv with
    | ptr _ _ b n' hρ=>
     have hrun:=run_sliceArr ht ⟨b,q,none⟩ L H M _ _ _ (bd hl e1) (bd hh e2) (bd hm e3) hs' q1 q2 q3 w;refine⟨_,run hu hrun,?_⟩;cases hml:Nat.beq M L with
     | true=>
      have:=beq_of hml;subst this;rw[hml,bif_t] at hr;cases hr;rw[if_pos rfl,show H - M=0 by omega,Nat.sub_self];exact .sl _ _ _ _ _ _ _ hρ (Nat.le_refl _)
     | false=>
      rw[hml,bif_f] at hr;cases hr;rw[if_neg (nbeq_of hml),Option.map_some,Addr.add_lit];exact .sl _ _ _ _ _ _ _ hρ Yb
  ·cases hr
theorem run_append_at(w:World)(t tx ty e e':TypeId)(i:TypeInfo)(ht:P.underlying t=some (.slice e))(hi:P.info? e=some i)(g off sLen sCap:Nat)(cur:Array Value)(hg:w.heap[g]? =some (.cells cur e' (0,0)))(x:Value)(n:Nat)(news:List Value)(hs:Src P i.size tx x n news w)
  (hroom:sLen+n<=sCap) (hfit:off+sLen*i.size+news.length<=cur.size):
  (Builtin.append_ #[t,tx] ty #[.slice (some ⟨g,off,none⟩) sLen sCap,x]).run P w= .ok (.slice (some ⟨g,off,none⟩) (sLen+n) sCap) (w.setRow g (cur.toList.take (off+sLen*i.size)++news++cur.toList.drop (off+sLen*i.size+news.length)).toArray):=by
 have hst:=run_storeCells_at P g (off+sLen*i.size) e' news 0 cur w hg (by simpa using hfit) hs.one;simp only[Nat.add_zero] at hst;rcases hs.kind with⟨e1,hk⟩ | hk <;> simp[Builtin.append_,run_underlying ht,run_underlying hk,sizeOf,typeInfo,hi,hs.len,hroom,hs.cells,Addr.add_lit,hst]
theorem run_app{c:Call}{x y:Operand}{t t':TypeId}(h:o.op= .call c)(hc:c.callee= .builtin .append)(ha:c.args.toList= [x,y])(ht:c.argTypes.toList= [t,t']){a:Act}{w w':World}{v:Value}(hr:(Builtin.append_ #[t,t'] o.type #[a.eval x,a.eval y]).run P w= .ok v w'):(execOp a.eval o).run P w= .ok (.value v) w':=by
 obtain⟨ce,ar,at_⟩:=c;obtain rfl:ar= #[x,y]:=by apply Array.ext';simpa using ha
 obtain rfl:at_= #[t,t']:=by apply Array.ext';simpa using ht
 simp only at hc;subst hc;simp[execOp,h,resolve,invoke,builtin,hr]
theorem srcCells_inv{sz:Nat}{x:CV}{f:List CV->Nat->S->Option Ret}(h:srcCells sz x s f=some res):∃news m s1,f news m s1=some res/\Ev s s1/\s1.h=s.h/\s1.nx=s.nx/\∀(K:Nat->Prop) (B:Nat) (ρ:Rho) (w:World) (v:Value) (tx e':TypeId),Cov K s s1->MK P K B ρ s.h w->CR ρ x v->P.underlying tx=some (.slice e')->allOne news=true->
   ∃us,CRL ρ news us/\Src P sz tx v m us w:=by
 unfold srcCells at h;split at h
 ·rename_i k q n c z;cases hz:Nat.beq z sz with
  | false=>rw[hz] at h;cases h
  | true=>
   have:=beq_of hz;subst this;rw[hz,bif_t] at h;obtain⟨t,cs,opn,l,h1,h2,h3⟩:=rdRow_inv h;refine⟨l,n,s.read k,h3,Ev.read s k,rfl,rfl,λK B ρ w v tx e' hcov hm hv hk hone=>?_⟩;obtain⟨b,m,vs,q1,_,q3,q4,q5,q6⟩:=hm.cells (hcov.R k (read_bit s k)) h1 h2;have one:=allOne_rel q4 hone;have addr:∀j u,((vs.toList.drop q).take (n*z))[j]? =some u->w.cell? ((⟨b,q,none⟩:Addr).add j)=some u:=λj u hj=>by
    rw[Addr.add_lit];exact q6 j u hj
   cases hv with
   | sl _ _ _ c _ b' n' hρ _=>rw[q1] at hρ;cases hρ;exact⟨_,q4,Src.ofSlice w hk _ _ _ _ q5 addr one⟩
   | slO _ _ _ c _ b' n' hρ _ _ _=>rw[q1] at hρ;cases hρ;exact⟨_,q4,Src.ofSlice w hk _ _ _ _ q5 addr one⟩
 ·refine⟨[],0,s,h,Ev.refl s,rfl,rfl,λK B ρ w v tx e' hcov hm hv hk hone=>⟨[],.nil,?_⟩⟩;cases hv with
  | e0 a c=>
   cases a with
   | none=>exact Src.ofNil w hk _
   | some a=>exact Src.ofSlice w hk a 0 c [] Yn Yn Yn
 ·refine⟨[],0,s,h,Ev.refl s,rfl,rfl,λK B ρ w v tx e' hcov hm hv hk hone=>⟨[],.nil,?_⟩⟩;cases hv;exact Src.ofNil w hk _
 ·cases h
theorem append_ok{c:Call}{x y:Operand}{t t' e':TypeId}(h:o.op= .call c)(hc:c.callee= .builtin .append)(ha:c.args.toList= [x,y])(hat:c.argTypes.toList= [t,t'])(hu':P.underlying t'=some (.slice e')){a b:CV}(hx:ev env x=some a)(hy:ev env y=some b)(hr:appendV P t a b s=some res):OpOk P env o s res:=by
 have hnd:∀c,o.op≠ .defer c:=by simp[h]
 unfold appendV at hr;split at hr
 ·cases hr
 ·rename_i e sz by_ zs hE;obtain⟨i,z,hu,hi,hzz,hk,hby,hzs⟩:=elInfo_spec hE;cases hsz:(Nat.blt 0 sz && Nat.beq zs.length sz) with
  | false=>rw[hsz] at hr;cases hr
  | true=>
   rw[hsz] at hr;simp only[Bool.not_true,bif_f] at hr;rw[Bool.and_eq_true] at hsz;have hpos:=blt_of hsz.1;have hzl:z.cells.size=sz:=by have:=beq_of hsz.2;rw[<-hzs] at this;simpa using this
   obtain⟨news,m,s1,hr2,ev1,eh,en,hsrc⟩:=srcCells_inv (P:=P) hr;clear hr;have hr:=hr2;clear hr2;cases hone:allOne news with
   | false=>rw[hone] at hr;cases hr
   | true=>
    rw[hone] at hr;simp only[Bool.not_true,bif_f] at hr;have grow:∀{s2:S} {old all:List CV} {n:Nat} {h':Tr CO},Ev s1 s2->s2.h=s1.h->s2.nx=s1.nx->Tr.set 24 s2.h s2.nx (some (.row e all true))=some h'->cat old news=some all->(n+m)*by_<=140737488355328->n+m<=9223372036854775807->res= .ok (.sl s2.nx 0 (n+m) none sz) (s2.new h')->
      (∀(K:Nat->Prop) (B:Nat) (ρ:Rho) (f:Act) (w:World),Cov K s s2->MK P K B ρ s.h w->EnvC ρ env f->∃base cp us0,f.eval x= .slice base n cp/\cp<n+m/\CRL ρ old us0/\us0.length=n*sz/\(Builtin.firstCells i.size n (.slice base n cp)).run P w.drew= .ok us0.toArray w.drew)->OpOk P env o s res:=by
     intro s2 old all n h' ev2 eh2 en2 hset hcat hb1 hb2 hres hold;subst hres;have ev3:Ev s2 (s2.new h'):=Ev.new hset;refine⟨(ev1.trans ev2).trans ev3,λK B ρ r f w hp he=>?_⟩;have hcov2:=hp.cov.left ev3;obtain⟨us,r1,r2⟩:=hsrc K B ρ w _ t' e' (hcov2.left ev2) hp.mem (ev_sound he hy) hu' hone;obtain⟨base,cp,us0,g1,g2,g3,g4,g5⟩:=hold K B ρ f w hcov2 hp.mem he;rw[<-hk] at r2;have hrun:=run_append_grow_src (P:=P) w t t' o.type e i z hu hi hzz base n cp us0 g5 _ m us r2 g2 Yb (growslice_fits g2 (by rw[hby];exact hb1));have hnlen:us.length=m*sz:=by rw[r2.newsLen,hk]
     generalize hcap:grownCap w (n+m) cp e=cap at hrun;have hge:n+m<=cap:=hcap▸grownCap_ge w _ _ _;have hle:cap<=maxLen:=hcap▸grownCap_le_maxLen w _ _ _ Yy;have hall:all=old++news:=cat_eq hcat;have hfr:ρ s2.nx=none:=hp.fresh s2.nx (by rw[en2,en];exact Nat.le_refl _) (Nat.lt_succ_self _);have hlen0:(us0++us).length=(n+m)*sz:=by rw[List.length_append,g4,hnlen,Nat.add_mul]
     have hl2:all.length=(n+m)*sz:=by rw[hall,List.length_append, <-g3.length,g4,Nat.add_mul];congr 1;have:=(hsrc K B ρ w _ t' e' (hcov2.left ev2) hp.mem (ev_sound he hy) hu' hone);rw[<-r1.length,hnlen]
     have hgo:=Go1.new (P:=P) (K:=K) (B:=B) (ρ:=ρ) (s:=s2) (w:=w.drew) (n:=cap*sz) (w':=w.drew.alloc (.cells ((us0++us).toArray++Builtin.zeroCells z.cells (cap - (n+m))) e)) (by rw[eh2,eh];exact⟨hp.mem.obj,hp.mem.inj⟩) (hp.cov.up _ (by rw[en2,en];exact Nat.le_refl _)) hset hfr hp.base rfl ⟨rfl,rfl,rfl⟩ ⟨_,rfl,by
       simp only[Array.size_append,List.size_toArray,size_zeroCells,hzl,hlen0, <-Nat.add_mul];congr 1;omega,by
       simp only[Array.size_append,List.size_toArray,hl2,hlen0];omega,by
       rw[Array.toList_append,List.take_append_of_le_length YaB,List.take_of_length_le YaB,hall];exact (g3.append r1).le (Rho.put_le _ hfr)⟩
     have hg0:Go1 P K B ρ s w ρ s2 w.drew:=.same hp.mem (by rw[eh2,eh]) (by rw[en2,en]) rfl ⟨rfl,rfl,rfl⟩;refine Runs.of_value hnd (run_app h hc ha hat (by rw[g1];exact hrun)) ⟨_,hg0.trans hgo (ev1.trans ev2) ev3,?_⟩;exact .slO _ _ _ _ _ _ _ (Rho.put_same _ _ _) hge hle (by rw[Nat.zero_add])
    split at hr
    ·-- onto nothing
     cases hm:Nat.beq m 0 with
     | true=>
      have:=beq_of hm;subst this;rw[hm,bif_t] at hr;cases hr;refine⟨ev1,λK B ρ r f w hp he=>?_⟩;obtain⟨us,r1,r2⟩:=hsrc K B ρ w _ t' e' hp.cov hp.mem (ev_sound he hy) hu' hone;have hx':=(ev_sound he hx).val_eq;refine Runs.of_value (v:=.slice none 0 0) hnd (run_app h hc ha hat ?_) ⟨ρ,.same hp.mem eh en rfl ⟨rfl,rfl,rfl⟩,.val _⟩;rw[hx', <-hk] at*;have hc0:=r2.cells;have:us= []:=List.eq_nil_of_length_eq_zero (by rw[r2.newsLen];simp);subst this;simp[Builtin.append_,run_underlying hu,run_underlying hu',sizeOf,typeInfo,hi,r2.len,hc0]
     | false=>
      rw[hm,bif_f] at hr;have hm0:=nbeq_of hm;cases hcc:(Nat.ble (m*by_) 140737488355328 && Nat.ble m 9223372036854775807) with
      | false=>rw[hcc] at hr;cases hr
      | true=>
       rw[hcc,bif_t] at hr;rw[Bool.and_eq_true] at hcc;obtain⟨h',hset,hr⟩:=nw_inv hr;refine grow (s2:=s1) (old:=[]) (all:=news) (n:=0) (Ev.refl _) rfl rfl hset rfl (by rw[Nat.zero_add];exact Nat.le_of_ble_eq_true hcc.1) (by rw[Nat.zero_add];exact Nat.le_of_ble_eq_true hcc.2) (by rw[Nat.zero_add];exact (Option.some.inj hr).symm) λK B ρ f w _ _ he=>⟨none,0,[],(ev_sound he hx).val_eq,Yb,.nil,Yn,run_firstCells_none w.drew _ _ _ _⟩
    ·-- a slice whose end is known
     rename_i k q n cp zz;cases hz:Nat.beq zz sz with
     | false=>rw[hz] at hr;cases hr
     | true=>
      have:=beq_of hz;subst this;rw[hz] at hr;simp only[Bool.not_true,bif_f] at hr;cases hroom:Nat.ble (n+m) cp with
      | true=>
       rw[hroom,bif_t] at hr;have hroom:=Nat.le_of_ble_eq_true hroom;obtain⟨ob,h1,hr⟩:=rd_inv hr;cases ob with
       | row e2 cs opn=>
        simp only at hr;split at hr
        ·rename_i cs' hput;obtain⟨o0,h',h2,hset,hr⟩:=wr_inv hr;cases hr;have ev2:Ev s1 (s1.read k):=Ev.read s1 k;have ev3:Ev (s1.read k) ((s1.read k).write k h'):=Ev.write (o0:=.row e2 cs opn) h1 hset;refine⟨(ev1.trans ev2).trans ev3,λK B ρ r f w hp he=>?_⟩;have hcov1:=(hp.cov.left ev3).left ev2;obtain⟨us,r1,r2⟩:=hsrc K B ρ w _ t' e' hcov1 hp.mem (ev_sound he hy) hu' hone;have hK:K k:=hp.cov.W k (write_bit _ _ _);have h1':s.h.get k=some (.row e2 cs opn):=by rw[<-eh];exact h1
         obtain⟨b,mm,vs,q1,q2,q3,q4,q5,q6,q7⟩:=hp.mem.row hK h1';obtain⟨c1,c2⟩:=putN_eq hput;have hxv:=ev_sound he hx;generalize hux:f.eval x=ux at hxv;rw[<-hk] at r2;have hnl:us.length=news.length:=r1.length;cases hxv with
         | sl _ _ _ _ _ b' n' hρ hnc=>
          rw[q1] at hρ;cases hρ;have hrun:=run_append_at w t t' o.type e e2 i hu hi b q n cp vs q3 _ m us r2 hroom (by rw[hk,hnl];omega);rw[hk] at hrun;generalize hcur:(vs.toList.take (q+n*zz)++us++vs.toList.drop (q+n*zz+us.length)).toArray=cur at hrun;have hcs:cur.size=vs.size:=by rw[<-hcur];simp only[List.size_toArray,List.length_append,List.length_take,List.length_drop,Array.length_toList];omega
          have hor:OR P ρ mm (.row e2 cs' opn) (.cells cur e2 (0,0)):=by
           cases opn with
           | false=>
            refine⟨cur,rfl,by rw[hcs,q4],?_⟩;rw[c1, <-hcur,hnl];have hr:=q7 rfl;exact ((hr.take _).append r1).append (hr.drop _)
           | true=>
            have hl':cs'.length=cs.length:=by rw[c1];simp only[List.length_append,List.length_take,List.length_drop];omega
            refine⟨cur,rfl,by rw[hcs,q4],by rw[hl',hcs];exact q5,?_⟩;have hr:=((q6.take (q+n*zz)).append r1).append (q6.drop (q+n*zz+news.length));rw[<-c1] at hr;have e:cur.toList.take cs'.length=(vs.toList.take cs.length).take (q+n*zz)++us++(vs.toList.take cs.length).drop (q+n*zz+news.length):=by
             rw[hl', <-hcur,hnl];have:=take_put vs.toList us (q+n*zz) cs.length (by rw[hnl];exact c2) (by rw[Array.length_toList];exact q5);rwa [hnl] at this
            rw[e];exact hr
          refine Runs.of_value hnd (run_app h hc ha hat (by rw[hux];exact hrun)) ⟨ρ,?_,.sl _ _ _ _ _ _ _ q1 hroom⟩;have g0:Go1 P K B ρ s w ρ (s1.read k) w:=.same hp.mem eh en rfl ⟨rfl,rfl,rfl⟩;exact g0.trans (Go1.set (s:=s1.read k) (o0:=.row e2 cs opn) g0.mem hK h1 hset q1 q3 (setRow_heap w b vs cur e2 (0,0) q3) Yn (λj hj=>setRow_other w b j cur hj) ⟨rfl,rfl,rfl⟩ hor) (ev1.trans ev2) ev3
        ·cases hr
       | _=>cases hr
      | false=>
       rw[hroom,bif_f] at hr;have hroom:cp<n+m:=by
        rcases Nat.lt_or_ge cp (n+m) with hh | hh
        ·exact hh
        ·rw[Nat.ble_eq_true_of_le hh] at hroom;cases hroom
       cases hcc:(Nat.ble ((n+m)*by_) 140737488355328 && Nat.ble (n+m) 9223372036854775807) with
       | false=>rw[hcc] at hr;cases hr
       | true=>
        rw[hcc,bif_t] at hr;rw[Bool.and_eq_true] at hcc;obtain⟨tt,cs,opn,old,h1,h2,hr⟩:=rdRow_inv hr;split at hr
        ·rename_i all hcat;obtain⟨h',hset,hr⟩:=nw_inv hr;refine grow (s2:=s1.read k) (old:=old) (all:=all) (n:=n) (Ev.read s1 k) rfl rfl hset hcat (Nat.le_of_ble_eq_true hcc.1) (Nat.le_of_ble_eq_true hcc.2) (Option.some.inj hr).symm λK B ρ f w hcov hm he=>?_;have h1':s.h.get k=some (.row tt cs opn):=by rw[<-eh];exact h1
         obtain⟨b,mm,vs,q1,_,q3,q4,q5,q6⟩:=hm.cells (hcov.R k (read_bit s1 k)) h1' h2;have hxv:=ev_sound he hx;generalize hux:f.eval x=ux at hxv;cases hxv with
         | sl _ _ _ _ _ b' n' hρ hnc=>
          rw[q1] at hρ;cases hρ;refine⟨some ⟨b,q,none⟩,cp,_,rfl,hroom,q4,q5,?_⟩;rw[hk];refine run_firstCells_some w.drew zz n _ n cp _ q5 λj v hj=>?_;rw[Addr.add_lit];exact q6 j v hj
        ·cases hr
    ·-- a row that only this one has
     rename_i k q n zz;cases hz:(Nat.beq zz sz && Nat.beq q 0) with
     | false=>rw[hz] at hr;cases hr
     | true=>
      rw[hz] at hr;simp only[Bool.not_true,bif_f] at hr;rw[Bool.and_eq_true] at hz;have:=beq_of hz.1;subst this;have:=beq_of hz.2;subst this;cases hcc:(Nat.ble ((n+m)*by_) 140737488355328 && Nat.ble (n+m) 9223372036854775807) with
      | false=>rw[hcc] at hr;cases hr
      | true=>
       rw[hcc,bif_t] at hr;rw[Bool.and_eq_true] at hcc;have hb1:=Nat.le_of_ble_eq_true hcc.1;have hb2:=Nat.le_of_ble_eq_true hcc.2;obtain⟨ob,h1,hr⟩:=rd_inv hr;split at hr
       ·rename_i e2 cs;cases hq:(Nat.beq e2 e && Nat.beq (len cs) (n*zz)) with
        | false=>rw[hq] at hr;cases hr
        | true=>
         rw[hq,bif_t] at hr;rw[Bool.and_eq_true] at hq;have:=beq_of hq.1;subst this;have hcl:=beq_of hq.2;rw[len_eq] at hcl;split at hr
         ·rename_i all hcat;obtain⟨o0,h',h2,hset,hr⟩:=wr_inv hr;obtain⟨h'',hset2,hr⟩:=nw_inv hr;cases hr;have ev2:Ev s1 (s1.read k):=Ev.read s1 k;have ev3:Ev (s1.read k) ((s1.read k).write k h'):=Ev.write (o0:=.row e2 cs true) h1 hset;have ev4:Ev ((s1.read k).write k h') (((s1.read k).write k h').new h''):=Ev.new hset2;refine⟨((ev1.trans ev2).trans ev3).trans ev4,λK B ρ r f w hp he=>?_⟩;have hcov1:=((hp.cov.left ev4).left ev3).left ev2;obtain⟨us,r1,r2⟩:=hsrc K B ρ w _ t' e' hcov1 hp.mem (ev_sound he hy) hu' hone;have hK:K k:=hp.cov.W k (ev4.W k (write_bit _ _ _));have h1':s.h.get k=some (.row e2 cs true):=by rw[<-eh];exact h1
          obtain⟨b,mm,vs,q1,q2,q3,q4,q5,q6,_⟩:=hp.mem.row hK h1';have hall:all=cs++news:=cat_eq hcat;have hnl:us.length=news.length:=r1.length;have hnlen:us.length=m*zz:=r2.newsLen;have hfr:ρ s1.nx=none:=hp.fresh s1.nx (by rw[en];exact Nat.le_refl _) (Nat.lt_succ_self _);have hKn:K s1.nx:=hp.cov.up _ (by rw[en];exact Nat.le_refl _);have g0:Go1 P K B ρ s w ρ (s1.read k) w:=.same hp.mem eh en rfl ⟨rfl,rfl,rfl⟩;have hxv:=ev_sound he hx;generalize hux:f.eval x=ux at hxv;rw[<-hk] at r2;cases hxv with
          | slO _ _ _ cp _ b' n' hρ hnc hm9 hn9=>
           rw[q1] at hρ;cases hρ;rw[Nat.zero_add] at hn9;rcases Nat.lt_or_ge cp (n+m) with hroom | hroom
           ·-- it grows
            have hfc:(Builtin.firstCells i.size n (.slice (some ⟨b,0,none⟩) n cp)).run P w.drew= .ok (vs.toList.take cs.length).toArray w.drew:=by
             rw[hk];refine run_firstCells_some w.drew zz n _ n cp _ (by rw[q6.length,hcl]) λj v hj=>?_;rw[Addr.add_lit,Nat.zero_add];show w.cell? _=_;rw[cell_of_blk q3];have:=get_of_take (o:=0) (by simpa using hj);simpa using this
            have hrun:=run_append_grow_src (P:=P) w t t' o.type e2 i z hu hi hzz (some ⟨b,0,none⟩) n cp _ hfc _ m us r2 hroom Yb (growslice_fits hroom (by rw[hby];exact hb1));generalize hcap:grownCap w (n+m) cp e2=cap at hrun;have hge:n+m<=cap:=hcap▸grownCap_ge w _ _ _;have hle:cap<=maxLen:=hcap▸grownCap_le_maxLen w _ _ _ Yy;have hlen0:(vs.toList.take cs.length++us).length=(n+m)*zz:=by rw[List.length_append,hnlen,q6.length,hcl,Nat.add_mul]
            have hl2:all.length=(n+m)*zz:=by rw[hall,List.length_append,hcl, <-hnl,hnlen,Nat.add_mul]
            have gd:Go1 P K B ρ (s1.read k) w ρ ((s1.read k).write k h') w.drew:=(Go1.drop (o0:=.row e2 cs true) g0.mem hset).trans (.same (Go1.drop (o0:=.row e2 cs true) g0.mem hset).mem rfl rfl rfl ⟨rfl,rfl,rfl⟩) ev3 (Ev.refl _);have hgo:=Go1.new (P:=P) (K:=K) (B:=B) (ρ:=ρ) (s:=(s1.read k).write k h') (w:=w.drew) (n:=cap*zz) (w':=w.drew.alloc (.cells ((vs.toList.take cs.length++us).toArray++Builtin.zeroCells z.cells (cap - (n+m))) e2)) gd.mem hKn hset2 hfr hp.base rfl ⟨rfl,rfl,rfl⟩ ⟨_,rfl,by
              simp only[Array.size_append,List.size_toArray,size_zeroCells,hzl,hlen0, <-Nat.add_mul];congr 1;omega,by
              simp only[Array.size_append,List.size_toArray,hl2,hlen0];omega,by
              rw[Array.toList_append,List.take_append_of_le_length YaB,List.take_of_length_le YaB,hall];exact (q6.append r1).le (Rho.put_le _ hfr)⟩
            refine Runs.of_value hnd (run_app h hc ha hat (by rw[hux];exact hrun)) ⟨_,(g0.trans gd (ev1.trans ev2) ev3).trans hgo ((ev1.trans ev2).trans ev3) ev4,?_⟩;exact .slO _ _ _ _ _ _ _ (Rho.put_same _ _ _) hge hle (by rw[Nat.zero_add])
           ·-- there is room
            have hsz2:vs.size=cp*zz:=by rw[q4,hn9]
            have hfit:(n+m)*zz<=cp*zz:=Nat.mul_le_mul_right _ hroom;rw[Nat.add_mul] at hfit;have hrun:=run_append_at w t t' o.type e2 e2 i hu hi b 0 n cp vs q3 _ m us r2 hroom (by rw[hk,hnlen,Nat.zero_add];omega);rw[hk,Nat.zero_add] at hrun;generalize hcur:(vs.toList.take (n*zz)++us++vs.toList.drop (n*zz+us.length)).toArray=cur at hrun;have hcs:cur.size=vs.size:=by rw[<-hcur];simp only[List.size_toArray,List.length_append,List.length_take,List.length_drop,Array.length_toList];omega
            have hl2:all.length=(n+m)*zz:=by rw[hall,List.length_append,hcl, <-hnl,hnlen,Nat.add_mul]
            have hor:OR P (ρ.put s1.nx (b,mm)) mm (.row e2 all true) (.cells cur e2 (0,0)):=by
             refine⟨cur,rfl,by rw[hcs,q4],by rw[hl2,hcs,Nat.add_mul];omega,?_⟩;have e:cur.toList.take all.length=vs.toList.take cs.length++us:=by
              rw[<-hcur,hl2,hcl];have ll:(vs.toList.take (n*zz)).length=n*zz:=by rw[List.length_take,Array.length_toList];omega
              show (List.take (n*zz) vs.toList++us++List.drop (n*zz+us.length) vs.toList).take ((n+m)*zz)=_;rw[List.take_append_of_le_length (by rw[List.length_append,ll,hnlen,Nat.add_mul];exact Nat.le_refl _),List.take_of_length_le (by rw[List.length_append,ll,hnlen,Nat.add_mul];exact Nat.le_refl _)]
             rw[e,hall];exact (q6.append r1).le (Rho.put_le _ hfr)
            have gt:=Go1.turn (P:=P) (K:=K) (B:=B) (ρ:=ρ) (s:=s1.read k) (o0:=.row e2 cs true) g0.mem hK hKn h1 hset hset2 hfr q1 (setRow_heap w b vs cur e2 (0,0) q3) Yn (λj hj=>setRow_other w b j cur hj) ⟨rfl,rfl,rfl⟩ hor;refine Runs.of_value hnd (run_app h hc ha hat (by rw[hux];exact hrun)) ⟨_,g0.trans gt (ev1.trans ev2) (ev3.trans ev4),?_⟩;exact .slO _ _ _ _ _ _ _ (Rho.put_same _ _ _) hroom hm9 (by rw[Nat.zero_add];exact hn9)
         ·cases hr
       ·cases hr
    ·cases hr
end
theorem keyed_of{P:Program}(hl:laidOutB P=true){kt:TypeId}(h:keyedB P kt=true):Go.Maps.Keyed P kt:=by
 unfold keyedB at h;split at h
 ·rename_i hu;exact Go.Maps.int_keyed hu
 ·rename_i hu;exact Go.Maps.bool_keyed hu
 ·rename_i hu;exact Go.Maps.Keyed.of_law (Go.WideMaps.string_law hu)
 ·rename_i hu;rw[Bool.and_eq_true] at h;exact Go.Maps.Keyed.of_law (deep_law_laid hl (m:=3) Yb (blt_of h.1) h.2 (by rw[hu]))
 ·rename_i hu;rw[Bool.and_eq_true] at h;exact Go.Maps.Keyed.of_law (deep_law_laid hl (m:=3) Yb (blt_of h.1) h.2 (by rw[hu]))
 ·cases h
theorem toVals_rel{ρ:Rho}:∀{xs:List CV} {us vs:List Value},toVals xs=some us->CRL ρ xs vs->vs=us
 | [],us,vs,h,hr=>by simp[toVals] at h;subst h;cases hr;rfl
 | x::xs,us,vs,h,hr=>by
  unfold toVals at h;split at h
  ·rename_i e;cases e
  ·rename_i v r e;split at h
   ·rename_i l hl;cases h;injection e with e1 e2
    subst e1;subst e2;cases hr with
    | cons _ u _ ws hv ht=>rw[hv.val_eq,toVals_rel hl ht]
   ·cases h
  ·cases h
theorem toVal_rel{ρ:Rho}{x:CV}{u v:Value}(h:toVal x=some u)(hr:CR ρ x v):v=u:=by
 cases x with
 | val w=>simp[toVal] at h;subst h;exact hr.val_eq
 | agg cs=>
  simp only[toVal] at h;split at h
  ·rename_i l hl;cases h;cases hr with
   | agg _ vs hc=>congr 1;apply Array.ext';rw[toVals_rel hl hc]
  ·cases h
 | _=>simp[toVal] at h
theorem eqK_eq:∀{x y:List CV} {us vs:List Value} {c:Bool},eqK x y=some c->toVals x=some us->toVals y=some vs->(c=true↔us=vs)
 | [],[],us,vs,c,h,h1,h2=>by simp[eqK] at h;simp[toVals] at h1 h2;subst h;subst h1;subst h2;simp
 | [],_::_,us,vs,c,h,h1,h2=>by simp[eqK] at h
 | x::xs,[],us,vs,c,h,h1,h2=>by unfold eqK at h;split at h <;> simp_all
 | x::xs,y::ys,us,vs,c,h,h1,h2=>by
  have inv:∀{x:CV} {xs:List CV} {us:List Value},toVals (x::xs)=some us->∃v l,x= .val v/\toVals xs=some l/\us=v::l:=λ{x xs us} h=>by
   unfold toVals at h;split at h
   ·rename_i e;cases e
   ·rename_i v r e;split at h
    ·rename_i l hl;cases h;injection e with e1 e2
     subst e1;subst e2;exact⟨v,l,rfl,hl,rfl⟩
    ·cases h
   ·cases h
  obtain⟨u,us',rfl,h1',rfl⟩:=inv h1;obtain⟨v,vs',rfl,h2',rfl⟩:=inv h2;unfold eqK at h;split at h
  ·rename_i e1 e2;cases e1
  ·rename_i k a xx k' b yy e1 e2;injection e1 with e1 e3;injection e2 with e2 e4
   injection e1 with e1;injection e2 with e2
   subst e1;subst e2;subst e3;subst e4;cases hk:kEq k k' with
   | false=>rw[hk] at h;cases h
   | true=>
    have:=kEq_eq hk;subst this;rw[hk,bif_t] at h;split at h
    ·rename_i c' hc;cases h;have ih:=eqK_eq hc h1' h2';rw[iEq_eq];by_cases e:a=b
     ·subst e;simp[ih]
     ·simp[e]
    ·cases h
  ·rename_i a xx b yy e1 e2;injection e1 with e1 e3;injection e2 with e2 e4
   injection e1 with e1;injection e2 with e2
   subst e1;subst e2;subst e3;subst e4;split at h
   ·rename_i c' hc;cases h;have ih:=eqK_eq hc h1' h2';cases a <;> cases b <;> simp[ih]
   ·cases h
  ·rename_i a xx b yy e1 e2;injection e1 with e1 e3;injection e2 with e2 e4
   injection e1 with e1;injection e2 with e2
   subst e1;subst e2;subst e3;subst e4;split at h
   ·rename_i c' hc;cases h;have ih:=eqK_eq hc h1' h2';rw[bytesEq_eq];by_cases e:a=b
    ·subst e;simp[ih]
    ·have:(a.data.toList==b.data.toList)=false:=by
      rw[beq_eq_false_iff_ne];intro h;apply e;cases a;cases b;congr 1;exact Array.toList_inj.1 h
     rw[this];simp[e]
   ·cases h
  ·cases h
theorem eqKey_eq{x y:CV}{u v:Value}{c:Bool}(h:eqKey x y=some c)(h1:toVal x=some u)(h2:toVal y=some v):c=true↔u=v:=by
 unfold eqKey at h;split at h
 ·simp only[toVal] at h1 h2;split at h1
  ·rename_i l1 e1;split at h2
   ·rename_i l2 e2;cases h1;cases h2;have:=eqK_eq h e1 e2;rw[this];simp
   ·cases h2
  ·cases h1
 ·cases h
 ·cases h
 ·simp only[toVal,Option.some.injEq] at h1 h2;subst h1;subst h2;have:=eqK_eq (us:=[_]) (vs:=[_]) h rfl rfl;rw[this];simp
 ·cases h
abbrev Mat(P:Program)(kt:TypeId)(ρ:Rho)(x:CV×CV×Nat)(e:MapEntry):Prop:=toVal x.1=some e.key/\CR ρ x.2.1 e.val/\e.born=x.2.2/\∃l,keyOf P kt e.key=some l
theorem find_spec{P:Program}{kt:TypeId}{ρ:Rho}{key:CV}{u:Value}(hu:toVal key=some u):∀{es:List (CV×CV×Nat)} {en:List MapEntry} {i:Nat} {r:Option (Nat×CV)},F2 (Mat P kt ρ) es en->findE key es i=some r->
  match r with
  | none=>∀e∈en,e.key≠u
  | some (j,c)=>∃q e x,j=i+q/\es[q]? =some x/\en[q]? =some e/\e.key=u/\c=x.2.1
 | [],_,i,r,.nil,h=>by simp[findE] at h;subst h;intro e he;cases he
 | (k,v,b)::es,_,i,r,.cons (y:=e) (ys:=en) hm ht,h=>by
  unfold findE at h;split at h
  ·rename_i hk;cases h;have:=(eqKey_eq hk hu hm.1).1 rfl;exact⟨0,e,_,rfl,rfl,rfl,this.symm,rfl⟩
  ·rename_i hk;have hne:u≠e.key:=λhe=>by have:=(eqKey_eq hk hu hm.1).2 he;cases this
   have ih:=find_spec hu ht h;cases r with
   | none=>
    intro e' he';rcases List.mem_cons.1 he' with rfl | he'
    ·exact λh=>hne h.symm
    ·exact ih e' he'
   | some r=>
    obtain⟨j,c⟩:=r;obtain⟨q,e',x,h1,h2,h3,h4,h5⟩:=ih;exact⟨q+1,e',x,Yb,Yaj,by simpa using h3,h4,h5⟩
  ·cases h
section
variable{P:Program}{env:Tr CV}{o:Oper}{s:S}{res:Ret}
theorem mapInfo_spec{t kt et:TypeId}(h:mapInfo P t=some (kt,et)):P.underlying t=some (.map kt et):=by
 unfold mapInfo at h;split at h
 ·rename_i k e hu;cases h;exact hu
 ·cases h
theorem keyOk_spec(hl:laidOutB P=true){kt:TypeId}{k:CV}(h:keyOk P kt k=true):Go.Maps.Keyed P kt/\∃u l,toVal k=some u/\keyOf P kt u=some l:=by
 unfold keyOk at h;cases hk:keyedB P kt with
 | false=>rw[hk] at h;cases h
 | true=>
  rw[hk,bif_t] at h;refine⟨keyed_of hl hk,?_⟩;split at h
  ·rename_i u hu;obtain⟨l,hl⟩:=Option.isSome_iff_exists.1 h;exact⟨u,l,hu,hl⟩
  ·cases h
theorem oneZ_spec{t:TypeId}{z:CV}(h:oneZ P t=some z)(w:World):∃v,(zeroValue t).run P w= .ok v w/\∀ρ,CR ρ z v:=by
 unfold oneZ at h;split at h
 ·rename_i i hi;split at h
  ·rename_i cs hz;split at h
   ·rename_i l hl;cases h;exact⟨.agg cs,by simp[zeroValue,typeInfo,hi,hz],λρ=>.agg _ _ (by rw[valL_eq hl];exact CRL.vals _)⟩
   ·cases h
  ·rename_i v _ hz;cases h;exact⟨v,by simp[zeroValue,typeInfo,hi,hz],λρ=>.val _⟩
  ·cases h
 ·cases h
theorem ifT_some{α:Type}{b:Bool}{x:Option α}{r:α}(h:ifT b x=some r):b=true/\x=some r:=by
 cases b with
 | true=>exact⟨rfl,h⟩
 | false=>cases h
theorem MK.map{K:Nat->Prop}{B:Nat}{ρ:Rho}{w:World}{hp:Tr CO}(hm:MK P K B ρ hp w){k:Nat}{kt:TypeId}{es:List (CV×CV×Nat)}{c:Nat}(hK:K k)(h:hp.get k=some (.map kt es c)):
  ∃b n en,ρ k=some (b,n)/\B<=b/\w.heap[b]? =some (.map en c)/\F2 (Mat P kt ρ) es en.toList/\(en.toList.map (·.key)).Nodup:=by
 obtain⟨b,n,ob,h1,h2,h3,h4⟩:=hm.obj k _ hK h;obtain⟨en,rfl,h5,h6⟩:=h4;exact⟨b,n,en,h1,h2,h3,h5,h6⟩
theorem nodup_at{en:List MapEntry}(hn:(en.map (·.key)).Nodup){i j:Nat}{e e':MapEntry}(hi:en[i]? =some e)(hj:en[j]? =some e')(hk:e.key=e'.key):i=j:=by
 have h1:(en.map (·.key))[i]? =some e.key:=by rw[List.getElem?_map,hi];rfl
 have h2:(en.map (·.key))[j]? =some e.key:=by rw[List.getElem?_map,hj,hk];rfl
 obtain⟨l1,e1⟩:=List.getElem?_eq_some_iff.1 h1;obtain⟨l2,e2⟩:=List.getElem?_eq_some_iff.1 h2;rcases Nat.lt_trichotomy i j with h | h | h
 ·exact absurd (e1.trans e2.symm) (List.pairwise_iff_getElem.1 hn i j l1 l2 h)
 ·exact h
 ·exact absurd (e2.trans e1.symm) (List.pairwise_iff_getElem.1 hn j i l2 l1 h)
theorem lookup_ok(hl:laidOutB P=true){t kt et:TypeId}{m k:Operand}{ok:Bool}{mv key z:CV}(h:o.op= .lookup t m k ok)(ht:mapInfo P t=some (kt,et))(hm:ev env m=some mv)(hk:ev env k=some key)(hz:oneZ P et=some z)(hkey:keyOk P kt key=true)
  (hr:lookupV kt z key ok mv s=some res):OpOk P env o s res:=by
 have hu:=mapInfo_spec ht;obtain⟨hK,u,l,hu1,hu2⟩:=keyOk_spec hl hkey;unfold lookupV at hr;split at hr
 ·rename_i hm;cases hr;refine .pure Yk λρ a w he=>?_;have h1:=(ev_sound he hm).val_eq;have h2:=toVal_rel hu1 (ev_sound he hk);obtain⟨v,h3,h4⟩:=oneZ_spec hz w;have hchk:=hK.check w true hu2;refine⟨if ok then .tuple #[v,.bool false] else v,?_,?_⟩
  ·have hf:(Instr.findKey kt u []).run P w= .ok none w:=by
    rcases hK.find w hu2 [] Yn with⟨h5,_⟩ | ⟨j,e,_,h6,_⟩
    ·exact h5
    ·simp at h6
   simp[execOp,h,h1,h2,Instr.lookup,run_underlying hu,hchk,hf,h3]
  ·cases ok with
   | true=>exact .tup _ _ (.cons _ _ _ _ (h4 ρ) (.cons _ _ _ _ (.val _) .nil))
   | false=>exact h4 ρ
 ·rename_i r;obtain⟨ob,h1,hr2⟩:=rd_inv hr;clear hr;have hr:=hr2;clear hr2;split at hr
  ·rename_i kt' es c;cases hkt:Nat.beq kt' kt with
   | false=>rw[hkt] at hr;cases hr
   | true=>
    have:=beq_of hkt;subst this;rw[hkt] at hr;simp only[Bool.not_true,bif_f] at hr;have fin:∀(x:CV),(∀(K:Nat->Prop) (B:Nat) (ρ:Rho) (a:Act) (w:World),K r->MK P K B ρ s.h w->EnvC ρ env a->∃v,(execOp a.eval o).run P w= .ok (.value v) w/\CR ρ x v)->some (Ret.ok x (s.read r))=some res->OpOk P env o s res:=λx hx e=>by
     cases e;exact .look Yk hx
    have common:∀(K:Nat->Prop) (B:Nat) (ρ:Rho) (a:Act) (w:World),K r->MK P K B ρ s.h w->EnvC ρ env a->∃b en,a.eval m= .map (some b)/\a.eval k=u/\w.heap[b]? =some (.map en c)/\F2 (Mat P kt' ρ) es en.toList/\(en.toList.map (·.key)).Nodup:=λK B ρ a w hKr hmk he=>by
     obtain⟨b,n,en,q1,q2,q3,q4,q5⟩:=hmk.map hKr h1;have hv:=ev_sound he hm;generalize hx:a.eval m=x at hv;cases hv with
     | map _ b' n' hρ=>rw[q1] at hρ;cases hρ;exact⟨b,en,rfl,toVal_rel hu1 (ev_sound he hk),q3,q4,q5⟩
    have good:∀{ρ:Rho} {en:Array MapEntry},F2 (Mat P kt' ρ) es en.toList->∀e∈en.toList,∃l,keyOf P kt' e.key=some l:=λ{ρ en} hf e he=>by
     obtain⟨x,_,hx⟩:=hf.right he;exact hx.2.2.2
    split at hr
    ·rename_i i v hfd;refine fin _ (λK B ρ a w hKr hmk he=>?_) hr;obtain⟨b,en,e1,e2,e3,e4,e5⟩:=common K B ρ a w hKr hmk he;obtain⟨q,e,x,_,f2,f3,f4,f5⟩:=find_spec hu1 e4 hfd;have hchk:=hK.check w en.isEmpty hu2;rcases hK.find w hu2 en.toList (good e4) with⟨_,hne⟩ | ⟨j,e',g1,g2,g3⟩
     ·exact absurd f4 (hne e (List.mem_of_getElem? f3))
     ·have hj:=nodup_at e5 f3 g2 (by rw[f4,g3]);subst hj;rw[f3] at g2;cases g2;have hmat:=e4.get f2 f3;refine⟨if ok then .tuple #[e.val,.bool true] else e.val,?_,?_⟩
      ·have hgo:(getObj b).run P w= .ok (.map en c) w:=by simp[getObj,Sem.run,e3]
       simp[execOp,h,e1,e2,Instr.lookup,run_underlying hu,hgo,hchk,g1]
      ·subst f5;cases ok with
       | true=>exact .tup _ _ (.cons _ _ _ _ hmat.2.1 (.cons _ _ _ _ (.val _) .nil))
       | false=>exact hmat.2.1
    ·rename_i hfd;refine fin _ (λK B ρ a w hKr hmk he=>?_) hr;obtain⟨b,en,e1,e2,e3,e4,e5⟩:=common K B ρ a w hKr hmk he;have hno:=find_spec hu1 e4 hfd;obtain⟨v,h3,h4⟩:=oneZ_spec hz w;have hchk:=hK.check w en.isEmpty hu2;rcases hK.find w hu2 en.toList (good e4) with⟨g1,_⟩ | ⟨j,e',g1,g2,g3⟩
     ·refine⟨if ok then .tuple #[v,.bool false] else v,?_,?_⟩
      ·have hgo:(getObj b).run P w= .ok (.map en c) w:=by simp[getObj,Sem.run,e3]
       simp[execOp,h,e1,e2,Instr.lookup,run_underlying hu,hgo,hchk,g1,h3]
      ·cases ok with
       | true=>exact .tup _ _ (.cons _ _ _ _ (h4 ρ) (.cons _ _ _ _ (.val _) .nil))
       | false=>exact h4 ρ
     ·exact absurd g3 (hno e' (List.mem_of_getElem? g2))
    ·cases hr
  ·cases hr
 ·cases hr
theorem setE_spec{ρ:Rho}{kt:TypeId}{key v:CV}{u:Value}:∀{es es':List (CV×CV×Nat)} {en:List MapEntry} {i:Nat} {e:MapEntry} {w:Value},F2 (Mat P kt ρ) es en->setE i key v es=some es'->en[i]? =some e->toVal key=some u->e.key=u->CR ρ v w->(∃l,keyOf P kt u=some l)->
  F2 (Mat P kt ρ) es' (en.set i {e with key:=u,val:=w})
 | [],es',en,i,e,w,hf,h,_,_,_,_,_=>by cases i <;> simp[setE] at h
 | (a,b,c)::es,es',_,0,e,w,.cons hm ht,h,he,h1,h2,h3,h4=>by
  simp[setE] at h;subst h;simp at he;subst he;exact .cons ⟨h1,h3,hm.2.2.1,h4⟩ ht
 | x::es,es',_,i+1,e,w,.cons hm ht,h,he,h1,h2,h3,h4=>by
  simp only[setE] at h;split at h
  ·rename_i r hr;cases h;exact .cons hm (setE_spec ht hr (by simpa using he) h1 h2 h3 h4)
  ·cases h
theorem modify_set{α:Type}{f:α->α}{i:Nat}{l:List α}{e:α}(h:l[i]? =some e):l.modify i f=l.set i (f e):=by
 haveI:Inhabited α:=⟨e⟩
 rw[List.modify_eq_set,h];rfl
theorem putObj_set(w:World){b:Nat}{o:Obj}(hb:b<w.heap.size):(w.putObj b o).heap[b]? =some o/\(w.putObj b o).heap.size=w.heap.size/\(∀j,j≠b->(w.putObj b o).heap[j]? =w.heap[j]?)/\Like w (w.putObj b o):=
 ⟨World.putObj_heap_same hb,Yn,λj hj=>World.putObj_heap_other hj,⟨rfl,rfl,rfl⟩⟩
theorem mapUpdate_ok(hl:laidOutB P=true){t kt et:TypeId}{m k x:Operand}{r:Nat}{key v:CV}(h:o.op= .mapUpdate t m k x\/o.op= .insert t m k x)(ht:mapInfo P t=some (kt,et))(hm:ev env m=some (.map r))(hk:ev env k=some key)(hx:ev env x=some v)(hkey:keyOk P kt key=true)
  (hr:(rd s r λob s=>match ob with
   | .map kt' es c=>bif !(Nat.beq kt' kt) then none else match findE key es 0 with
    | some (some (i,_))=>match setE i key v es with | some es'=>wr s r (some (.map kt es' c)) λs=>ok1 (.tup []) s | none=>none
    | some none=>match snoc es (key,v,c) with | some es'=>wr s r (some (.map kt es' (c+1))) λs=>ok1 (.tup []) s | none=>none
    | none=>none
   | _=>none)=some res):OpOk P env o s res:=by
 have hu:=mapInfo_spec ht;obtain⟨hK,u,l,hu1,hu2⟩:=keyOk_spec hl hkey;have hnd:∀c,o.op≠ .defer c:=by rcases h with h | h <;> simp[h]
 obtain⟨ob,h1,hr2⟩:=rd_inv hr;clear hr;have hr:=hr2;clear hr2;split at hr
 ·rename_i kt' es c;cases hkt:Nat.beq kt' kt with
  | false=>rw[hkt] at hr;cases hr
  | true=>
   have:=beq_of hkt;subst this;rw[hkt] at hr;simp only[Bool.not_true,bif_f] at hr;have good:∀{ρ:Rho} {en:Array MapEntry},F2 (Mat P kt' ρ) es en.toList->∀e∈en.toList,∃l,keyOf P kt' e.key=some l:=λ{ρ en} hf e he=>by
    obtain⟨x,_,hx⟩:=hf.right he;exact hx.2.2.2
   have fin:∀(es':List (CV×CV×Nat)) (c':Nat),(wr (s.read r) r (some (.map kt' es' c')) λs=>ok1 (.tup []) s)=some res->
     (∀(ρ:Rho) (a:Act) (w:World) (b:Nat) (en:Array MapEntry),EnvC ρ env a->a.eval m= .map (some b)->a.eval k=u->w.heap[b]? =some (.map en c)->F2 (Mat P kt' ρ) es en.toList->(en.toList.map (·.key)).Nodup->
      ∃en',(execOp a.eval o).run P w= .ok .skip (w.putObj b (.map en' c'))/\F2 (Mat P kt' ρ) es' en'.toList/\(en'.toList.map (·.key)).Nodup)->OpOk P env o s res:=by
    intro es' c' hw hrun;obtain⟨o0,h',h2,hset,hw⟩:=wr_inv hw;cases hw;have ev1:Ev s (s.read r):=Ev.read s r;have ev2:Ev (s.read r) ((s.read r).write r h'):=Ev.write (o0:=.map kt' es c) h1 hset;refine⟨ev1.trans ev2,λK B ρ rr a w hp he=>?_⟩;have hKr:K r:=hp.cov.W r (write_bit _ _ _);obtain⟨b,n,en,q1,q2,q3,q4,q5⟩:=hp.mem.map hKr h1;have hv:=ev_sound he hm;generalize hxx:a.eval m=xx at hv;cases hv with
    | map _ b' n' hρ=>
     rw[q1] at hρ;cases hρ;obtain⟨en',g1,g2,g3⟩:=hrun ρ a w b en he hxx (toVal_rel hu1 (ev_sound he hk)) q3 q4 q5;have hb:b<w.heap.size:=(Array.getElem?_eq_some_iff.1 q3).1;obtain⟨p1,p2,p3,p4⟩:=putObj_set w (o:=.map en' c') hb;exact Runs.of_skip hnd g1 ⟨ρ,(Go1.read hp.mem r).trans (Go1.set (s:=s.read r) (o0:=.map kt' es c) hp.mem hKr h1 hset q1 q3 p1 p2 p3 p4 ⟨en',rfl,g2,g3⟩) ev1 ev2,.tup _ _ .nil⟩
   split at hr
   ·rename_i i v0 hfd;split at hr
    ·rename_i es' hse;refine fin es' c hr λρ a w b en he e1 e2 e3 e4 e5=>?_;obtain⟨q,e,y,f1,f2,f3,f4,f5⟩:=find_spec hu1 e4 hfd;rw[Nat.zero_add] at f1;subst f1;have hchk:=hK.check w false hu2;rcases hK.find w hu2 en.toList (good e4) with⟨_,hne⟩ | ⟨j,e',g1,g2,g3⟩
     ·exact absurd f4 (hne e (List.mem_of_getElem? f3))
     ·have hj:=nodup_at e5 f3 g2 (by rw[f4,g3]);subst hj;rw[f3] at g2;cases g2;have hst:=hK.stays w hu2;have hgo:(getObj b).run P w= .ok (.map en c) w:=by simp[getObj,Sem.run,e3]
      have hen:en[i]? =some e:=by simpa using f3
      refine⟨en.modify i λe=>{e with key:=u,val:=a.eval x},?_,?_,?_⟩
      ·have hb:b<w.heap.size:=(Array.getElem?_eq_some_iff.1 e3).1;have hse:(setObj b (.map (en.modify i λe=>{e with key:=u,val:=a.eval x}) c)).run P w= .ok () (w.putObj b (.map (en.modify i λe=>{e with key:=u,val:=a.eval x}) c)):=by
        simp[setObj,Sem.run,e3,World.putObj]
       rcases h with h | h <;> simp[execOp,h,e1,e2,Instr.mapUpdate,run_underlying hu,hgo,hchk,g1,hen,f4,hst,hse]
      ·have:=setE_spec (P:=P) e4 hse f3 hu1 f4 (ev_sound he hx) ⟨l,hu2⟩;rw[Array.toList_modify];rw[modify_set f3];exact this
      ·have:((en.modify i λe=>{e with key:=u,val:=a.eval x}).toList.map (·.key))=en.toList.map (·.key):=by
        rw[Array.toList_modify,modify_set f3];show ((en.toList.set i {e with key:=u,val:=a.eval x}).map (·.key))=_;rw[List.map_set];apply List.ext_getElem?;intro j;rw[List.getElem?_set];split
        ·rename_i ej;subst ej;have:(en.toList.map (·.key))[i]? =some u:=by rw[List.getElem?_map,f3, <-f4];rfl
         rw[this];have hlt:=(List.getElem?_eq_some_iff.1 this).1;rw[if_pos hlt]
        ·rfl
       rw[this];exact e5
    ·cases hr
   ·rename_i hfd;split at hr
    ·rename_i es' hsn;refine fin es' (c+1) hr λρ a w b en he e1 e2 e3 e4 e5=>?_;have hno:=find_spec hu1 e4 hfd;have hchk:=hK.check w false hu2;rcases hK.find w hu2 en.toList (good e4) with⟨g1,_⟩ | ⟨j,e',g1,g2,g3⟩
     ·have hgo:(getObj b).run P w= .ok (.map en c) w:=by simp[getObj,Sem.run,e3]
      refine⟨en.push {key:=u,val:=a.eval x,born:=c},?_,?_,?_⟩
      ·have hse:(setObj b (.map (en.push {key:=u,val:=a.eval x,born:=c}) (c+1))).run P w= .ok () (w.putObj b (.map (en.push {key:=u,val:=a.eval x,born:=c}) (c+1))):=by
        simp[setObj,Sem.run,e3,World.putObj]
       rcases h with h | h <;> simp[execOp,h,e1,e2,Instr.mapUpdate,run_underlying hu,hgo,hchk,g1,hse]
      ·rw[snoc_eq hsn,Array.toList_push];exact e4.append (.cons ⟨hu1,ev_sound he hx,rfl,l,hu2⟩ .nil)
      ·rw[Array.toList_push,List.map_append,List.nodup_append];refine⟨e5,Yn,λa1 h2 b1 h3=>?_⟩;simp at h3;subst h3;obtain⟨e,he1,he2⟩:=List.mem_map.1 h2;subst he2;exact hno e he1
     ·exact absurd g3 (hno e' (List.mem_of_getElem? g2))
    ·cases hr
   ·cases hr
 ·cases hr
end
theorem F2.right_get{α β:Type}{R:α->β->Prop}:∀{xs:List α} {ys:List β} {i:Nat} {y:β},F2 R xs ys->ys[i]? =some y->∃x,xs[i]? =some x/\R x y
 | _,_,_,_,.nil,h=>by simp at h
 | _,_,0,_,.cons hm _,h=>by simp at h;subst h;exact⟨_,rfl,hm⟩
 | _,_,i+1,_,.cons _ ht,h=>by
  obtain⟨x,h1,h2⟩:=ht.right_get (i:=i) YN;exact⟨x,Y7,h2⟩
section
variable{P:Program}{env:Tr CV}{o:Oper}{s:S}{res:Ret}
theorem mapEntry_ok(hl:laidOutB P=true){t kt et:TypeId}{m k:Operand}{r:Nat}{key:CV}(h:o.op= .mapEntry t m k)(ht:mapInfo P t=some (kt,et))(hm:ev env m=some (.map r))(hk:ev env k=some key)(hkey:keyOk P kt key=true)
  (hr:(rd s r λob s=>match ob with
   | .map kt' es c=>bif !(Nat.beq kt' kt) then none else match findE key es 0 with
    | some (some (i,v))=>match es[i]? with
     | some (_,_,b)=>match setE i key v es with | some es'=>wr s r (some (.map kt es' c)) λs=>ok1 (.tup [v,.val (.int .i64 (.ofNat b))]) s | none=>none
     | none=>none
    | some none=>match oneZ P et with
     | some z=>match snoc es (key,z,c) with | some es'=>wr s r (some (.map kt es' (c+1))) λs=>ok1 (.tup [z,.val (.int .i64 (.ofNat c))]) s | none=>none
     | none=>none
    | none=>none
   | _=>none)=some res):OpOk P env o s res:=by
 have hu:=mapInfo_spec ht;obtain⟨hK,u,l,hu1,hu2⟩:=keyOk_spec hl hkey;have hnd:∀c,o.op≠ .defer c:=by simp[h]
 obtain⟨ob,h1,hr2⟩:=rd_inv hr;clear hr;have hr:=hr2;clear hr2;split at hr
 ·rename_i kt' es c;cases hkt:Nat.beq kt' kt with
  | false=>rw[hkt] at hr;cases hr
  | true=>
   have:=beq_of hkt;subst this;rw[hkt] at hr;simp only[Bool.not_true,bif_f] at hr;have good:∀{ρ:Rho} {en:Array MapEntry},F2 (Mat P kt' ρ) es en.toList->∀e∈en.toList,∃l,keyOf P kt' e.key=some l:=λ{ρ en} hf e he=>by
    obtain⟨x,_,hx⟩:=hf.right he;exact hx.2.2.2
   have fin:∀(es':List (CV×CV×Nat)) (c':Nat) (v:CV),(wr (s.read r) r (some (.map kt' es' c')) λs=>ok1 v s)=some res->
     (∀(ρ:Rho) (a:Act) (w:World) (b:Nat) (en:Array MapEntry),EnvC ρ env a->a.eval m= .map (some b)->a.eval k=u->w.heap[b]? =some (.map en c)->F2 (Mat P kt' ρ) es en.toList->(en.toList.map (·.key)).Nodup->
      ∃en' vv,(execOp a.eval o).run P w= .ok (.value vv) (w.putObj b (.map en' c'))/\CR ρ v vv/\F2 (Mat P kt' ρ) es' en'.toList/\(en'.toList.map (·.key)).Nodup)->OpOk P env o s res:=by
    intro es' c' v hw hrun;obtain⟨o0,h',h2,hset,hw⟩:=wr_inv hw;cases hw;have ev1:Ev s (s.read r):=Ev.read s r;have ev2:Ev (s.read r) ((s.read r).write r h'):=Ev.write (o0:=.map kt' es c) h1 hset;refine⟨ev1.trans ev2,λK B ρ rr a w hp he=>?_⟩;have hKr:K r:=hp.cov.W r (write_bit _ _ _);obtain⟨b,n,en,q1,q2,q3,q4,q5⟩:=hp.mem.map hKr h1;have hv:=ev_sound he hm;generalize hxx:a.eval m=xx at hv;cases hv with
    | map _ b' n' hρ=>
     rw[q1] at hρ;cases hρ;obtain⟨en',vv,g1,g0,g2,g3⟩:=hrun ρ a w b en he hxx (toVal_rel hu1 (ev_sound he hk)) q3 q4 q5;have hb:b<w.heap.size:=(Array.getElem?_eq_some_iff.1 q3).1;obtain⟨p1,p2,p3,p4⟩:=putObj_set w (o:=.map en' c') hb;exact Runs.of_value hnd g1 ⟨ρ,(Go1.read hp.mem r).trans (Go1.set (s:=s.read r) (o0:=.map kt' es c) hp.mem hKr h1 hset q1 q3 p1 p2 p3 p4 ⟨en',rfl,g2,g3⟩) ev1 ev2,g0⟩
   split at hr
   ·rename_i i v0 hfd;split at hr
    ·rename_i ka va bb hes;split at hr
     ·rename_i es' hse;refine fin es' c _ hr λρ a w b en he e1 e2 e3 e4 e5=>?_;obtain⟨q,e,y,f1,f2,f3,f4,f5⟩:=find_spec hu1 e4 hfd;rw[Nat.zero_add] at f1;subst f1;have hchk:=hK.check w false hu2;rcases hK.find w hu2 en.toList (good e4) with⟨_,hne⟩ | ⟨j,e',g1,g2,g3⟩
      ·exact absurd f4 (hne e (List.mem_of_getElem? f3))
      ·have hj:=nodup_at e5 f3 g2 (by rw[f4,g3]);subst hj;rw[f3] at g2;cases g2;have hst:=hK.stays w hu2;have hgo:(getObj b).run P w= .ok (.map en c) w:=by simp[getObj,Sem.run,e3]
       have hen:en[i]? =some e:=by simpa using f3
       obtain⟨y2,hy2,hm2⟩:=e4.right_get f3;rw[hes] at hy2;cases hy2;have hborn:e.born=bb:=hm2.2.2.1;have f5:CR ρ v0 e.val:=by
        rw[hes] at f2;cases f2;rw[f5];exact hm2.2.1
       refine⟨en.modify i λe=>{e with key:=u},.tuple #[e.val,goInt bb],?_,.tup _ _ (.cons _ _ _ _ f5 (.cons _ _ _ _ (.val _) .nil)),?_,?_⟩
       ·have hse:(setObj b (.map (en.modify i λe=>{e with key:=u}) c)).run P w= .ok () (w.putObj b (.map (en.modify i λe=>{e with key:=u}) c)):=by
         simp[setObj,Sem.run,e3,World.putObj]
        simp[execOp,h,e1,e2,Instr.mapEntry,run_underlying hu,hgo,hchk,g1,hen,f4,hst,hse,hborn]
       ·have:=setE_spec (P:=P) (w:=e.val) e4 hse f3 hu1 f4 f5 ⟨l,hu2⟩;rw[Array.toList_modify];rw[modify_set f3];exact this
       ·have:((en.modify i λe=>{e with key:=u}).toList.map (·.key))=en.toList.map (·.key):=by
         rw[Array.toList_modify,modify_set f3];show ((en.toList.set i {e with key:=u}).map (·.key))=_;rw[List.map_set];apply List.ext_getElem?;intro j;rw[List.getElem?_set];split
         ·rename_i ej;subst ej;have:(en.toList.map (·.key))[i]? =some u:=by rw[List.getElem?_map,f3, <-f4];rfl
          rw[this];have hlt:=(List.getElem?_eq_some_iff.1 this).1;rw[if_pos hlt]
         ·rfl
        rw[this];exact e5
     ·cases hr
    ·cases hr
   ·rename_i hfd;split at hr
    ·rename_i z hz;split at hr
     ·rename_i es' hsn;refine fin es' (c+1) _ hr λρ a w b en he e1 e2 e3 e4 e5=>?_;have hno:=find_spec hu1 e4 hfd;have hchk:=hK.check w false hu2;obtain⟨zv,hz1,hz2⟩:=oneZ_spec hz w;rcases hK.find w hu2 en.toList (good e4) with⟨g1,_⟩ | ⟨j,e',g1,g2,g3⟩
      ·have hgo:(getObj b).run P w= .ok (.map en c) w:=by simp[getObj,Sem.run,e3]
       refine⟨en.push {key:=u,val:=zv,born:=c},.tuple #[zv,goInt c],?_,.tup _ _ (.cons _ _ _ _ (hz2 ρ) (.cons _ _ _ _ (.val _) .nil)),?_,?_⟩
       ·have hse:(setObj b (.map (en.push {key:=u,val:=zv,born:=c}) (c+1))).run P w= .ok () (w.putObj b (.map (en.push {key:=u,val:=zv,born:=c}) (c+1))):=by
         simp[setObj,Sem.run,e3,World.putObj]
        simp[execOp,h,e1,e2,Instr.mapEntry,run_underlying hu,hgo,hchk,g1,hz1,hse]
       ·rw[snoc_eq hsn,Array.toList_push];exact e4.append (.cons ⟨hu1,hz2 ρ,rfl,l,hu2⟩ .nil)
       ·rw[Array.toList_push,List.map_append,List.nodup_append];refine⟨e5,Yn,λa1 h2 b1 h3=>?_⟩;simp at h3;subst h3;obtain⟨ee,he1,he2⟩:=List.mem_map.1 h2;exact λe=>hno ee he1 (he2.trans e)
      ·exact absurd g3 (hno e' (List.mem_of_getElem? g2))
     ·cases hr
    ·cases hr
   ·cases hr
 ·cases hr
theorem setB_spec{kt:TypeId}{ρ:Rho}{n:Nat}{v:CV}{w:Value}:∀{es es':List (CV×CV×Nat)} {en:List MapEntry},F2 (Mat P kt ρ) es en->setB n v es=some es'->CR ρ v w->
  ∃i e,en.findIdx? (λe=>(e.born:Int)==(n:Int))=some i/\en[i]? =some e/\F2 (Mat P kt ρ) es' (en.set i {e with val:=w})
 | [],es',en,hf,h,hv=>by simp[setB] at h
 | (k,x,b)::es,es',_,.cons (y:=e) hm ht,h,hv=>by
  simp only[setB] at h;have hb:e.born=b:=hm.2.2.1;cases hq:Nat.beq b n with
  | true=>
   have:=beq_of hq;subst this;rw[hq,bif_t] at h;cases h;exact⟨0,e,by simp[List.findIdx?_cons,hb],rfl,.cons ⟨hm.1,hv,hm.2.2.1,hm.2.2.2⟩ ht⟩
  | false=>
   rw[hq,bif_f] at h;split at h
   ·rename_i r' hr;cases h;obtain⟨i,e2,h1,h2,h3⟩:=setB_spec ht hr hv;refine⟨i+1,e2,?_,Yaj,.cons hm h3⟩;have:((e.born:Int)==(n:Int))=false:=by
     rw[hb,beq_eq_false_iff_ne];intro e;exact nbeq_of hq (Int.ofNat.inj e)
    simp only[List.findIdx?_cons,this,h1];rfl
   ·cases h
theorem entryStore_ok{t:TypeId}{m k x:Operand}{r n:Nat}{kk:IntKind}{v:CV}(h:o.op= .entryStore t m k x)(hm:ev env m=some (.map r))(hk:ev env k=some (.val (.int kk (.ofNat n))))(hx:ev env x=some v)
  (hr:(rd s r λob s=>match ob with
   | .map kt es c=>match setB n v es with | some es'=>wr s r (some (.map kt es' c)) λs=>ok1 (.tup []) s | none=>none
   | _=>none)=some res):OpOk P env o s res:=by
 have hnd:∀c,o.op≠ .defer c:=by simp[h]
 obtain⟨ob,h1,hr⟩:=rd_inv hr;split at hr
 ·rename_i kt es c;split at hr
  ·rename_i es' hse;obtain⟨o0,h',h2,hset,hw⟩:=wr_inv hr;cases hw;have ev1:Ev s (s.read r):=Ev.read s r;have ev2:Ev (s.read r) ((s.read r).write r h'):=Ev.write (o0:=.map kt es c) h1 hset;refine⟨ev1.trans ev2,λK B ρ rr a w hp he=>?_⟩;have hKr:K r:=hp.cov.W r (write_bit _ _ _);obtain⟨b,n',en,q1,q2,q3,q4,q5⟩:=hp.mem.map hKr h1;have hv:=ev_sound he hm;have hkv:=(ev_sound he hk).val_eq;generalize hxx:a.eval m=xx at hv;cases hv with
   | map _ b' n'' hρ=>
    rw[q1] at hρ;cases hρ;obtain⟨i,e,g1,g2,g3⟩:=setB_spec (w:=a.eval x) q4 hse (ev_sound he hx);have hb:b<w.heap.size:=(Array.getElem?_eq_some_iff.1 q3).1;have hgo:(getObj b).run P w= .ok (.map en c) w:=by simp[getObj,Sem.run,q3]
    have hidx:en.findIdx? (λe=>(e.born:Int)==(n:Int))=some i:=by have:=List.findIdx?_toArray (p:=λ(e:MapEntry)=>(e.born:Int)==(n:Int)) en.toList;rw[Array.toArray_toList] at this;rw[this];exact g1
    have hst:(setObj b (.map (en.modify i λe=>{e with val:=a.eval x}) c)).run P w= .ok () (w.putObj b (.map (en.modify i λe=>{e with val:=a.eval x}) c)):=by
     simp[setObj,Sem.run,q3,World.putObj]
    obtain⟨p1,p2,p3,p4⟩:=putObj_set w (o:=.map (en.modify i λe=>{e with val:=a.eval x}) c) hb;have hlist:(en.modify i λe=>{e with val:=a.eval x}).toList=en.toList.set i {e with val:=a.eval x}:=by
     rw[Array.toList_modify,modify_set g2]
    have g1':(execOp a.eval o).run P w= .ok .skip (w.putObj b (.map (en.modify i λe=>{e with val:=a.eval x}) c)):=by
     simp only[Int.ofNat_eq_natCast] at hkv;simp[execOp,h,hxx,hkv,Instr.entryStore,asInt,asIntOf,hgo,hidx,hst]
    refine Runs.of_skip hnd g1' ⟨ρ,(Go1.read hp.mem r).trans (Go1.set (s:=s.read r) (o0:=.map kt es c) hp.mem hKr h1 hset q1 q3 p1 p2 p3 p4 ⟨_,rfl,by rw[hlist];exact g3,?_⟩) ev1 ev2,.tup _ _ .nil⟩;rw[hlist,List.map_set];have:(en.toList.map (·.key)).set i e.key=en.toList.map (·.key):=by
     apply List.ext_getElem?;intro j;rw[List.getElem?_set];split
     ·rename_i ej;subst ej;have:(en.toList.map (·.key))[i]? =some e.key:=by rw[List.getElem?_map,g2];rfl
      rw[this];have hlt:=(List.getElem?_eq_some_iff.1 this).1;rw[if_pos hlt]
     ·rfl
    show ((en.toList.map (·.key)).set i e.key).Nodup;rw[this];exact q5
  ·cases hr
 ·cases hr
theorem convR_ok{src dst:TypeId}{x:Operand}{k k1:IntKind}{n:Nat}(h:o.op= .convert src dst x)(h1:P.underlying src=some (.int k1))(h2:P.underlying dst=some .string)(hn:n<128)(hx:ev env x=some (.val (.int k (.ofNat n)))):OpOk P env o s (.ok (.val (.string ⟨#[UInt8.ofNat n]⟩)) s):=by
 refine .pure Yk λρ a w he=>?_;have hv:=(ev_sound he hx).val_eq;refine⟨_,?_,.val _⟩;have he:Utf8.encode (n:Int)=⟨#[UInt8.ofNat n]⟩:=by
  have hval:Utf8.valid (n:Int)=true:=by simp[Utf8.valid];omega
  simp[Utf8.encode,hval,hn]
 simp[execOp,h,hv,convert,run_underlying h1,run_underlying h2,Conv.intToString,he]
theorem cap_ok{c:Call}{x:Operand}{t e:TypeId}{a:CV}{m:Nat}(h:o.op= .call c)(hc:c.callee= .builtin .cap)(ha:c.args.toList= [x])(hat:c.argTypes.toList= [t])(ht:P.underlying t=some (.slice e))(hx:ev env x=some a)(hm:(∃k q n z,a= .sl k q n (some m) z)\/∃b n,a= .val (.slice b n m)):OpOk P env o s (.ok (.val (.int .i64 (m:Nat))) s):=by
 refine .pure Yk λρ f w he=>?_;obtain⟨ce,ar,at_⟩:=c;obtain rfl:ar= #[x]:=by apply Array.ext';simpa using ha
 obtain rfl:at_= #[t]:=by apply Array.ext';simpa using hat
 simp only at hc;subst hc;have hv:=ev_sound he hx;generalize hu:f.eval x=u at hv;have key:∃b n,u= .slice b n m:=by
  rcases hm with⟨k,q,n,z,rfl⟩ | ⟨b,n,rfl⟩
  ·cases hv;exact⟨_,_,rfl⟩
  ·cases hv;exact⟨_,_,rfl⟩
 obtain⟨b,n,rfl⟩:=key;refine⟨_,?_,.val _⟩;simp[execOp,h,resolve,invoke,builtin,hu,Builtin.cap_,run_underlying ht,goInt]
theorem run_append_growZ(w:World)(t tn ty e:TypeId)(i:TypeInfo)(z:Value)(kn kk:IntKind)(ht:P.underlying t=some (.slice e))(htn:P.underlying tn=some (.int kn))(hi:P.info? e=some i)(hz:i.zero=some z)(base:Option Addr)(sLen sCap:Nat)(olds:List Value)
  (hold:(Builtin.firstCells i.size sLen (.slice base sLen sCap)).run P w.drew= .ok olds.toArray w.drew) (n:Nat) (hs0:0<i.size) (hn0:0<n)
  (hg:sCap<sLen+n) (h63:((sLen+n:Nat):Int)<=9223372036854775807) (h48:n*i.bytes<=281474976710656) (hfit:Builtin.nextslicecap (sLen+n) sCap*i.bytes<=281474976710656):
  (Builtin.append_ #[t,tn] ty #[.slice base sLen sCap,.int kk n]).run P w=
   .ok (.slice (some ⟨w.heap.size,0,none⟩) (sLen+n) (grownCap w (sLen+n) sCap e))
    (w.drew.alloc (.cells ((olds++(Builtin.zeroCells z.cells n).toList).toArray++Builtin.zeroCells z.cells (grownCap w (sLen+n) sCap e - (sLen+n))) e)):=by
 have hn: ¬(sLen+n<=sCap):=by omega
 have hw:IntKind.i64.wrap (n:Int)=n:=by rw[IntKind.wrap_i64];omega
 have h63': ¬(9223372036854775807<((sLen:Int)+(n:Int))):=by omega
 have h48': ¬(281474976710656<Builtin.nextslicecap (sLen+n) sCap*i.bytes):=by omega
 have h48i: ¬(281474976710656<(n:Int)*(i.bytes:Int)):=by
  rw[<-Int.natCast_mul];omega
 have hneg: ¬((n:Int)<0):=by omega
 have hne: ¬(n*i.size=0):=by have:=Nat.mul_pos hn0 hs0;omega
 simp[Builtin.append_,run_underlying ht,run_underlying htn,sizeOf,typeInfo,zeroValue,asInt,asIntOf,hi,hz,hw,hneg,h48i,hn,h63',h48',hne,Question.forced,hold,newRow,grownCap];congr 2;apply Array.ext';simp[List.append_assoc]
theorem appendZ_ok{c:Call}{x y:Operand}{t t':TypeId}{kn:IntKind}(h:o.op= .call c)(hc:c.callee= .builtin .append)(ha:c.args.toList= [x,y])(hat:c.argTypes.toList= [t,t'])(hu':P.underlying t'=some (.int kn)){a b:CV}{m:Nat}(hx:ev env x=some a)(hy:ev env y=some b)(hm:natOf b=some m)(hr:appendZ P t a m s=some res):OpOk P env o s res:=by
 have hnd:∀c,o.op≠ .defer c:=by simp[h]
 unfold appendZ at hr;split at hr
 ·cases hr
 ·rename_i e sz by_ zs hE;obtain⟨i,z,hu,hi,hzz,hk,hby,hzs⟩:=elInfo_spec hE;split at hr
  ·rename_i k q n cp zz cs hcs;cases hcc:(Nat.beq zz sz && Nat.blt 0 sz && Nat.beq (len cs) sz && Nat.blt cp (n+m) && Nat.ble ((n+m)*by_) 140737488355328 && Nat.ble (n+m) 1000000) with
   | false=>rw[hcc] at hr;cases hr
   | true=>
    rw[hcc,bif_t] at hr;simp only[Bool.and_eq_true] at hcc;obtain⟨⟨⟨⟨⟨c1,c2⟩,c3⟩,c4⟩,c5⟩,c6⟩:=hcc;have:=beq_of c1;subst this;have hpos:=blt_of c2;have hlen:=beq_of c3;have hgr:=blt_of c4;have hb1:=Nat.le_of_ble_eq_true c5;have hb2:=Nat.le_of_ble_eq_true c6;have hzl:zs.length=zz:=by rw[len_eq,valL_eq hcs] at hlen;simpa using hlen
    have hzc:z.cells.size=zz:=by rw[<-hzl, <-hzs];simp
    obtain⟨tt,cs2,opn,old,h1,h2,hr⟩:=rdRow_inv hr;split at hr
    ·rename_i all hcat;obtain⟨h',hset,hr⟩:=nw_inv hr;cases hr;have ev2:Ev s (s.read k):=Ev.read s k;have ev3:Ev (s.read k) ((s.read k).new h'):=Ev.new hset;refine⟨ev2.trans ev3,λK B ρ r f w hp he=>?_⟩;obtain⟨b',mm,vs,q1,_,q3,q4,q5,q6⟩:=hp.mem.cells (hp.cov.R k (ev3.R k (read_bit s k))) h1 h2;have hxv:=ev_sound he hx;have hyv:f.eval y= .int .i64 m:=(natOf_eq hm▸ev_sound he hy:CR ρ (.val (.int .i64 m)) (f.eval y)).val_eq;generalize hux:f.eval x=ux at hxv;cases hxv with
     | sl _ _ _ _ _ b'' n' hρ hnc=>
      rw[q1] at hρ;cases hρ;have hfc:(Builtin.firstCells i.size n (.slice (some ⟨b',q,none⟩) n cp)).run P w.drew= .ok ((vs.toList.drop q).take (n*zz)).toArray w.drew:=by
       rw[hk];refine run_firstCells_some w.drew zz n _ n cp _ q5 λj v hj=>?_;rw[Addr.add_lit];exact q6 j v hj
      have hmb:m*by_<=(n+m)*by_:=Nat.mul_le_mul_right _ Yb;have hrun:=run_append_growZ (P:=P) w t t' o.type e i z kn .i64 hu hu' hi hzz (some ⟨b',q,none⟩) n cp _ hfc m (by rw[hk];exact hpos) Yb hgr Yb (by rw[hby];omega) (growslice_fits hgr (by rw[hby];exact hb1));generalize hcap:grownCap w (n+m) cp e=cap at hrun;have hge:n+m<=cap:=hcap▸grownCap_ge w _ _ _;have hle:cap<=maxLen:=hcap▸grownCap_le_maxLen w _ _ _ Yy;have hall:all=old++repl m cs:=cat_eq hcat;have hfr:ρ s.nx=none:=hp.fresh s.nx (Nat.le_refl _) (Nat.lt_succ_self _);have hmade:(Builtin.zeroCells z.cells m).toList=rowZero m zz zs:=by
       simp only[Builtin.zeroCells,rowZero,Array.toList_map,Array.toList_range,hzc,hzl];refine List.map_congr_left λj _=>?_;rw[<-hzs];simp[Array.getElem!_eq_getD,Array.getD_eq_getD_getElem?,List.getD_eq_getElem?_getD]
      have r1:CRL ρ (repl m cs) (Builtin.zeroCells z.cells m).toList:=by
       rw[rowZero_eq m zz zs hzl hpos cs hcs,hmade];exact CRL.vals _
      have hnl:(Builtin.zeroCells z.cells m).toList.length=m*zz:=by rw[Array.length_toList,size_zeroCells,hzc]
      have hlen0:((vs.toList.drop q).take (n*zz)++(Builtin.zeroCells z.cells m).toList).length=(n+m)*zz:=by rw[List.length_append,q5,hnl,Nat.add_mul]
      have hl2:all.length=(n+m)*zz:=by rw[hall,List.length_append, <-q4.length,q5, <-r1.length,hnl,Nat.add_mul]
      have hgo:=Go1.new (P:=P) (K:=K) (B:=B) (ρ:=ρ) (s:=s.read k) (w:=w.drew) (n:=cap*zz) (w':=w.drew.alloc (.cells (((vs.toList.drop q).take (n*zz)++(Builtin.zeroCells z.cells m).toList).toArray++Builtin.zeroCells z.cells (cap - (n+m))) e)) ⟨hp.mem.obj,hp.mem.inj⟩ (hp.cov.up _ (Nat.le_refl _)) hset hfr hp.base rfl ⟨rfl,rfl,rfl⟩ ⟨_,rfl,by
        simp only[Array.size_append,List.size_toArray,size_zeroCells,hzc,hlen0, <-Nat.add_mul];congr 1;omega,by
        simp only[Array.size_append,List.size_toArray,hl2,hlen0];omega,by
        rw[Array.toList_append,List.take_append_of_le_length YaB,List.take_of_length_le YaB,hall];exact (q4.append r1).le (Rho.put_le _ hfr)⟩
      have hg0:Go1 P K B ρ s w ρ (s.read k) w.drew:=.same hp.mem rfl rfl rfl ⟨rfl,rfl,rfl⟩;refine Runs.of_value hnd (run_app h hc ha hat (by rw[hux,hyv];exact hrun)) ⟨_,hg0.trans hgo ev2 ev3,?_⟩;exact .slO _ _ _ _ _ _ _ (Rho.put_same _ _ _) hge hle (by rw[Nat.zero_add])
    ·cases hr
  ·cases hr
end
theorem bytesOf_rel{ρ:Rho}:∀{l:List CV} {b:List UInt8} {vs:List Value},bytesOf l=some b->CRL ρ l vs->∃ns:List Int,vs=ns.map (Value.int .u8)/\b=ns.map λn=>UInt8.ofNat n.toNat
 | [],b,vs,h,hr=>by simp[bytesOf] at h;subst h;cases hr;exact⟨[],rfl,rfl⟩
 | x::l,b,vs,h,hr=>by
  unfold bytesOf at h;split at h
  ·rename_i e;cases e
  ·rename_i n r e;split at h
   ·rename_i l' hl;cases h;injection e with e1 e2
    subst e1;subst e2;cases hr with
    | cons _ v _ us hv ht=>
     obtain⟨ns,h1,h2⟩:=bytesOf_rel hl ht;exact⟨n::ns,by rw[hv.val_eq,h1];rfl,by rw[h2];rfl⟩
   ·cases h
  ·cases h
theorem fold_push:∀(ns:List Int) (b:ByteArray),ns.foldl (λr n=>r.push (UInt8.ofNat n.toNat)) b=⟨b.data++(ns.map λn=>UInt8.ofNat n.toNat).toArray⟩
 | [],b=>by simp
 | n::ns,b=>by
  rw[List.foldl_cons,fold_push ns];congr 1;apply Array.ext';simp[ByteArray.push]
section
variable{P:Program}{env:Tr CV}{o:Oper}{s:S}{res:Ret}
theorem convI_ok{src dst:TypeId}{x:Operand}{k k0 k1:IntKind}{n:Int}(h:o.op= .convert src dst x)(h1:P.underlying src=some (.int k1))(h2:P.underlying dst=some (.int k))(hx:ev env x=some (.val (.int k0 n))):OpOk P env o s (.ok (.val (.int k (k.wrap n))) s):=
 .pure Yk λρ a w he=>⟨.int k (k.wrap n),by have e:=(ev_sound he hx).val_eq;simp[execOp,h,e,convert,run_underlying h1,run_underlying h2,Conv.intToInt],.val _⟩
theorem convS_ok{src dst:TypeId}{x:Operand}{b:ByteArray}(h:o.op= .convert src dst x)(h1:P.underlying src=some .string)(h2:P.underlying dst=some .string)(hx:ev env x=some (.val (.string b))):OpOk P env o s (.ok (.val (.string b)) s):=
 .pure Yk λρ a w he=>⟨.string b,by have e:=(ev_sound he hx).val_eq;simp[execOp,h,e,convert,run_underlying h1,run_underlying h2],.val _⟩
theorem convN_ok{src dst e:TypeId}{x:Operand}(h:o.op= .convert src dst x)(h1:P.underlying src=some (.slice e))(h2:P.underlying dst=some .string)(he':P.underlying e=some (.int .u8))(hx:ev env x=some (.val (.slice none 0 0))):OpOk P env o s (.ok (.val (.string ⟨#[]⟩)) s):=
 .pure Yk λρ a w he=>⟨.string ⟨#[]⟩,by have e:=(ev_sound he hx).val_eq;simp[execOp,h,e,convert,run_underlying h1,run_underlying h2,run_underlying he',Conv.bytesToString];rfl,.val _⟩
theorem convB_ok{src dst e:TypeId}{x:Operand}{k q n:Nat}{cap:Option Nat}{tt:TypeId}{cs l:List CV}{opn:Bool}{b:List UInt8}(h:o.op= .convert src dst x)(h1:P.underlying src=some (.slice e))(h2:P.underlying dst=some .string)(he':P.underlying e=some (.int .u8))(hx:ev env x=some (.sl k q n cap 1))
  (hg:s.h.get k=some (.row tt cs opn)) (hl:part cs q n=some l) (hb:bytesOf l=some b):OpOk P env o s (.ok (.val (.string ⟨b.toArray⟩)) (s.read k)):=by
 refine .look Yk λK B ρ a w hK hm he=>?_;obtain⟨bk,m,vs,q1,_,q3,q4,q5,q6⟩:=hm.cells hK hg hl;obtain⟨ns,e1,e2⟩:=bytesOf_rel hb q4;have hld:(loadCells ⟨bk,q,none⟩ n).run P w= .ok (ns.map (Value.int .u8)).toArray w:=by
  rw[<-e1];have:=run_loadCells_list (P:=P) w ⟨bk,q,none⟩ ((vs.toList.drop q).take n) (λj v hj=>by rw[Addr.add_lit];exact q6 j v hj);rwa [q5] at this
 have hv:=ev_sound he hx;generalize hu:a.eval x=u at hv;have fin:∀c,u= .slice (some ⟨bk,q,none⟩) n c->∃v,(execOp a.eval o).run P w= .ok (.value v) w/\CR ρ (.val (.string ⟨b.toArray⟩)) v:=λc e=>by
  have hr:=run_bytesToString (P:=P) w ⟨bk,q,none⟩ n c ns hld;rw[fold_push, <-e2] at hr;refine⟨_,?_,.val _⟩;have e3:(⟨ByteArray.empty.data++b.toArray⟩:ByteArray)=⟨b.toArray⟩:=by congr 1;apply Array.ext';rw[Array.toList_append];rfl
  rw[e3] at hr;simp[execOp,h,hu,e,convert,run_underlying h1,run_underlying h2,run_underlying he',hr]
 cases hv with
 | sl _ _ _ c _ b' n' hρ _=>rw[q1] at hρ;cases hρ;exact fin c rfl
 | slO _ _ _ c _ b' n' hρ _ _ _=>rw[q1] at hρ;cases hρ;exact fin c rfl
theorem assertHit_ok{x:Operand}{xt t:TypeId}{ok:Bool}{v:CV}{d:TypeDesc}(h:o.op= .typeAssert x xt t ok)(ht:P.underlying t=some d)(hd:∀l,d≠ .interface l)(hx:ev env x=some (.iface t v)):OpOk P env o s (.ok (bif ok then .tup [v,.val (.bool true)] else v) s):=by
 refine .pure Yk λρ a w he=>?_;have hv:=ev_sound he hx;generalize hu:a.eval x=u at hv;cases hv with
 | iface _ _ u' hu'=>
  refine⟨if ok then .tuple #[u',.bool true] else u',?_,?_⟩
  ·cases d <;> first | (exact absurd rfl (hd _)) | (cases ok <;> simp[execOp,h,hu,Instr.typeAssert,run_underlying ht])
  ·cases ok with
   | true=>exact .tup _ _ (.cons _ _ _ _ hu' (.cons _ _ _ _ (.val _) .nil))
   | false=>exact hu'
theorem assertMiss_ok{x:Operand}{xt t t2:TypeId}{v z:CV}{d:TypeDesc}(h:o.op= .typeAssert x xt t true)(ht:P.underlying t=some d)(hd:∀l,d≠ .interface l)(hx:ev env x=some (.iface t2 v))(hne:t2≠t)(hz:oneZ P t=some z):OpOk P env o s (.ok (.tup [z,.val (.bool false)]) s):=by
 refine .pure Yk λρ a w he=>?_;have hv:=ev_sound he hx;obtain⟨zv,h1,h2⟩:=oneZ_spec hz w;generalize hu:a.eval x=u at hv;cases hv with
 | iface _ _ u' hu'=>
  refine⟨.tuple #[zv,.bool false],?_,.tup _ _ (.cons _ _ _ _ (h2 ρ) (.cons _ _ _ _ (.val _) .nil))⟩;cases d <;> first | (exact absurd rfl (hd _)) | simp[execOp,h,hu,Instr.typeAssert,run_underlying ht,hne,h1]
theorem assertNil_ok{x:Operand}{xt t:TypeId}{z:CV}{d:TypeDesc}(h:o.op= .typeAssert x xt t true)(ht:P.underlying t=some d)(hd:∀l,d≠ .interface l)(hx:ev env x=some (.val .nilIface))(hz:oneZ P t=some z):OpOk P env o s (.ok (.tup [z,.val (.bool false)]) s):=by
 refine .pure Yk λρ a w he=>?_;have hv:=(ev_sound he hx).val_eq;obtain⟨zv,h1,h2⟩:=oneZ_spec hz w;refine⟨.tuple #[zv,.bool false],?_,.tup _ _ (.cons _ _ _ _ (h2 ρ) (.cons _ _ _ _ (.val _) .nil))⟩;cases d <;> first | (exact absurd rfl (hd _)) | simp[execOp,h,hv,Instr.typeAssert,run_underlying ht,h1]
theorem run_copy_at(w:World){t t' ty:TypeId}{sz:Nat}(ht:slSize P t=some sz)(b1 o1 n1 c1 b2 o2 n2 c2:Nat)(e:TypeId)(cur:Array Value)(hg:w.heap[b1]? =some (.cells cur e (0,0)))(news:List Value)(hl:news.length=min n2 n1*sz)(hn:∀j v,news[j]? =some v->w.cell? ⟨b2,o2+j,none⟩=some v)(h1:∀v∈news,v.oneCell'=true)(hfit:o1+news.length<=cur.size):
  (Builtin.copy_ #[t,t'] ty #[.slice (some ⟨b1,o1,none⟩) n1 c1,.slice (some ⟨b2,o2,none⟩) n2 c2]).run P w= .ok (.int .i64 (min n2 n1:Nat)) (w.setRow b1 (cur.toList.take o1++news++cur.toList.drop (o1+news.length)).toArray):=by
 obtain⟨el,i,hu,hi,hk⟩:=slSize_spec ht;have hf:=run_firstCells_some (P:=P) w i.size (min n2 n1) ⟨b2,o2,none⟩ n2 c2 news (by rw[hk];exact hl) (λj v hj=>by rw[Addr.add_lit];exact hn j v hj);have hst:=run_storeCells_at P b1 o1 e news 0 cur w hg (by simpa using hfit) h1;simp only[Nat.add_zero] at hst;simp[Builtin.copy_,run_underlying hu,sizeOf,typeInfo,hi,Builtin.lenOf,hf,hst,goInt]
theorem run_copy_none(w:World){t t' ty:TypeId}{sz:Nat}(ht:slSize P t=some sz)(a1 a2:Option Addr)(n1 c1 n2 c2:Nat)(h:n1=0\/n2=0):
  (Builtin.copy_ #[t,t'] ty #[.slice a1 n1 c1,.slice a2 n2 c2]).run P w= .ok (.int .i64 0) w:=by
 obtain⟨el,i,hu,hi,hk⟩:=slSize_spec ht;have hm:min n2 n1=0:=by omega
 have hf:(Builtin.firstCells i.size 0 (.slice a2 n2 c2)).run P w= .ok #[] w:=by
  cases a2 with
  | none=>exact run_firstCells_none w _ _ _ _
  | some a=>exact run_firstCells_some (P:=P) w i.size 0 a n2 c2 [] Yn Yn
 cases a1 <;> simp[Builtin.copy_,run_underlying hu,sizeOf,typeInfo,hi,Builtin.lenOf,hm,hf,goInt,storeCells]
theorem minN_eq(n m:Nat):minN n m=min m n:=by
 unfold minN;cases h:Nat.ble n m with
 | true=>have:=Nat.le_of_ble_eq_true h;rw[bif_t];omega
 | false=>
  rw[bif_f];have: ¬n<=m:=λhle=>by rw[Nat.ble_eq_true_of_le hle] at h;cases h
  omega
theorem run_cpy{c:Call}{x y:Operand}{t t':TypeId}(h:o.op= .call c)(hc:c.callee= .builtin .copy)(ha:c.args.toList= [x,y])(ht:c.argTypes.toList= [t,t']){a:Act}{w w':World}{v:Value}(hr:(Builtin.copy_ #[t,t'] o.type #[a.eval x,a.eval y]).run P w= .ok v w'):(execOp a.eval o).run P w= .ok (.value v) w':=by
 obtain⟨ce,ar,at_⟩:=c;obtain rfl:ar= #[x,y]:=by apply Array.ext';simpa using ha
 obtain rfl:at_= #[t,t']:=by apply Array.ext';simpa using ht
 simp only at hc;subst hc;simp[execOp,h,resolve,invoke,builtin,hr]
theorem noSl_rel{ρ:Rho}{x:CV}{v:Value}(h:noSl x=true)(hr:CR ρ x v):∃a c,v= .slice a 0 c:=by
 unfold noSl at h;split at h
 ·cases hr with | e0 a c=>exact⟨a,c,rfl⟩
 ·cases hr;exact⟨none,0,rfl⟩
 ·cases h
theorem anySl_rel{ρ:Rho}{x:CV}{v:Value}(h:anySl x=true)(hr:CR ρ x v):∃a n c,v= .slice a n c:=by
 unfold anySl at h;split at h
 ·cases hr with
  | sl=>exact⟨_,_,_,rfl⟩
  | slO=>exact⟨_,_,_,rfl⟩
 ·obtain⟨a,c,e⟩:=noSl_rel h hr;exact⟨a,0,c,e⟩
theorem copy_ok{c:Call}{x y:Operand}{t t':TypeId}(h:o.op= .call c)(hc:c.callee= .builtin .copy)(ha:c.args.toList= [x,y])(hat:c.argTypes.toList= [t,t']){a b:CV}(hx:ev env x=some a)(hy:ev env y=some b)(hr:copyV P t a b s=some res):OpOk P env o s res:=by
 have hnd:∀c,o.op≠ .defer c:=by simp[h]
 unfold copyV at hr;split at hr
 ·cases hr
 ·rename_i sz hs;split at hr
  ·rename_i k q n cp z k2 q2 m cp2 z2;cases hz:(Nat.beq z sz && Nat.beq z2 sz) with
   | false=>rw[hz] at hr;cases hr
   | true=>
    rw[hz,bif_t] at hr;obtain⟨tt,cs,opn,news,h1,h2,hr2⟩:=rdRow_inv hr;clear hr;cases hone:allOne news with
    | false=>rw[hone] at hr2;cases hr2
    | true=>
     rw[hone,bif_t] at hr2;obtain⟨ob,h3,hr3⟩:=rd_inv hr2;clear hr2;split at hr3
     ·rename_i e cs1 opn1;split at hr3
      ·rename_i cs' hput;obtain⟨o0,h',h4,hset,hr4⟩:=wr_inv hr3;clear hr3;rw[retI_eq] at hr4;cases hr4;have ev1:Ev s ((s.read k2).read k):=(Ev.read s k2).trans (Ev.read (s.read k2) k);have ev2:Ev ((s.read k2).read k) (((s.read k2).read k).write k h'):=Ev.write (o0:=.row e cs1 opn1) h3 hset;refine⟨ev1.trans ev2,λK B ρ r f w hp he=>?_⟩;have hK2:K k2:=hp.cov.R k2 (ev2.R k2 ((Ev.read (s.read k2) k).R k2 (read_bit s k2)));have hK:K k:=hp.cov.W k (write_bit _ _ _);obtain⟨b2,m2,vs2,q1,_,q3,q4,q5,q6⟩:=hp.mem.cells hK2 h1 h2;obtain⟨bb,mm,vs,p1,p2,p3,p4,p5,p6,p7⟩:=hp.mem.row hK h3;obtain⟨c1,c2⟩:=putN_eq hput;have hnl:((vs2.toList.drop q2).take (minN n m*sz)).length=news.length:=q4.length;have one:=allOne_rel q4 hone;have hxv:=ev_sound he hx;have hyv:=ev_sound he hy;generalize hux:f.eval x=ux at hxv;generalize huy:f.eval y=uy at hyv;have ex:∃c,ux= .slice (some ⟨bb,q,none⟩) n c:=by
        cases hxv with
        | sl _ _ _ c _ b' n' hρ _=>rw[p1] at hρ;cases hρ;exact⟨c,rfl⟩
        | slO _ _ _ c _ b' n' hρ _ _ _=>rw[p1] at hρ;cases hρ;exact⟨c,rfl⟩
       have ey:∃c,uy= .slice (some ⟨b2,q2,none⟩) m c:=by
        cases hyv with
        | sl _ _ _ c _ b' n' hρ _=>rw[q1] at hρ;cases hρ;exact⟨c,rfl⟩
        | slO _ _ _ c _ b' n' hρ _ _ _=>rw[q1] at hρ;cases hρ;exact⟨c,rfl⟩
       obtain⟨cx,rfl⟩:=ex;obtain⟨cy,rfl⟩:=ey;have hrun:=run_copy_at (P:=P) w (t':=t') (ty:=o.type) hs bb q n cx b2 q2 m cy e vs p3 _ (by rw[q5,minN_eq]) q6 one (by rw[hnl];omega);rw[<-minN_eq n m] at hrun;generalize hcur:(vs.toList.take q++(vs2.toList.drop q2).take (minN n m*sz)++vs.toList.drop (q+((vs2.toList.drop q2).take (minN n m*sz)).length)).toArray=cur at hrun;have hcs:cur.size=vs.size:=by rw[<-hcur,hnl];simp only[List.size_toArray,List.length_append,hnl];rw[List.length_take,List.length_drop];have:vs.toList.length=vs.size:=Array.length_toList;omega
       have hor:OR P ρ mm (.row e cs' opn1) (.cells cur e (0,0)):=by
        cases opn1 with
        | false=>
         refine⟨cur,rfl,by rw[hcs,p4],?_⟩;rw[c1, <-hcur,hnl];have hr:=p7 rfl;exact ((hr.take _).append q4).append (hr.drop _)
        | true=>
         have hl':cs'.length=cs1.length:=by rw[c1];simp only[List.length_append,List.length_take,List.length_drop];omega
         refine⟨cur,rfl,by rw[hcs,p4],by rw[hl',hcs];exact p5,?_⟩;have hr:=((p6.take q).append q4).append (p6.drop (q+news.length));rw[<-c1] at hr;have e:cur.toList.take cs'.length=(vs.toList.take cs1.length).take q++(vs2.toList.drop q2).take (minN n m*sz)++(vs.toList.take cs1.length).drop (q+news.length):=by
          rw[hl', <-hcur,hnl];have:=take_put vs.toList ((vs2.toList.drop q2).take (minN n m*sz)) q cs1.length (by rw[hnl];exact c2) (by have:vs.toList.length=vs.size:=Array.length_toList;omega);rwa [hnl] at this
         rw[e];exact hr
       have g0:Go1 P K B ρ s w ρ ((s.read k2).read k) w:=.same hp.mem rfl rfl rfl ⟨rfl,rfl,rfl⟩;refine Runs.of_value hnd (run_cpy h hc ha hat (by rw[hux,huy];exact hrun)) ⟨ρ,g0.trans (Go1.set (s:=(s.read k2).read k) (o0:=.row e cs1 opn1) g0.mem hK h3 hset p1 p3 (setRow_heap w bb vs cur e (0,0) p3) Yn (λj hj=>setRow_other w bb j cur hj) ⟨rfl,rfl,rfl⟩ hor) ev1 ev2,.val _⟩
      ·cases hr3
     ·cases hr3
  ·cases hq:((noSl a || noSl b) && anySl a && anySl b) with
   | false=>rw[hq] at hr;cases hr
   | true=>
    rw[hq,bif_t,retI_eq] at hr;cases hr;simp only[Bool.and_eq_true] at hq;refine .pure hnd λρ f w he=>?_;obtain⟨a1,n1,c1,e1⟩:=anySl_rel hq.1.2 (ev_sound he hx);obtain⟨a2,n2,c2,e2⟩:=anySl_rel hq.2 (ev_sound he hy);refine⟨.int .i64 0,run_cpy h hc ha hat ?_,.val _⟩;rw[e1,e2];refine run_copy_none w hs a1 a2 n1 c1 n2 c2 ?_;rw[Bool.or_eq_true] at hq;rcases hq.1.1 with hh | hh
    ·obtain⟨a,c,e⟩:=noSl_rel hh (ev_sound he hx);rw[e1] at e;cases e;exact .inl rfl
    ·obtain⟨a,c,e⟩:=noSl_rel hh (ev_sound he hy);rw[e2] at e;cases e;exact .inr rfl
theorem run_builtin{c:Call}{b:Builtin}(h:o.op= .call c)(hc:c.callee= .builtin b){a:Act}{w w':World}{v:Value}(hr:∀cs,(builtin b c.argTypes o.type cs (c.args.map a.eval)).run P w= .ok (.value v) w'):(execOp a.eval o).run P w= .ok (.value v) w':=by
 obtain⟨ce,ar,at_⟩:=c;simp only at hc;subst hc;simp[execOp,h,resolve,invoke,hr]
theorem args_one{c:Call}{x:Operand}(h:c.args.toList= [x]):c.args= #[x]:=by apply Array.ext';simpa using h
theorem types_one{c:Call}{t:TypeId}(h:c.argTypes.toList= [t]):c.argTypes= #[t]:=by apply Array.ext';simpa using h
theorem opV_sound(hl:laidOutB P=true)(h:opV P env o.op s=some res):OpOk P env o s res:=by
 cases hop:o.op <;> rw[hop] at h <;> simp only[opV,o_move,o_pick,o_alloc,o_box,o_build,o_buildSlice,o_load,o_store,o_nilCheck,o_binOp,o_unOp,o_convert,o_makeInterface,o_makeFunc,o_makeMap0,o_makeMap1,o_makeSlice,o_slice,o_sliceS,o_sliceA,o_field,o_fieldAddr,o_indexAddr,o_index,o_lookup,o_mapUpdate,o_mapEntry,o_entryStore,o_extract,o_typeAssert,o_call] at h
 case move x=>
  split at h
  ·rename_i a ha;cases h;exact move_ok (.inl hop) ha
  ·cases h
 case assign x=>
  split at h
  ·rename_i a ha;cases h;exact move_ok (.inr hop) ha
  ·cases h
 case pick c a b=>
  split at h
  ·rename_i hc;split at h
   ·rename_i x hx;cases h;exact pick_ok hop hc hx
   ·cases h
  ·rename_i hc;split at h
   ·rename_i x hx;cases h;exact pick_ok hop hc hx
   ·cases h
  ·cases h
 case alloc t=>
  split at h
  ·rename_i zs hz;split at h
   ·rename_i cs hc;obtain⟨h',hs,h⟩:=nw_inv h;cases h;exact alloc_ok hop hz hc hs
   ·cases h
  ·cases h
 case box t x=>
  split at h
  ·rename_i a ha;obtain⟨hb,h⟩:=ifT_some h;obtain⟨h',hs,h⟩:=nw_inv h;cases h;exact box_ok hop ha hb hs
  ·cases h
 case build t ps=>
  split at h
  ·rename_i zs places xs hB hx;split at h
   ·rename_i cs parts hc hz;obtain⟨hb,h⟩:=ifT_some h;split at h
    ·rename_i l hf;cases h;exact build_ok hop hB hx hc hz hb hf
    ·cases h
   ·cases h
  ·cases h
 case buildSlice t n ps=>
  split at h
  ·rename_i e sz by_ zs xs hE hx;split at h
   ·rename_i cs parts hc hz;cases hn:Nat.beq n 0 with
    | true=>
     have:=beq_of hn;subst this;rw[hn,bif_t] at h;split at h
     ·obtain⟨h',hs,h⟩:=nw_inv h;cases h;refine row0_ok hop ?_ hE hs;have:=zipIx_eq hz;have h2:parts= []:=List.map_eq_nil_iff.1 this.2;rw[h2] at this;exact List.map_eq_nil_iff.1 this.1.symm
     ·cases h
    | false=>
     rw[hn,bif_f] at h;obtain⟨hb,h⟩:=ifT_some h;simp only[Bool.and_eq_true] at hb;split at h
     ·rename_i l hf;obtain⟨h',hs,h⟩:=nw_inv h;cases h;exact row_ok hop hE hx hc hz (nbeq_of hn) hb.1.1.1 (Nat.le_of_ble_eq_true hb.1.1.2) (beq_of hb.1.2) (blt_of hb.2) hf hs
     ·cases h
   ·cases h
  ·cases h
 case load t p=>
  split at h
  ·rename_i n k off ht hp;obtain⟨tt,cs,opn,l,h1,h2,h⟩:=rdRow_inv h;cases h;exact loadA_ok hop ht hp h1 h2
  ·rename_i n k off ht hp;obtain⟨tt,cs,opn,l,h1,h2,h⟩:=rdRow_inv h;split at h
   ·rename_i x;cases h;exact load1_ok hop ht hp h1 h2
   ·cases h
  ·cases h
 case store t p x=>
  split at h
  ·rename_i agg n k off a ht hp hx;obtain⟨hb,h⟩:=ifT_some h;simp only[Bool.and_eq_true] at hb;obtain⟨ob,h1,h⟩:=rd_inv h;split at h
   ·rename_i e cs opn;split at h
    ·rename_i cs' hput;obtain⟨o0,h',h2,hs,h⟩:=wr_inv h;cases h;exact store_ok hop ht hp hx hb.1.1 hb.1.2 (beq_of hb.2) h1 hput hs
    ·cases h
   ·cases h
  ·cases h
 case nilCheck x=>
  split at h
  ·rename_i k q ha;cases h;exact nilCheck_ok hop ha (.inl ⟨_,_,rfl⟩)
  ·rename_i f a b ha;cases h;exact nilCheck_ok hop ha (.inr (.inl ⟨_,_,_,rfl⟩))
  ·rename_i t v ha;cases h;exact nilCheck_ok hop ha (.inr (.inr (.inl ⟨_,_,rfl⟩)))
  ·rename_i k ha;cases h;exact nilCheck_ok hop ha (.inr (.inr (.inr ⟨_,rfl⟩)))
  ·cases h
 case binOp op t x y t'=>
  split at h
  ·rename_i a b ha hb;exact bin_ok hop ha hb h
  ·cases h
 case unOp op t x=>
  split at h
  ·rename_i b hx;rw[retB_eq] at h;cases h;exact .pure Yah λρ a w he=>⟨.bool (!b),by have e:=(ev_sound he hx).val_eq;simp[execOp,hop,e,Op.unary],.val _⟩
  ·rename_i k n hx;rw[retI_eq] at h;cases h;exact .pure Yah λρ a w he=>⟨.int k (k.wrap (0 - n)),by have e:=(ev_sound he hx).val_eq;simp[execOp,hop,e,Op.unary,Op.intArith],.val _⟩
  ·rename_i k n hx;simp only[bitI,retI_eq,Option.some.injEq] at h;subst h;refine .pure Yah λρ a w he=>⟨_,?_,.val _⟩;have e:=(ev_sound he hx).val_eq;cases hk:k.signed <;> simp[execOp,hop,e,Op.unary,Op.intBits,hk]
  ·cases h
 case convert src dst x=>
  split at h
  ·rename_i k1 k k0 n h1 h2 hx;rw[retI_eq] at h;cases h;exact convI_ok hop h1 h2 hx
  ·rename_i b h1 h2 hx;cases h;exact convS_ok hop h1 h2 hx
  ·rename_i k1 k n h1 h2 hx;obtain⟨hb,h⟩:=ifT_some h;cases h;exact convR_ok hop h1 h2 (blt_of hb) hx
  ·rename_i e h1 h2 hx;split at h
   ·rename_i he;cases h;exact convN_ok hop h1 h2 he hx
   ·cases h
  ·rename_i e k q n cap sz h1 h2 hx;split at h
   ·rename_i he;obtain⟨hb,h3⟩:=ifT_some h;have:=beq_of hb;subst this;obtain⟨tt,cs,opn,l,g1,g2,h4⟩:=rdRow_inv h3;split at h4
    ·rename_i b hb;cases h4;exact convB_ok hop h1 h2 he hx g1 g2 hb
    ·cases h4
   ·cases h
  ·cases h
 case makeInterface t x=>
  split at h
  ·rename_i a ha;obtain⟨hb,h⟩:=ifT_some h;cases h;exact iface_ok hop ha hb
  ·cases h
 case makeFunc fn first caps=>
  split at h
  ·rename_i f a b ha hb;cases h;exact func_ok hop ha hb
  ·cases h
 case makeMap t r=>
  cases r with
  | none=>
   simp only[o_makeMap0] at h;split at h
   ·rename_i kt et hm;obtain⟨h',hs,h⟩:=nw_inv h;cases h;exact .make Yah hs λK B ρ a w _ _=>⟨.map (some w.heap.size),w.alloc (.map #[] 0),.map #[] 0,0,run_newMap hop a w,rfl,alloc_like _ _,⟨#[],rfl,.nil,.nil⟩,λρ' _ hr=>.map _ _ _ hr⟩
   ·cases h
  | some r=>
   simp only[o_makeMap1] at h;split at h
   ·rename_i kt et k n hm hr;obtain⟨h',hs,h⟩:=nw_inv h;cases h;refine .make Yah hs λK B ρ a w _ he=>⟨.map (some w.heap.size),w.alloc (.map #[] 0),.map #[] 0,0,?_,rfl,alloc_like _ _,⟨#[],rfl,.nil,.nil⟩,λρ' _ hr=>.map _ _ _ hr⟩;have e:=(ev_sound he hr).val_eq;simp[execOp,hop,e,Instr.makeMap,run_underlying (mapInfo_spec hm),asInt,asIntOf]
   ·cases h
 case makeSlice t x y=>
  split at h
  ·rename_i e sz by_ zs a b hE hx hy;split at h
   ·rename_i n m cs ha hb hc;obtain⟨hq,h⟩:=ifT_some h;simp only[Bool.and_eq_true] at hq;obtain⟨h',hs,h⟩:=nw_inv h;cases h;exact makeSlice_ok hop hE hx hy ha hb hc (Nat.le_of_ble_eq_true hq.1.1.1.1) (Nat.le_of_ble_eq_true hq.1.1.1.2) (Nat.le_of_ble_eq_true hq.1.1.2) (beq_of hq.1.2) (blt_of hq.2) hs
   ·cases h
  ·cases h
 case slice t x lo hi mx=>
  split at h
  ·rename_i k q l hh m hx hl hhi hm;split at h
   ·rename_i n sz ht;obtain⟨hq,h⟩:=ifT_some h;split at h
    ·rename_i r hr;cases h;exact sliceA_ok hop ht hx hl hhi hm hq hr
    ·cases h
   ·cases h
  ·rename_i a l hh m _ hx hl hhi hm;split at h
   ·rename_i sz ht;obtain⟨hq,h⟩:=ifT_some h;split at h
    ·rename_i r hr;cases h;exact slice_ok hop ht hx hl hhi hm hq hr
    ·cases h
   ·cases h
  ·cases h
 case field t x f=>
  split at h
  ·rename_i off n cs hf hx;split at h
   ·rename_i l hl;cases h;exact field_ok hop hf hx (by simpa using hl) Yn
   ·cases h
  ·rename_i off n cs hf hx;split at h
   ·rename_i y hl;cases h;exact field_ok hop hf hx (l:=[y]) (by simpa using hl) Yn
   ·cases h
  ·cases h
 case fieldAddr t x f=>
  split at h
  ·rename_i off k q hf hx;cases h;exact fieldAddr_ok hop hf hx
  ·cases h
 case indexAddr t x i=>
  split at h
  ·rename_i k q n cap z b hx hi;split at h
   ·rename_i sz j ht hj;obtain⟨hq,h⟩:=ifT_some h;rw[Bool.and_eq_true] at hq;cases h;exact indexSl_ok hop hx hi ht hj (blt_of hq.2)
   ·cases h
  ·rename_i k q b hx hi;split at h
   ·rename_i n sz j ht hj;obtain⟨hq,h⟩:=ifT_some h;cases h;exact indexArr_ok hop hx hi ht hj (blt_of hq)
   ·cases h
  ·cases h
 case index t x i=>
  split at h
  ·rename_i b j hu hx hi;split at h
   ·rename_i n hn;split at h
    ·rename_i c hc;rw[retI_eq] at h;cases h;obtain⟨kk,rfl⟩:=natAny_eq hn;refine .pure Yah λρ a w he=>⟨.int .u8 (c.toNat:Nat),?_,.val _⟩;have e1:=(ev_sound he hx).val_eq;have e2:=(ev_sound he hi).val_eq;have hc':b[n]? =some c:=by
      show (if h:n<b.size then some b[n] else none)=some c;obtain⟨hlt,hv⟩:=List.getElem?_eq_some_iff.1 hc;have hlt':n<b.size:=by simpa using hlt
      rw[dif_pos hlt'];congr 1
     simp[execOp,hop,e1,e2,Instr.index,asIntOf,run_underlying hu,hc']
    ·cases h
   ·cases h
  ·cases h
 case lookup t m k ok=>
  split at h
  ·rename_i kt et mv key ht hm hk;split at h
   ·cases h
   ·rename_i z hz;obtain⟨hq,h⟩:=ifT_some h;exact lookup_ok hl hop ht hm hk hz hq h
  ·cases h
 case mapUpdate t m k x=>
  split at h
  ·rename_i kt et r key v ht hm hk hx;obtain⟨hq,h⟩:=ifT_some h;exact mapUpdate_ok hl (.inl hop) ht hm hk hx hq h
  ·cases h
 case insert t m k x=>
  split at h
  ·rename_i kt et r key v ht hm hk hx;obtain⟨hq,h⟩:=ifT_some h;exact mapUpdate_ok hl (.inr hop) ht hm hk hx hq h
  ·cases h
 case mapEntry t m k=>
  split at h
  ·rename_i kt et r key ht hm hk;obtain⟨hq,h⟩:=ifT_some h;exact mapEntry_ok hl hop ht hm hk hq h
  ·cases h
 case entryStore t m k x=>
  split at h
  ·rename_i r kk n v hm hk hx;exact entryStore_ok hop hm hk hx h
  ·cases h
 case extract x i=>
  split at h
  ·rename_i xs hx;split at h
   ·rename_i y hy;cases h;exact extract_ok hop hx hy
   ·cases h
  ·cases h
 case typeAssert x xt t ok=>
  split at h
  ·cases h
  ·rename_i d hd ht hx;cases ok with
   | true=>
    rw[bif_t] at h;split at h
    ·rename_i z hz;cases h;exact assertNil_ok hop ht (λl e=>hd l e) hx hz
    ·cases h
   | false=>cases h
  ·rename_i d u v hd ht hx;cases hu:Nat.beq u t with
   | true=>
    have:=beq_of hu;subst this;rw[hu,bif_t] at h;cases h;exact assertHit_ok hop ht (λl e=>hd l e) hx
   | false=>
    rw[hu,bif_f] at h;cases ok with
    | true=>
     rw[bif_t] at h;split at h
     ·rename_i z hz;cases h;exact assertMiss_ok hop ht (λl e=>hd l e) hx (nbeq_of hu) hz
     ·cases h
    | false=>cases h
  ·cases h
 case call c=>
  split at h
  ·-- len
   rename_i hc;unfold o_len at h;split at h
   ·rename_i x t hax hat;have lenR:∀{n:Nat},(∀(ρ:Rho) (a:Act) (w:World),EnvC ρ env a->(Builtin.len_ #[t] o.type #[a.eval x]).run P w= .ok (.int .i64 (n:Nat)) w)->retI s .i64 (n:Nat)=some res->OpOk P env o s res:=λ{n} hr e=>by
     rw[retI_eq] at e;cases e;refine .pure Yah λρ a w he=>⟨.int .i64 (n:Nat),?_,.val _⟩;refine run_builtin hop hc λcs=>?_;rw[args_one hax,types_one hat];simp[builtin,hr ρ a w he]
    split at h
    ·rename_i k e r hu hx;obtain⟨ob,h1,h⟩:=rd_inv h;split at h
     ·rename_i kt es cl;rw[retI_eq] at h;cases h;refine .look Yah λK B ρ a w hK hm he=>?_;obtain⟨b,n,en,q1,q2,q3,q4,q5⟩:=hm.map hK h1;have hv:=ev_sound he hx;generalize hux:a.eval x=ux at hv;cases hv with
      | map _ b' n' hρ=>
       rw[q1] at hρ;cases hρ;refine⟨.int .i64 es.length,?_,.val _⟩;refine run_builtin hop hc λcs=>?_;rw[args_one hax,types_one hat];have hgo:(getObj b).run P w= .ok (.map en cl) w:=by simp[getObj,Sem.run,q3]
       have hlen:en.size=es.length:=by have:=q4.length;simpa using this
       simp[builtin,hux,Builtin.len_,run_underlying hu,hgo,goInt,hlen]
     ·cases h
    ·rename_i k e hu hx;exact lenR (n:=0) (λρ a w he=>by rw[(ev_sound he hx).val_eq];simp[Builtin.len_,run_underlying hu,goInt]) h
    ·rename_i e k q n cap sz hu hx;refine lenR (n:=n) (λρ a w he=>?_) h;have hv:=ev_sound he hx;generalize hux:a.eval x=ux at hv;cases hv with
     | sl=>simp[Builtin.len_,run_underlying hu,goInt]
     | slO=>simp[Builtin.len_,run_underlying hu,goInt]
    ·rename_i e hu hx;refine lenR (n:=0) (λρ a w he=>?_) h;have hv:=ev_sound he hx;generalize hux:a.eval x=ux at hv;cases hv with
     | e0=>simp[Builtin.len_,run_underlying hu,goInt]
    ·rename_i e ad n cp hu hx;exact lenR (n:=n) (λρ a w he=>by rw[(ev_sound he hx).val_eq];simp[Builtin.len_,run_underlying hu,goInt]) h
    ·rename_i b hu hx;exact lenR (n:=b.data.toList.length) (λρ a w he=>by rw[(ev_sound he hx).val_eq];simp[Builtin.len_,run_underlying hu,goInt]) h
    ·cases h
   ·cases h
  ·-- append
   rename_i hc;unfold o_append at h;split at h
   ·rename_i x y t t' hax hat;split at h
    ·rename_i e a b hu hx hy;exact append_ok hop hc hax hat hu hx hy h
    ·rename_i kn a b hu hx hy;split at h
     ·rename_i m hm;exact appendZ_ok hop hc hax hat hu hx hy hm h
     ·cases h
    ·cases h
   ·cases h
  ·-- cap
   rename_i hc;unfold o_cap at h;split at h
   ·rename_i x t hax hat;split at h
    ·rename_i e k q n m z hu hx;rw[retI_eq] at h;cases h;exact cap_ok hop hc hax hat hu hx (.inl ⟨_,_,_,_,rfl⟩)
    ·rename_i e b n m hu hx;rw[retI_eq] at h;cases h;exact cap_ok hop hc hax hat hu hx (.inr ⟨_,_,rfl⟩)
    ·cases h
   ·cases h
  ·-- copy
   rename_i hc;unfold o_copy at h;split at h
   ·rename_i x y t t' hax hat;split at h
    ·rename_i a b hx hy;exact copy_ok hop hc hax hat hx hy h
    ·cases h
   ·cases h
  ·-- min
   rename_i hc;unfold o_min at h;split at h
   ·rename_i k a k' b hargs;rw[retI_eq] at h;cases h;refine .pure Yah λρ f w he=>⟨_,?_,.val _⟩;refine run_builtin hop hc λcs=>?_;have hr:=evs_sound he hargs;generalize hal:c.args.toList.map f.eval=al at hr;cases hr with
    | cons _ v1 _ us h1 ht=>
     cases ht with
     | cons _ v2 _ us h2 ht=>
      cases ht;have e:c.args.map f.eval= #[v1,v2]:=by apply Array.ext';simpa using hal
      rw[e,h1.val_eq,h2.val_eq,iLt_eq];by_cases hb:b<a <;> simp[builtin,Builtin.min_,Builtin.min2,hb]
   ·cases h
  ·-- max
   rename_i hc;unfold o_max at h;split at h
   ·rename_i k a k' b hargs;rw[retI_eq] at h;cases h;refine .pure Yah λρ f w he=>⟨_,?_,.val _⟩;refine run_builtin hop hc λcs=>?_;have hr:=evs_sound he hargs;generalize hal:c.args.toList.map f.eval=al at hr;cases hr with
    | cons _ v1 _ us h1 ht=>
     cases ht with
     | cons _ v2 _ us h2 ht=>
      cases ht;have e:c.args.map f.eval= #[v1,v2]:=by apply Array.ext';simpa using hal
      rw[e,h1.val_eq,h2.val_eq,iLt_eq];by_cases hb:a<b <;> simp[builtin,Builtin.max_,Builtin.max2,hb]
   ·cases h
  ·cases h
 all_goals cases h
end
end Go.Ev
