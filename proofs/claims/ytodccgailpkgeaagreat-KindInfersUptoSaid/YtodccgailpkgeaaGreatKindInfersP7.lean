/- A part of the proof. No condition. -/
import Derived.Test.YtodccgailpkgeaaGreatKindInfersP6
import Derived.Laws.StructEq
import Derived.ChangeKeysEq
import Derived.Laws.Pointers
set_option linter.defProp false
set_option maxHeartbeats 1000000
set_option linter.unusedVariables false
set_option linter.unusedSimpArgs false
namespace Go.Eng
open Go.RowKit (Below)
section
variable{c:Ctx}{r:Option Nat}{P:Program}{ops:Array Oper}{rest L:cc}{o:Oper}{env:List (Nat×ab)}{H:aA}{Q:Exit->Act->World->Prop}{x:ab}{d n j k:Nat}{want g:Bool}{K:List (Nat×ab)->Prop}
end
structure Hid(p:Prop):Prop where
 out:p
def n6{goal next:Prop}(k:next)(h:Hid next->goal:=by
  intro k
  first
   | with_reducible refine aZ.seq ?_
   | with_reducible refine aB.seq ?_
   | with_reducible refine aB.region ?_
   | with_reducible refine aj.nil ?_
   | with_reducible refine aB.skip ?_
   | with_reducible refine aB.ret ?_
   | with_reducible refine aB.block ?_
   | with_reducible refine aB.exit ?_
   | with_reducible refine aZ.Uo ?_
   | with_reducible refine aZ.Un ?_
   | with_reducible refine aZ.Up ?_
   | with_reducible refine aZ.Uq ?_
   | with_reducible refine aZ.Ur ?_
   | refine aZ.Us rfl ?_
  exact k.out):goal:=h ⟨k⟩
def akf{goal next:Prop}(k:next)(h:Hid next->goal:=by
  intro k
  iterate 2 refine n6 ?_
  exact k.out):goal:=h ⟨k⟩
def akg{goal next:Prop}(k:next)(h:Hid next->goal:=by
  intro k
  iterate 3 refine n6 ?_
  exact k.out):goal:=h ⟨k⟩
def akh{goal next:Prop}(k:next)(h:Hid next->goal:=by
  intro k
  iterate 4 refine n6 ?_
  exact k.out):goal:=h ⟨k⟩
def aki{goal next:Prop}(k:next)(h:Hid next->goal:=by
  intro k
  iterate 5 refine n6 ?_
  exact k.out):goal:=h ⟨k⟩
def akj{goal next:Prop}(k:next)(h:Hid next->goal:=by
  intro k
  iterate 6 refine n6 ?_
  exact k.out):goal:=h ⟨k⟩
def akk{goal next:Prop}(k:next)(h:Hid next->goal:=by
  intro k
  iterate 7 refine n6 ?_
  exact k.out):goal:=h ⟨k⟩
def akl{goal next:Prop}(k:next)(h:Hid next->goal:=by
  intro k
  iterate 8 refine n6 ?_
  exact k.out):goal:=h ⟨k⟩
def akm{goal next:Prop}(k:next)(h:Hid next->goal:=by
  intro k
  iterate 9 refine n6 ?_
  exact k.out):goal:=h ⟨k⟩
def akn{goal next:Prop}(k:next)(h:Hid next->goal:=by
  intro k
  iterate 12 refine n6 ?_
  exact k.out):goal:=h ⟨k⟩
def ako{goal next:Prop}(k:next)(h:Hid next->goal:=by
  intro k
  iterate 13 refine n6 ?_
  exact k.out):goal:=h ⟨k⟩
def akp{goal next:Prop}(k:next)(h:Hid next->goal:=by
  intro k
  iterate 14 refine n6 ?_
  exact k.out):goal:=h ⟨k⟩
def akq{goal next:Prop}(k:next)(h:Hid next->goal:=by
  intro k
  iterate 16 refine n6 ?_
  exact k.out):goal:=h ⟨k⟩
def WI{goal next:Prop}(k:next)(h:Hid next->goal:=by
  intro k;apply aj.fZ rfl rfl rfl rfl rfl rfl rfl rfl rfl rfl;(case hu=>repeat (first | exact bG.head _ _ _ | apply bG.tail));(case hfit=>rfl);(case hds=>rfl);exact k.out):goal:=h ⟨k⟩
def cl{G p:Prop}(aw:G)(h:G->p:=by
  intro aw
  first | rfl | exact aw | exact (Bool.and_eq_true_iff.1 aw).1 | exact (Bool.and_eq_true_iff.1 (Bool.and_eq_true_iff.1 aw).1).1 | simp_all):p:=h aw
def dC{p q:Prop}(h:p)(s:p->q:=by
  intro h
  first
   | (simp only[decide_eq_true_eq,decide_eq_false_iff_not,beq_iff_eq,bne_iff_ne,ne_eq,Int.not_lt,Int.not_le,beq_eq_false_iff_ne,gt_iff_lt,ge_iff_le,Bool.not_eq_true,Bool.not_eq_false,Bool.not_eq_false',bne_eq_false_iff_eq] at h;exact h)
   | exact h):q:=s h
section
variable{c:Ctx}{r:Option Nat}{P:Program}{Q:Exit->Act->World->Prop}{st:dU}
def bo(J:Nat->Go.Eng.dU->Prop){p:Code}{m:Nat}{st':Go.Eng.dU}(eD:J m st')
  (round:∀m st',J m st'->aB c r P p st' (Exit.then (λa w=>∃n7 lS,n7<m/\J n7 lS/\Sat c lS a w) Q))
  (he:m7 st'.env st.env:=by repeat (first | exact trivial | refine⟨rfl,?_⟩))
  (iM:st'.H.Sublist st.H:=by repeat (first | exact List.Sublist.refl _ | refine List.Sublist.cons _ ?_)):aB c r P (.loop p) st Q:=
 aB.Fk J ⟨m,st',eD,he,iM⟩ round
def aW{J:Nat->Go.Eng.dU->Prop}{m n7:Nat}{st':Go.Eng.dU}(eD:J n7 st')(hm:n7<m:=by omega)(he:m7 st'.env st.env:=by repeat (first | exact trivial | refine⟨rfl,?_⟩))
  (iM:st'.H.Sublist st.H:=by repeat (first | exact List.Sublist.refl _ | refine List.Sublist.cons _ ?_)):aZ c st .normal (Exit.then (λa w=>∃n7 lS,n7<m/\J n7 lS/\Sat c lS a w) Q):=
 aZ.Lu eD hm he iM
def aC{fn:Func}{B:Nat}{c5:cp}{bW:World}{n:Nat}{eu:ab->aA->Prop}{E:ab->aA->Prop}(t:Nat)(H':aA){y:ab}(r1:eu (iy [y]) H')(bH:fn.results= #[.tmp t]:=by exact rfl)(hy:iq P st [.tmp t] [y]:=by exact .tmp rfl .nil)
  (iM:H'.Sublist st.H:=by repeat (first | exact List.Sublist.refl _ | refine List.Sublist.cons _ ?_)):aZ ⟨B,c5,bW,n,[]⟩ st .ret (bodyPost P fn (e4 B c5 bW eu E)):=
 aZ.cg (rs:=[.tmp t]) (H':=H') bH hy (c0.refl _) iM r1
end
def MB{k}:∀(a:List (Nat×ab)) (f:Nat) (c:bl),a.map (·.1)=(List.range a.length).map (f+ ·)->(∀p∈a,fa p.2=true/\(cG p.2).length=k)->(f+a.length)*k<=c.length->
  nS (λi=>some (i*k,k)) c a=some (c.take (f*k)++(a.map λp=>cG p.2).flatten++c.drop ((f+a.length)*k))
 | [],f,c,_,_,_=>by simp[nS]
 | (i,x)::r,f,c,j,o,m=>by
  have aK:=o (i,x) (.head _);rw[List.length_cons,List.range_succ_eq_map,List.map_cons,List.map_cons,List.cons.injEq,List.map_map] at j;obtain⟨e,j⟩:=j;simp[Nat.add_zero] at e;subst e;rw[List.length_cons] at m;have q:(i+1)*k<=c.length:=Nat.le_trans (Nat.mul_le_mul_right k aa) m;have l:(i+1)*k=i*k+k:=Nat.succ_mul i k;have g:(c.take (i*k)++cG x++c.drop (i*k+k)).length=c.length:=by
   simp[List.length_append,List.length_take,List.length_drop,aK.2];omega
  rw[nS];simp only[aK.1,aK.2,Nat.beq_refl,Bool.true_and,Nat.ble_eq_true_of_le (l▸q),cond_true];rw[MB r (i+1) _ (by rw[j];exact List.map_congr_left λa _=>by simp;omega) (λp h=>o p (.tail _ h)) (by rw[g];rw[show i+1+r.length=i+(r.length+1) by omega];exact m)];rw[show i+1+r.length=i+(r.length+1) by omega,l];congr 1;have v:(c.take (i*k)++cG x++c.drop (i*k+k)).take (i*k+k)=c.take (i*k)++cG x:=by
   rw[List.take_append_of_le_length E0,List.take_of_length_le E0]
  have s:(c.take (i*k)++cG x++c.drop (i*k+k)).drop ((i+(r.length+1))*k)=c.drop ((i+(r.length+1))*k):=by
   have t:i*k+k<=(i+(r.length+1))*k:=by rw[<-l];exact Nat.mul_le_mul_right k aa
   rw[List.drop_append,List.drop_of_length_le E0,List.nil_append,List.drop_drop];congr 1;simp only[List.length_append,List.length_take,aK.2];omega
  rw[v,s];simp
section
variable{P:Program}{H:aA}{ρ:Nat->Option ab}{o:Oper}
def ad.r8{t}{n k}{v}{C}(ys)[hR:jY P t (k,C)](h:o.op= .buildSlice t n v)
  (hy:jg ρ (v.toList.map (·.2))=some ys) (E:ys.all (·.1)=true) (r:v.toList.map (·.1)=List.range n) (z:ys.all (λy=>fa y.2 && Nat.beq (cG y.2).length k)=true) (a:Nat.beq ys.length n)
  (w:Nat.ble (n*k) 16777216) (l:Nat.blt 0 (n*k)):ad P H ρ o (.ai k (ys.map λy=>cG y.2)):=by
 have B:=Nat.eq_of_beq_eq_true a;simp only[List.all_eq_true,Bool.and_eq_true] at z;have s:partsOf v.toList ys=(List.range n).zip (ys.map (·.2)):=by rw[partsOf,r]
 have m:((List.range n).zip (ys.map (·.2))).map (·.2)=ys.map (·.2):=List.map_snd_zip (by rw[List.length_range,List.length_map,B];exact Nat.le_refl _);have A:((List.range n).zip (ys.map (·.2))).map (·.1)=List.range n:=List.map_fst_zip (by rw[List.length_range,List.length_map,B];exact Nat.le_refl _);have f:((List.range n).zip (ys.map (·.2))).length=n:=by rw[List.length_zip,List.length_range,List.length_map,B,Nat.min_self]
 have j:(ys.map (·.2)).map cG=ys.map λy=>cG y.2:=by rw[List.map_map];rfl
 have q:(ys.map λy=>cG y.2).all (λe=>Nat.beq e.length k)=true:=by
  rw[List.all_eq_true];intro e F;obtain⟨y,hy,rfl⟩:=List.mem_map.1 F;exact (z y hy).2
 refine .row (hR:=hR) h hy E (els:=ys.map λy=>cG y.2) ?_ (by rw[List.length_map];exact a) q w l ?_
 ·rw[s,show (λx:Nat×ab=>cG x.2)=cG∘(·.2) from rfl, <-List.map_map,m,j]
 ·rw[s,MB ((List.range n).zip (ys.map (·.2))) 0 _ (by rw[A,f];simp) ?_ ?_]
  ·rw[f];have c:((mv n k C).map ab.val).length=n*k:=by simp[mv]
   rw[show (0+n)*k=n*k by rw[Nat.zero_add],List.drop_of_length_le (by rw[c];exact Nat.le_refl _)];simp[Nat.zero_mul,List.take_zero,List.nil_append,List.append_nil];rw[show (λp:Nat×ab=>cG p.2)=cG∘(·.2) from rfl, <-List.map_map,m,j]
  ·intro p D;obtain⟨y,hy,e⟩:=List.mem_map.1 (List.of_mem_zip D).2;have:=z y hy;rw[<-e];exact⟨this.1,Nat.eq_of_beq_eq_true this.2⟩
  ·rw[f];simp[mv]
end
section
variable{P:Program}{H:aA}{ρ:Nat->Option ab}{o:Oper}
end
section
variable{P:Program}{H:aA}{ρ:Nat->Option ab}{o:Oper}
end
section
variable{P:Program}{H:aA}{ρ:Nat->Option ab}{o:Oper}
def ad.WJ{t}{x W}{b}{ke}{l}{k}{g1 V}{zv}[E:qT P t ke][hZ:uU P ke.2 zv](h:o.op= .lookup t x W true)
  (Z:aN ρ x=some (g1,.val (.map (some b)))) (L:g1=true) (bD:aN ρ W=some (V,.i k)) (S:V=true) (hm:dW b l∈H) (X:lx l) (J:fV k):ad P H ρ o (.bk [(hz l k).getD (.val zv),.b (hz l k).isSome]):=by
 intro B I w r a m5 Y Q b6 U;have C:=bX (U.get cb Z L);have F:=bX (U.get cb bD S);obtain⟨gS,⟨cq,dr,a8,c,z⟩,a0⟩:=Q.ok _ (b6 _ hm);have K:=Go.Maps.int_keyed E.int;obtain⟨r2,G⟩:=w5 E.int J;have D:∀e∈cq.toList,∃l,keyOf P ke.1 e.key=some l:=λe he=>by
  have:e.key∈(l.map λp=>((.int .i64 p.1,p.2):Value×ab)).map (·.1):=by rw[<-c];exact List.mem_map_of_mem he
  rw[List.map_map] at this;obtain⟨p,s,T⟩:=List.mem_map.1 this;rw[<-T];exact w5 E.int (X.small p s)
 have m:=K.check w cq.isEmpty G;have q:(getObj b).run P w= .ok (.map cq dr) w:=by simp[getObj,Sem.run,a8]
 rcases K.find w G cq.toList D with⟨b8,hv⟩ | ⟨j,e,b8,cm,jG⟩
 ·have aH:=Gz hZ.h w;have g:(execOp a.eval o).run P w= .ok (.value (.tuple #[zv,.bool false])) w:=by
   simp[execOp,h,Instr.lookup,run_underlying E.h,C,F,q,m,b8,aH]
  have aw:hz l k=none:=Gy l k λp s e=>by
   have:(.int .i64 p.1)∈cq.toList.map (·.key):=by rw[c,List.map_map];exact List.mem_map.2 ⟨p,s,rfl⟩
   obtain⟨e',M,N⟩:=List.mem_map.1 this;exact hv e' M (by rw[N,e])
  refine .e3 cf g ⟨I,Y,.refl _ _ _,Q,?_⟩;rw[aw];exact .bk _ _ (.cons _ _ _ _ (.val _) (.cons _ _ _ _ (.val _) .nil))
 ·have g:(execOp a.eval o).run P w= .ok (.value (.tuple #[e.val,.bool true])) w:=by
   simp[execOp,h,Instr.lookup,run_underlying E.h,C,F,q,m,b8]
  obtain⟨u,f,R⟩:=wR z (i:=j) (v:=e.val) (by rw[List.getElem?_map,cm];rfl);have O:l[j]? =some (k,u):=by
   rw[List.map_map,List.getElem?_map] at f;cases s:l[j]? with
   | none=>rw[s] at f;cases f
   | some p=>
    rw[s] at f;have A:((l.map λp=>((.int .i64 p.1,p.2):Value×ab)).map (·.1))[j]? =some e.key:=by rw[<-c,List.getElem?_map,cm];rfl
    rw[List.map_map,List.getElem?_map,s] at A;simp at f A;rw[jG] at A;simp at A;rw[show p=(k,u) from Prod.ext A f]
  refine .e3 cf g ⟨I,Y,.refl _ _ _,Q,?_⟩;rw[(Cs l k .any j u X.nodup O).2];exact .bk _ _ (.cons _ _ _ _ R (.cons _ _ _ _ (.val _) .nil))
end
section
variable{P:Program}{H:aA}{ρ:Nat->Option ab}{o:Oper}{X:ni}
end
def Rel.Ct{I}{w}{k}{xs ys}{v}(h:Rel I w (.ai k xs) v)(f:ys.length=xs.length)(g:∀(i:Nat) (x y:bl),xs[i]? =some x->ys[i]? =some y->y.length=x.length/\∀b o,Cells I w b o x->Cells I w b o y):Rel I w (.ai k ys) v:=by
 have key:∀(xs ys:List bl) (b o:Nat),ys.length=xs.length->(∀(i:Nat) (x y:bl),xs[i]? =some x->ys[i]? =some y->y.length=x.length/\∀b o,Cells I w b o x->Cells I w b o y)->fL I w k b o xs->fL I w k b o ys:=by
  intro xs
  induction xs with
  | nil=>intro ys b o f _ _;rw[List.eq_nil_of_length_eq_zero f];exact .nil _ _ _
  | cons x xs E=>
   intro ys b o f g h;cases ys with
   | nil=>simp at f
   | cons y ys=>
    cases h with
    | cons _ _ _ _ _ z G t=>
     obtain⟨A,F⟩:=g 0 x y rfl rfl;exact .cons _ _ _ _ _ (A.trans z) (F _ _ G) (E ys _ _ (by simpa using f) (λi x y r s=>g (i+1) x y r s) t)
 cases h with
 | dQ=>rw[List.eq_nil_of_length_eq_zero f];exact .dQ _ _ _
 | ai _ _ b off len B m l q H=>exact .ai _ _ _ _ _ _ (f.trans m) l q (key _ _ _ _ f g H)
section
variable{c:Ctx}{r:Option Nat}{P:Program}{env:List (Nat×ab)}{H:aA}{Q:Exit->Act->World->Prop}{d:Nat}
end
section
variable{c:Ctx}{r:Option Nat}{P:Program}{l:cc}{Q:Exit->Act->World->Prop}
abbrev ps(H:aA)(eu:ab->aA->Prop)(gJ:Nat):Nat->Mem:=λj B a I w=>match j with
 | 0=>a7 B I w H
 | _=>∃y H',eu y H'/\a7 B I w H'/\Rel I w y (a.tmps.getD gJ undef)
def b0.MC{env}{H}(eu)(z e)(k m n)(hn:c.n=n)(kB:mz l k m)(qJ:qI [e] k m)(lq:Nat.ble k m)(gO:Nat.ble m l.length)(mu:(l.all λo=>(looks l o).all λt=>Nat.blt t n)=true)
  (h:bj P (ps H eu z) l [e] c.n k ((l.drop k).take (m - k)) env λenv=>∀y j,eu y j->b0 c r P l Q m ⟨(z,y)::env,j⟩):b0 c r P l Q k ⟨env,H⟩:=
 .anyS (Hs:=ps H eu z) kB qJ (Nat.le_of_ble_eq_true lq) (Nat.le_of_ble_eq_true gO) qq (λB a I w aU=>aU) (h.mono λenv a6 a w I hO fO fi jH kZ l0=>by
  obtain⟨y,j,ae,aU,bH⟩:=kZ;exact a6 y j ae a w ⟨hO,fO,I,fi,jH,aU,Sat.qw l0 bH⟩)
end
section
variable{P:Program}{L rest:cc}{ss:dq}{n i d:Nat}{o:Oper}{env:List (Nat×ab)}{K:List (Nat×ab)->Prop}{x:ab}{H:aA}{eu:ab->aA->Prop}{gJ:Nat}
def bj.ly(b6:kY ss i=0)(F:o.guard=none)(a6:o.dst=some d)(hn:Nat.blt d n)(g:Nat.beq d gJ=false)(D:∀y f,eu y f->ad P f (aD ((gJ,y)::env)) o x)(v:y6 L ss i=0->ad P H (aD env) o x)(next:bj P (ps H eu gJ) L ss n (i+1) rest ((d,x)::env) K):bj P (ps H eu gJ) L ss n i (o::rest) env K:=
 ⟨x,λj E A=>by
  rw[b6];refine gI.of F λB I w r a t l s J=>?_;cases j with
  | zero=>exact (v aa) B I w r a _ t l (λ_ h=>h) s
  | succ j=>
   obtain⟨y,f,q,z,m⟩:=l;refine (D y f q B I w r a _ t z (λ_ h=>h) (Mk s m)).mono (λv G ⟨C,bF,a2,a3,a4⟩=>⟨C,bF,a2,⟨y,f,q,a3,?_⟩,a4⟩) λ_ _ h=>h;rw[a6,lk (λe=>by subst e;simp at g)];exact m.bs a2.keeps,gH a6 hn,fW⟩
def bj.MD{f}{xs}(J:pM L ss i=0)(b6:kY ss i=1)(E:o.guard=none)(a6:o.dst=some gJ)(hn:Nat.blt gJ n)(a1:gD P (aD env) o f xs)(h:∀B,eK B P f xs H eu (λ_ _=>False))
  (next:bj P (ps H eu gJ) L ss n (i+1) rest ((gJ,.any)::env) K):bj P (ps H eu gJ) L ss n i (o::rest) env K:=
 ⟨.any,λj N G=>by
  obtain rfl:j=0:=by omega
  rw[b6];refine gI.of E λB I w r a F g s D=>(Ca (c:=⟨B,I,w,0,[]⟩) a1 (h B) F g s).mono (λv M A=>?_) λ_ _ h=>h;obtain⟨v,l,z,t,C,x,m,q⟩:=A;exact⟨v,t,C,⟨z,l,q,x,by rw[a6,px (D gJ a6)];exact m⟩,.any _⟩,gH a6 hn,fW⟩
end
section
variable{P:Program}{H:aA}{ρ:Nat->Option ab}{o:Oper}
end
def a7.WK{B}{I}{w}{H}{e e'}(a:a7 B I w (e::H))(h:e.ok B I w->e'.ok B I w)(j:e'.dY=e.dY):a7 B I w (e'::H):=by
 refine⟨λf c=>?_,List.pairwise_cons.2 ⟨λf g b l=>(List.pairwise_cons.1 a.apart).1 f g b (by rw[<-j];exact l),(List.pairwise_cons.1 a.apart).2⟩⟩;rcases List.mem_cons.1 c with rfl | c
 ·exact h (a.ok _ (.head _))
 ·exact a.ok f (.tail _ c)
def bQ.WL{I}{w}{x y}(h:∀v,Rel I w x v->Rel I w y v):∀{f a:bl} {c:dg},bQ I w (f++x::a) c->bQ I w (f++y::a) c:=λ{f a c} j=>by
 obtain⟨r,l,rfl,o,m⟩:=j.qG;cases m with
 | cons _ v _ l g q=>exact o.append (.cons _ _ _ _ (h v g) q)
section
variable{c:Ctx}{r:Option Nat}{P:Program}{env:List (Nat×ab)}{Q:Exit->Act->World->Prop}
def aB.ME{p}{g j t tb n cap k}{els}{more xs ys}{R}
  (hn:els.length=n) (A:∀e∈els,e.length=k) (z:n<=cap) (hm:cap<=maxLen) (h:aB c r P p ⟨env,.au j tb (xs++.ai k els::ys)::R⟩ Q):aB c r P p ⟨env,.au g t (els.flatten++more)::.au j tb (xs++.val (.slice (some ⟨g,0,none⟩) n cap)::ys)::R⟩ Q:=λa w s=>by
 refine h a w ?_;obtain⟨I,F,H,l,f⟩:=s.mem;obtain⟨J,m,E,v,D⟩:=l.ok _ (.head _);obtain⟨B,o,C,x⟩:=cp.freeze (n:=m.size) F l (.head _ _) (b:=g) rfl E (Nat.le_refl _);have q:=(x _ m.toList v Br).take els.flatten.length;rw[List.take_left] at q;refine⟨s.ds,s.size,_,B,H.trans o,.WK C (λ⟨G,us,fO,fi,jH⟩=>⟨G,us,fO,.WL (λv f=>?_) fi,jH⟩) rfl,f.bs o.keeps⟩;rw[bX f];exact .ai _ _ _ _ _ _ hn z hm (nc els 0 A q)
end
section
variable{c:Ctx}{r:Option Nat}{P:Program}{env:List (Nat×ab)}{Q:Exit->Act->World->Prop}
end
section
variable{c:Ctx}{r:Option Nat}{P:Program}{st:dU}{Q:Exit->Act->World->Prop}
def bn.zn{B}{I}{w}{t k n}{v}{cs}(h:(bn.row t k v n cs).ok B I w):∃a c,v= .slice a n c:=by
 obtain⟨j,f,_⟩:=h;rcases f.2 with⟨rfl,hn⟩ | ⟨g,c,cur,rfl,_⟩
 ·exact⟨none,0,by rw[hn]⟩
 ·exact⟨_,c,rfl⟩
end
section
variable{r:Option Nat}{P:Program}{st:dU}{Q:Exit->Act->World->Prop}{B:Nat}{c5:cp}{bW:World}{n:Nat}{Hx:aA}
abbrev gW(GB:dq):aA:=GB.map λD=>.obj D (.deferred (some []))
abbrev pR(B:Nat)(c5:cp)(bW:World)(n:Nat)(GB:dq):Ctx:=⟨B,c5,bW,n,GB.map mark⟩
def aB.zo(J:Nat->dU->Prop)(C)(Hx){p}(af:∃m st',J m st'/\m7 st'.env st.env/\(st'.H++(gW C++Hx)).Sublist st.H)
  (round:∀z m st',J m st'->aB (pR B c5 bW n z) r P p ⟨st'.env,st'.H++(gW z++Hx)⟩ (Exit.then (λa w=>∃q n7 lS,n7<m/\J n7 lS/\Sat (pR B c5 bW n q) ⟨lS.env,lS.H++(gW q++Hx)⟩ a w) Q)):aB (pR B c5 bW n C) r P (.loop p) st Q:=by
 intro a w s b k cs nO a8 bH;obtain⟨WM,WN,WO,WQ,WR⟩:=af;have key:∀m z st' a w,J m st'->Sat (pR B c5 bW n z) ⟨st'.env,st'.H++(gW z++Hx)⟩ a w->
   ∃e N w',Q e N w'/\ArrivesIn (Machine.fenced P (bt r)) P (lone (b.atR a (.code p::.inLoop p::k)) cs w) b k cs e N w':=by
  intro m
  induction m using Nat.strongRecOn with
  | _ m fv=>
   intro z st' a w eD je;obtain⟨e,oW,fN,cd,et⟩:=round z m st' eD a w je b (.inLoop p::k) cs nO a8 bH;cases e with
   | normal=>
    obtain⟨q,n7,lS,kT,WS,E8⟩:=cd;obtain⟨ym,WT,m8,oL,py⟩:=fv n7 kT q lS oW fN WS E8;exact⟨ym,WT,m8,oL,.of_steps (StepsIn.trans et (.one (fenced_calm a8 bH rfl) stepR_inLoop)) py⟩
   | exit id=>exact⟨_,oW,fN,cd,.pass (x:=.inLoop p) rfl (λ_ _=>.inl aS) et⟩
   | goto l=>exact⟨_,oW,fN,cd,.pass (x:=.inLoop p) rfl (λ_ _=>.inl aS) et⟩
   | ret=>exact⟨_,oW,fN,cd,.pass (x:=.inLoop p) rfl (λ_ _=>.inl aS) et⟩
   | panic ch=>exact⟨_,oW,fN,cd,.pass (x:=.inLoop p) rfl (λ_ _=>.inl aS) et⟩
   | outgrown=>exact⟨_,oW,fN,cd,.pass (x:=.inLoop p) rfl (λ_ _=>.inl aS) et⟩
 obtain⟨e,N,w',cd,et⟩:=key WM C WN a w WO (s.weaken (lQ WQ) WR);exact⟨e,N,w',cd,.of_steps (.one (fenced_calm a8 bH rfl) stepR_loop) et⟩
def aZ.n8(h){J:Nat->dU->Prop}{m f}{st'}(j:J f st')(hm:f<m)(o:m7 st'.env st.env)(l:(st'.H++(gW h++Hx)).Sublist st.H):
  aZ (pR B c5 bW n h) st .normal (Exit.then (λa w=>∃g f c,f<m/\J f c/\Sat (pR B c5 bW n g) ⟨c.env,c.H++(gW g++Hx)⟩ a w) Q):=
 λa w s=>⟨h,f,st',hm,j,s.weaken (lQ o) l⟩
def MF{fn}{R}{tmps}{H}{I}:∀(g:dq) (w:World),bV B I w->Ext B c5 bW I w->a7 B I w (gW g++H)->
  (∀w',bV B I w'->Ext B c5 bW I w'->a7 B I w' H->er I w I w'->LeavesIn (bt none) 0 P fn tmps R [] .returning w')->LeavesInM (bt none) 0 P fn tmps R (g.map mark) .returning w
 | [],w,r,s,l,k=>k w r s l ⟨λ_ _ x=>x,λ_ _ _=>rfl⟩
 | D::g,w,r,s,l,k=>by
  obtain⟨z,C,h⟩:=l.ok _ (.head _);have t:er I w I (w.putObj D (.deferred none)):=pH (B:=B) h;have v:fU (gW (D::g)++H) (.obj D (.deferred (some []))) (gW g++H):=fU.head _ _;have m:a7 B I (w.putObj D (.deferred none)) (gW g++H):=by
   refine (l.sub v.sub).bs t (λf A b q=>World.putObj_heap_other λe=>?_) λ_ _ _ _ _ x=>x;subst e;exact v.apart l.apart f A _ rfl q
  exact⟨aS,.inl ⟨D,_,rfl,run_takeDeferred C,MF g _ (r.putObj h) (s.trans (.putObj z h)) m λw' a b c d=>k w' a b c ⟨λ_ _ x=>x,λb o x=>(d.cell b o x).trans (t.cell b o x)⟩⟩⟩
def aZ.k1(j)(g Hx){fn}{t}{E}{rs}{ys r}{H'}(x:fn.results=rs.toArray)(J:(g++(gW j++Hx)).Sublist st.H)(h:iq P ⟨st.env,g++Hx⟩ rs ys)(m:c0 ys r)
  (F:H'.Sublist (g++Hx)) (l:t (iy r) H'):aZ (pR B c5 bW n j) st .ret (bodyPostM (bt none) 0 P fn (e4 B c5 bW t E)):=by
 intro a w s;obtain⟨I,G,L,C,D⟩:=s.mem;show LeavesInM _ _ _ _ _ _ a.defers _ _;rw[show a.defers=j.map mark from s.ds];refine MF (H:=g++Hx) j w G L ((C.sub J).perm (List.perm_append_comm_assoc _ _ _)) λw' q o f z=>?_;obtain⟨v,K,A⟩:=h.res (c:=⟨B,c5,bW,n,[]⟩) (st:=⟨st.env,g++Hx⟩) f (D.bs z) x;exact⟨v,K,I,H',q,o,f.sub F,.inl ⟨v,_,rfl,m.iy _ _ _ A,l⟩⟩
def aB.qU{q}{t p}{assign z}{f}{v}(A)(enc:Nat->q->ab)(own:Nat->q->aA)(L:List q)(J:List q->aA->Prop)(Jx:Code->List q->aA->Prop)(H Hx)(o:Nat->q->List (Nat×ab))
  (R:r=none) (T:st.H=H++(gW A++Hx)) (V:aD st.env t=some (.fn (.func f) [] v)) (S:Nat.blt p n) (M:BU B P (.fn (.func f) [] v) enc own L) (K:J [] H)
  (j:∀(l:Nat) (I:cp) (w:World) (k:Nat) (x:q) (E:aA),aB ⟨B,I,w,n,[]⟩ (some l) P assign ⟨(p,enc k x)::st.env,E⟩ (Exit.then (λa U=>∃F,F=(⟨o k x,E⟩:dU)/\Sat ⟨B,I,w,n,[]⟩ F a U) (λ_ _ _=>False)))
  (C:∀(l D:Nat) (O:Loop) (g:List q) (k:Nat) (x:q) (m E:aA) (I:cp) (w:World),g++[x]<+:L->J g m->
   aB ⟨B,I,w,n,[]⟩ (some l) P z ⟨o k x,.loop l O (aD st.env)::.obj D (.deferred (some []))::(m++(own k x++E))⟩ (wE B I w l D O (aD st.env) J Jx (g++[x]) (own k x++E)))
  (done:∀(D:Nat) (m:aA),J L m->aZ (pR B c5 bW n (D::A)) ⟨st.env,m++(gW (D::A)++Hx)⟩ .normal Q)
  (G:∀(D:Nat) (h:Code) (g:List q) (m:aA),g<+:L->Jx h g m->aB (pR B c5 bW n (D::A)) r P h ⟨st.env,m++(gW (D::A)++Hx)⟩ Q):
  aB (pR B c5 bW n A) r P (.rangeFunc (.tmp t) #[p] assign z) st Q:=by
 refine .LF (c:=pR B c5 bW n A) enc own L J Jx H (gW A++Hx) o R T V S M K j C (λD m K a w s=>?_) λD h g m N K a w s=>?_
 ·exact done D m K a w ⟨s.ds,s.size,let ⟨I,bF,a2,a3,a4⟩:=s.mem;⟨I,bF,a2,a3.perm List.perm_middle.symm,a4⟩⟩
 ·exact G D h g m N K a w ⟨s.ds,s.size,let ⟨I,bF,a2,a3,a4⟩:=s.mem;⟨I,bF,a2,a3.perm List.perm_middle.symm,a4⟩⟩
end
section
variable{c:Ctx}{r:Option Nat}{P:Program}{st:dU}{Q:Exit->Act->World->Prop}
def aB.Cu{p}{b t}{cs ds}{H'}(hu:bG st.H (.au b t cs) (.au b t ds) H')(f:c0 cs ds)(h:aB c r P p ⟨st.env,H'⟩ Q):aB c r P p st Q:=λa w s=>by
 refine h a w ?_;obtain⟨I,l,B,g,v⟩:=s.mem;obtain⟨A,m,o,q,z⟩:=g.ok _ hu.mem;exact⟨s.ds,s.size,I,l,B,g.fE hu ⟨λ_ _ x=>x,λ_ _ _=>rfl⟩ (λ_ _ _=>rfl) (λ_ _ x=>.inl x) ⟨A,m,o,f.rel q,z⟩ (λ_ x=>.inl x),v⟩
end
section
variable{P:Program}
def eK.ofM{B}{f}{fn}{a}{xs}{H}{c}{E}{n}(b8:P.funcs[f]? =some fn)(a8:fn.body=some a)(rK:(fn.name== "runtime.NumGoroutine")=false)
  (hn:fn.ntmps=n) (q:Nat.ble xs.length n) (h:∀I w,aB ⟨B,I,w,n,[]⟩ none P a ⟨na 0 xs,H⟩ (bodyPostM (bt none) 0 P fn (e4 B I w c E))):eK B P f xs H c E:=by
 refine⟨uk,λI w g r o j=>uv (n:=0) (callsIn_of_wp_marks b8 a8 trivial ?_ rfl)⟩;refine h I w _ w ⟨rfl,?_,I,r,Ext.refl _ _ _,o,λt y hy=>?_⟩
 ·have:=j.length;have:=Nat.le_of_ble_eq_true q;simp;omega
 ·obtain⟨v,l,m⟩:=j.get ye;have:(g.toArray++Array.replicate (fn.ntmps - g.toArray.size) undef).getD t undef=v:=by
   have kT:=(List.getElem?_eq_some_iff.1 l).1;simp only[Array.getD_eq_getD_getElem?];rw[Array.getElem?_append_left wu];simp[l]
  rw[this];exact m
end
class MG (P:Program) (t:Nat):Prop where h:P.underlying t=some (.pointer (P.pointee t))
class Cv (P:Program) (t:Nat) (x:outParam (Nat×Nat)):Prop where
 h:P.underlying t=some (.map x.1 x.2)
 key:Go.Maps.Keyed P x.1
 zero:((P.info? x.2).bind (·.zero))=some (.bool false)
def WU{P}{k i m}(hm:P.types.size=m+2)(r:P.underlying i=some (.int .i64))(g:P.underlying k=some (.array 2 i))(h:P.cellsOf k=2)(s:P.cellsOf i=1)(l:P.keyType k=true){a b}
  (o:(Go.Lit.int .i64 a).wf=true) (q:(Go.Lit.int .i64 b).wf=true):ev P k (.agg #[.int .i64 a,.int .i64 b]):=by
 have c:(Value.agg #[.int .i64 a,.int .i64 b]).formed P k=true:=by simp[Value.formed,g,h]
 have f:P.keyLits (P.types.size+1) k [.int .i64 a,.int .i64 b]=some [.int .i64 a,.int .i64 b]:=by
  rw[hm];simp[Program.keyLits,g,r,h,s,o,q,List.range,List.range.loop]
 exact⟨.string (keyBytes [.int .i64 a,.int .i64 b]),by
  have j:(Value.agg #[.int .i64 a,.int .i64 b]).cells.toList= [.int .i64 a,.int .i64 b]:=rfl;simp[keyOf,g,l,c,Bool.and_self,if_true,j,f,Option.map_some]⟩
section
variable{c:Ctx}{r:Option Nat}{P:Program}{ops:Array Oper}{l rest:cc}{o:Oper}{env:List (Nat×ab)}{H:aA}{Q:Exit->Act->World->Prop}{d:Nat}{ρ:Nat->Option ab}
def WV{t}{x F}{b}{ke:Nat×Nat}{κ:Value->ab}{vs:dg}{y:ab}{g1 Q}[C:Cv P t ke](h:o.op= .lookup t x F true)
  (R:aN ρ x=some (g1,.val (.map (some b)))) (J:g1=true) (S:aN ρ F=some (Q,y)) (L:Q=true) (hy:an y (.agg (vs.map .val))) (hm:.gm b (ev P ke.1) κ∈H) (q:ev P ke.1 (.agg vs.toArray)) {z} (M:κ (.agg vs.toArray)= .b z):
  ∀(B:Nat) (I:cp) (w:World) (r:Option Nat) (a:Act) (K:aA),bV B I w->a7 B I w K->(∀e∈H,e∈K)->fm I w ρ a o->
   dt P r o a w (λv T=>T=w/\(v= .tuple #[.bool z,.bool true]\/v= .tuple #[.bool false,.bool false])) (λ_ _=>False):=by
 intro B I w r a K hw X Y O;have s:=bX (O.get cb R J);have D:a.eval F= .agg vs.toArray:=by
  have N:=hy _ _ _ (O.get cb S L);generalize a.eval F=u at N;cases N with
  | agg _ us G=>have:=oT G;rw[<-this]
 obtain⟨gS,⟨cq,dr,V,m⟩,W⟩:=X.ok _ (Y _ hm);obtain⟨r2,E⟩:=q;have A:∀e∈cq.toList,∃l,keyOf P ke.1 e.key=some l:=λe Z=>(m e Z).1;have f:=C.key.check w cq.isEmpty E;have g:(getObj b).run P w= .ok (.map cq dr) w:=by simp[getObj,Sem.run,V]
 rcases C.key.find w E cq.toList A with⟨b8,hv⟩ | ⟨j,e,b8,cm,jG⟩
 ·have U:=Gz C.zero w;have c:(execOp a.eval o).run P w= .ok (.value (.tuple #[.bool false,.bool false])) w:=by
   simp[execOp,h,Instr.lookup,run_underlying C.h,s,D,g,f,b8,U]
  exact .e3 cf c ⟨rfl,.inr rfl⟩
 ·have G:=(m e (List.mem_of_getElem? cm)).2;rw[jG,M] at G;have c:(execOp a.eval o).run P w= .ok (.value (.tuple #[e.val,.bool true])) w:=by
   simp[execOp,h,Instr.lookup,run_underlying C.h,s,D,g,f,b8]
  exact .e3 cf c ⟨rfl,.inl (by rw[bX G])⟩
def aj.MH{t}{x M}{b}{ke:Nat×Nat}{κ:Value->ab}{vs:dg}{y:ab}{g1 J:Bool}[S:Cv P t ke](m:o.guard=none)(L:o.dst=some d)(hn:Nat.blt d c.n)(h:o.op= .lookup t x M true)
  (O:aN (aD env) x=some (g1,.val (.map (some b)))) (C:g1=true) (R:aN (aD env) M=some (J,y)) (D:J=true) (hy:an y (.agg (vs.map .val))) (hm:.gm b (ev P ke.1) κ∈H) (g:ev P ke.1 (.agg vs.toArray)) {z} (E:κ (.agg vs.toArray)= .b z)
  (found:aj c r P ops rest ⟨(d,.bk [.b z,.b true])::env,H⟩ Q) (f:aj c r P ops rest ⟨(d,.bk [.b false,.b false])::env,H⟩ Q):aj c r P ops (o::rest) ⟨env,H⟩ Q:=by
 intro a w s;refine wpListIn_plain m λK G=>?_;obtain⟨I,F,N,l,A⟩:=s.mem;refine WV h O C R D hy hm g E c.B I w r a H F l (λ_ h=>h) (A.ops o) K Q ?_ λ_ _ h=>h.elim;have j:∀(p q:Bool) (a:Act),bQ I w [.b p,.b q] [.bool p,.bool q]:=λp q _=>.cons _ _ _ _ (.val _) (.cons _ _ _ _ (.val _) .nil);rintro v T ⟨rfl,rfl | rfl⟩
 ·refine G _ _ (found _ _ ⟨iJ,iI,I,F,N,l,?_⟩);have:=A.put (dst:=some d) (x:=.bk [.b z,.b true]) (v:=.tuple #[.bool z,.bool true]) oI (.bk _ _ (j _ _ a));rw[L];exact this
 ·refine G _ _ (f _ _ ⟨iJ,iI,I,F,N,l,?_⟩);have:=A.put (dst:=some d) (x:=.bk [.b false,.b false]) (v:=.tuple #[.bool false,.bool false]) oI (.bk _ _ (j _ _ a));rw[L];exact this
def aj.MI{t}{x kx z}{b}{ke:Nat×Nat}{κ:Value->ab}{vs:dg}{y u:ab}{g1 g2 g3:Bool}[da:Cv P t ke](ac:o.guard=none)(a6:o.dst=none)(h:o.op= .mapUpdate t x kx z)
  (aK:aN (aD env) x=some (g1,.val (.map (some b)))) (a5:g1=true) (bD:aN (aD env) kx=some (g2,y)) (hN:g2=true) (hy:an y (.agg (vs.map .val))) (aH:aN (aD env) z=some (g3,u)) (gE:g3=true) (hu:an u (κ (.agg vs.toArray)))
  (hm:bn.gm b (ev P ke.1) κ∈H) (D:ev P ke.1 (.agg vs.toArray)) (next:aj c r P ops rest ⟨env,H⟩ Q):aj c r P ops (o::rest) ⟨env,H⟩ Q:=by
 intro a w s;refine wpListIn_plain ac λK eX=>?_;obtain⟨I,hw,A,aU,bd⟩:=s.mem;have a2:=bX ((bd.ops o).get cb aK a5);have bF:a.eval kx= .agg vs.toArray:=by
  have af:=hy _ _ _ ((bd.ops o).get cb bD hN);generalize a.eval kx=u at af;cases af with
  | agg _ us bH=>have:=oT bH;rw[<-this]
 have Y:=hu _ _ _ ((bd.ops o).get cb aH gE);obtain⟨gS,⟨cq,dr,a8,G⟩,J⟩:=aU.ok _ hm;have q:=D;obtain⟨r2,U⟩:=D;have a0:∀e∈cq.toList,∃l,keyOf P ke.1 e.key=some l:=λe A=>(G e A).1;have M:=da.key.check w false U;have N:(getObj b).run P w= .ok (.map cq dr) w:=by simp[getObj,Sem.run,a8]
 have O:∀o':Obj,(setObj b o').run P w= .ok () (w.putObj b o'):=λo'=>by simp[setObj,Sem.run,a8,World.putObj]
 have gF:b<w.heap.size:=(Array.getElem?_eq_some_iff.1 a8).1;have a3:∀(m:Array MapEntry) (C:Nat),(∀e∈m.toList,ev P ke.1 e.key/\Rel I w (κ e.key) e.val)->
   (execOp a.eval o).run P w= .ok .skip (w.putObj b (.map m C))->o.wpIn (bt r) 0 P a w K Q:=by
  intro m C ae Z;have bD:er I w I (w.putObj b (.map m C)):=pH (B:=c.B) J;refine dt.uw (R:=λv w'=>v=undef/\w'=w.putObj b (.map m C)) (E:=λ_ _=>False) cf Z ⟨rfl,rfl⟩ K Q ?_ (λ_ _ h=>h.elim);rintro v w' ⟨rfl,rfl⟩;have a9:a7 c.B I (w.putObj b (.map m C)) H:=by
   refine⟨λf W=>?_,aU.apart⟩;by_cases T:f.dY=some b
   ·have:f= .gm b (ev P ke.1) κ:=by
     refine Classical.byContradiction λhv=>?_;have ck:=aU.apart;obtain⟨i,aQ,S⟩:=List.mem_iff_getElem.1 W;obtain⟨j,cm,L⟩:=List.mem_iff_getElem.1 hm;rw[List.pairwise_iff_getElem] at ck;rcases Nat.lt_trichotomy i j with F | F | F
     ·exact ck i j aQ cm F b (by rw[S];exact T) (by rw[L];rfl)
     ·subst F;rw[S] at L;exact hv L
     ·exact ck j i cm aQ F b (by rw[L];rfl) (by rw[S];exact T)
    subst this;exact⟨gS,⟨m,C,World.putObj_heap_same gF,λe A=>⟨(ae e A).1,(ae e A).2.bs bD⟩⟩,J⟩
   ·exact bn.bs (aU.ok f W) bD (λdI qz=>World.putObj_heap_other (λe=>T (by rw[<-e];exact qz))) (λ_ _ _ x=>x)
  refine eX _ _ ?_;rw[a6];exact next _ _ ⟨s.ds,s.size,I,hw.putObj J,A.trans (Ext.putObj gS J),a9,bd.bs bD⟩
 rcases da.key.find w U cq.toList a0 with⟨W,hv⟩ | ⟨j,e,W,cm,jG⟩
 ·refine a3 (cq.push {key:=.agg vs.toArray,val:=a.eval z,born:=dr}) (dr+1) ?_ ?_
  ·intro e A;rw[Array.toList_push] at A;rcases List.mem_append.1 A with A | A
   ·exact G e A
   ·simp at A;subst A;exact⟨q,Y⟩
  ·simp[execOp,h,Instr.mapUpdate,run_underlying da.h,a2,bF,N,M,W,O]
 ·have fw:cq[j]? =some e:=by simpa using cm
  have V:=da.key.stays w U;refine a3 (cq.modify j λe=>{e with key:=.agg vs.toArray,val:=a.eval z}) dr ?_ ?_
  ·intro e' im;obtain⟨i,aQ⟩:=List.mem_iff_getElem?.1 im;rw[Array.getElem?_toList,Array.getElem?_modify] at aQ;split at aQ
   ·cases aK:cq[i]? with
    | none=>simp[aK] at aQ
    | some bL=>simp[aK] at aQ;subst aQ;exact⟨q,Y⟩
   ·exact G e' (List.mem_of_getElem? m3)
  ·simp[execOp,h,Instr.mapUpdate,run_underlying da.h,a2,bF,N,M,W,O,fw,jG,V]
def a7.gm{B}{I}{w}{b}{a}{κ}{H'}(f:a7 B I w H)(hu:bG H (.map b []) (.gm b a κ) H'):a7 B I w H':=
 f.pO hu (λ⟨g,⟨cq,dr,a8,hkeys,_⟩,Cw⟩=>⟨g,⟨cq,dr,a8,λe l=>by
  have c:e.key∈cq.toList.map (·.key):=List.mem_map_of_mem l;rw[hkeys] at c;cases c⟩,Cw⟩) λ_ h=>h
def aB.gm{p}{b}(f)(κ){H'}(hu:bG H (.map b []) (.gm b f κ) H')(h:aB c r P p ⟨env,H'⟩ Q):aB c r P p ⟨env,H⟩ Q:=λa w s=>by
 obtain⟨I,l,o,g,j⟩:=s.mem;exact h a w ⟨s.ds,s.size,I,l,o,g.gm hu,j⟩
def j5(v:Value)(i k:Nat):Value:=match v with
 | .slice (some a) _ _=>.pointer (some ⟨a.block,i*k,none⟩)
 | _=>undef
def ad.dX{t tb}{x y}{k n}{v}{cs}{m}{i:Int}{s r:Bool}[ht:eC P t k](h:o.op= .indexAddr t x y)(z:aN ρ x=some (s,.val v))(a:s=true)(hy:aN ρ y=some (r,.val (.int m i)))(g:r=true)(hm:bn.row tb k v n cs∈H)(j:0<=i/\i<n):ad P H ρ o (.val (j5 v i.toNat k)):=by
 refine .yn cf λB I w f B q=>?_;have C:=bX (q.get cb z a);have A:=bX (q.get cb hy g);obtain⟨b,c,l,rfl,_⟩:=bn.wU aa (B _ hm);refine⟨.pointer (some ⟨b,0+i.toNat*k,none⟩),by simp[execOp,h,C,A,Fa ht.h b 0 n c m i j.1 j.2 w],?_⟩;rw[Nat.zero_add];exact .val _
def ad.gk{t tb}{x}{v}{n i m}{cs}{y}{g}[ht:cX P t (false,m)](h:o.op= .load t x)(C:aN ρ x=some (g,.val (j5 v i 1)))(G:g=true)(hm:.row tb 1 v n cs∈H)(hy:cs[i]? =some y):ad P H ρ o y:=by
 refine .yn cf λB I w f A E=>?_;have a:∃l:dg,l.length=n*1/\bQ I w cs l:=by
  obtain⟨l,c,q,_⟩:=A _ hm;exact⟨l,c.1,q⟩
 obtain⟨l,M,q⟩:=a;have s:i<cs.length:=(List.getElem?_eq_some_iff.1 hy).1;have J:n≠0:=by have:=q.length;omega
 obtain⟨b,r,z,rfl,_,_,_,_,j⟩:=bn.wU J (A _ hm);have B:=bX (E.get cb C G);obtain⟨_,N,D,K,_⟩:=j;obtain⟨u,L,F⟩:=K.get (i:=i) (x:=y) (by rw[List.getElem?_append_left s];exact hy);refine⟨u,?_,F⟩;have e:j5 (.slice (some ⟨b,0,none⟩) n r) i 1= .pointer (some ⟨b,i,none⟩):=by simp[j5]
 rw[e] at B;simp[execOp,h,B,Instr.loadAt,Instr.sureAddr,yp ht.h b i u w (by rw[jC D];simpa using L)]
def bG.Ch{B}{I}{w}{t k n}{v}{cs:bl}{H':bn->aA}(hn:n≠0)(f:a7 B I w H)(hu:∀e,bG H (.row t k v n cs) e (H' e)):
  ∃b c a,v= .slice (some ⟨b,0,none⟩) n c/\n<=c/\c<=maxLen/\(cs++a).length=c*k/\cs.length=n*k/\a7 B I w (H' (.au b t (cs++a))):=by
 obtain⟨b,c,a,rfl,l,m,o,q,j⟩:=bn.wU hn (f.ok _ (hu default).mem);exact⟨b,c,a,rfl,l,m,o,q,f.pO (hu _) (λ_=>j) (λx h=>h)⟩
def bO.row{f:FuncId}{t n i:Nat}{v:Value}{cs ds:bl}{pre post:bl}{H':bn->aA}{F:aA->aA}{y:ab}(hF:∀H H2:aA,∀e e':bn,bG H e e' H2->bG (F H) e e' (F H2))(aQ:i<n)(hds:ds.length=cs.length)(hu:∀e,bG H (.row t 1 v n cs) e (H' e))
  {G:aA->aA} (fb:∀H H2:aA,∀e e':bn,bG H e e' H2->bG (G H) e e' (G H2))
  (h:∀b cap more,v= .slice (some ⟨b,0,none⟩) n cap->bO P f (pre++.p b i::post) (F (H' (.au b t (cs++more)))) (λx jD=>x=y/\jD=G (H' (.au b t (ds++more)))) (λ_ _=>False))
  (Ec:∀e e',bG (H' e) e e' (H' e')) (hL:m4 P f):
  bO P f (pre++.val (j5 v i 1)::post) (F H) (λx jD=>x=y/\jD=G (H' (.row t 1 v n ds))) (λ_ _=>False):=by
 refine⟨hL,λB I w vs hw aU my=>?_⟩;obtain⟨b,cap,more,rfl,ae,ao,aV,bu,cr⟩:=bG.Ch (H:=F H) (H':=λe=>F (H' e)) aa aU (λe=>hF _ _ _ _ (hu e));have e:j5 (.slice (some ⟨b,0,none⟩) n cap) i 1= .pointer (some ⟨b,i,none⟩):=by simp[j5]
 rw[e] at my;refine ((h b cap more rfl).2 B I w vs hw cr my).mono λe' w' bH=>?_;obtain⟨c3,jD,n3,wQ,yZ,bH⟩:=bH;rcases bH with⟨u,x,rfl,aK,rfl,rfl⟩ | ⟨u,x,rfl,_,jX⟩
 ·refine⟨c3,_,n3,wQ,yZ.pO (fb _ _ _ _ (Ec (.au b t (ds++more)) (.row t 1 (.slice (some ⟨b,0,none⟩) n cap) n ds))) (λa8=>bn.Gd ae ao (by simp only[List.length_append] at*;omega) aa a8) (λx aK=>aK),.inl ⟨u,x,rfl,aK,rfl,rfl⟩⟩
 ·exact jX.elim
def bO.w6{f}{xs}{q c}{E}(h:bO P f xs H q E)(A:∀y o,(∃B I w,a7 B I w o)->q y o->c y o):bO P f xs H c E:=by
 refine⟨h.1,λB I w s z r j=>((h.2 B I w s z r j).mono λe' D g=>?_)⟩;obtain⟨t,C,m,l,a,g⟩:=g;exact⟨t,C,m,l,a,g.imp (λ⟨v,x,ae,ao,aV⟩=>⟨v,x,ae,ao,A _ _ ⟨_,_,_,a⟩ aV⟩) id⟩
def aG.MJ{f}{xs}{k}(h:aG P f xs (.ai k []))(H):bO P f xs H (λy z=>∃a c,y= .val (.slice a 0 c)/\z=H) (λ_ _=>False):=by
 have h:=h H;refine⟨h.1,λB I w vs D q j=>((h.2 B I w vs D q j).mono λe' w' g=>?_)⟩;obtain⟨t,E,o,m,l,g⟩:=g;refine⟨t,E,o,m,l,?_⟩;rcases g with⟨u,x,ae,aK,rfl,rfl⟩ | g
 ·refine .inl ⟨u,.val u,ae,.val u,?_⟩;cases aK with
  | dQ=>exact⟨_,_,rfl,rfl⟩
  | ai _ _ b off len s v=>cases v;exact⟨_,_,rfl,rfl⟩
 ·exact .inr g
def ad.Cx{x}{t}{m n}{v:Value}{g:Bool}[ht:eC P t m](l:∃a c,v= .slice a n c)(h:o.op= .call {callee:=.builtin .len,args:=#[x],argTypes:=#[t]})(f:aN ρ x=some (g,.val v))(j:g=true):ad P H ρ o (.i n):=by
 obtain⟨a,c,rfl⟩:=l;exact .Bb h f j
def ad.WW{t r}{x y}{cs}{m l}[ht:MG P t](h:o.op= .binOp .neq t x y r)(q:aN ρ x=some (m,.ptr cs))(a:m=true)(hy:aN ρ y=some (l,.val (.pointer none)))(c:l=true):ad P H ρ o (.b true):=by
 refine .same cf λI w f g=>?_;have j:=g.get cb q a;have s:=bX (g.get cb hy c);generalize v:f.eval x=u at j;cases j with
 | ptr _ b z A=>exact⟨.bool true,by simp[execOp,h,v,s,eqGuard,run_neq_pointer_nil w t (some ⟨b,z,none⟩) ht.h],.val _⟩
def bO.heap{f}{xs}{s m}{E}(h:bO P f xs H s E)(C:∀y r,s y r->∃o,m y o/\∀B I w,a7 B I w r->a7 B I w o):bO P f xs H m E:=by
 refine⟨h.1,λB I w A D z q=>((h.2 B I w A D z q).mono λe' G c=>?_)⟩;obtain⟨t,F,l,j,g,c⟩:=c;rcases c with⟨v,x,ae,ao,aV⟩ | c
 ·obtain⟨o,a,b⟩:=C _ _ aV;exact⟨t,o,l,j,b _ _ _ g,.inl ⟨v,x,ae,ao,a⟩⟩
 ·exact⟨t,F,l,j,g,.inr c⟩
def aj.MK{t tb n i}{p z}{v}{y}{S g}{cs ds:bl}{H':bn->aA}{agg:Bool}[ht:cX P t (agg,1)](K:o.guard=none)(a6:o.dst=none)(h:o.op= .store t p z)
  (N:aN (aD env) p=some (S,.val (j5 v i 1))) (x:S=true) (X:aN (aD env) z=some (g,y)) (aw:g=true) (a8:fa y) (ae:dB (cG y)) (G:Nat.beq (cG y).length 1)
  (hu:∀e,bG H (.row tb 1 v n cs) e (H' e)) (m:∀e R,bG (H' e) e R (H' R)) (aQ:i<n) (T:cs.length=n) (hds:∀f,(cs++f).take i++cG y++(cs++f).drop (i+1)=ds++f) (a0:ds.length=cs.length)
  (next:aj c r P ops rest ⟨env,H' (.row tb 1 v n ds)⟩ Q):aj c r P ops (o::rest) ⟨env,H⟩ Q:=λa w s=>by
 obtain⟨I,hw,he,Z,bd⟩:=s.mem;obtain⟨b,V,f,j,Y,U,fi,jH,F⟩:=bG.Ch aa Z hu;have D:j5 v i 1= .pointer (some ⟨b,i,none⟩):=by simp[j5,j]
 rw[D] at N;refine aj.fZ (tb:=tb) (cs:=cs++f) (ds:=ds++f) K a6 h N x X aw a8 ae G (m _ _) (Nat.ble_eq_true_of_le (by rw[List.length_append];omega)) (hds f) (λkA W q=>?_) a w ⟨s.ds,s.size,I,hw,he,F,bd⟩;obtain⟨c3,C,B,A,J⟩:=q.mem;refine next kA W ⟨q.ds,q.size,c3,C,B,A.pO (m _ _) (λa8=>?_) (λx M=>by rw[j] at M;exact M),J⟩;rw[j];exact bn.Gd Y U (by simp only[List.length_append] at*;omega) aa a8
def WX{t m}(ht:uz P t=some (m,1))(b o n)(f)(c:n<=m)(w):(Instr.sliceAt t (.pointer (some ⟨b,o,none⟩)) none (some (.int f (n:Int))) none).run P w= .ok (.slice (some ⟨b,o,none⟩) n m) w:=by
 unfold uz at ht;split at ht
 ·rename_i h e g;cases td:P.info? e with
  | none=>simp[td] at ht
  | some a=>
   simp[td,Option.map_some,Option.some.injEq,Prod.mk.injEq] at ht;obtain⟨rfl,_⟩:=ht;have fl:(Addr.add ⟨b,o,none⟩ 0)=⟨b,o,none⟩:=rfl;simp[Instr.sliceAt,Instr.sureAddr,run_underlying g,Instr.sliceBounds,Instr.sliceBound,asIntOf,sizeOf,typeInfo,td,c,fl]
 ·cases ht
def zp{a:Type}(cs:List a):(cs.map λx=>[x]).flatten=cs:=by
 induction cs with
 | nil=>rfl
 | cons x r c=>rw[List.map_cons,List.flatten_cons,c];rfl
def ad.WY{t}{x y}{cs}{n m:Nat}{q A}{j}[ht:uC P t (m,1)](h:o.op= .slice t x none (some y) none)(B:aN ρ x=some (q,.ptr cs))(a:q=true)(hy:aN ρ y=some (A,.val (.int j (n:Int))))(g:A=true)(v:n<=m)(E:m<=maxLen)(I:n<=cs.length):
  ad P H ρ o (.ai 1 ((cs.take n).map λc=>[c])):=by
 refine .same cf λI w f l=>?_;have s:=l.get cb B a;have C:=bX (l.get cb hy g);generalize F:f.eval x=u at s;cases s with
 | ptr _ b r D=>
  refine⟨.slice (some ⟨b,r,none⟩) n m,by simp[execOp,h,F,C,WX ht.h b r n j v w],?_⟩;refine .ai _ _ _ _ _ _ (by rw[List.length_map,List.length_take];omega) v E (nc _ _ (λe G=>by obtain⟨z,_,rfl⟩:=List.mem_map.1 G;rfl) (by rw[zp];exact D.take n))
end
def ed.WZ{X}{P}{H}{ρ}{o}{f}{ys}{z:ab}{F:Value->aA}{H':Value->aA}{x:Value->ab}(q:gD P ρ o f ys)(h:∀B,eK B P f ys H (λy l=>∃g,y= .as z g/\l=F g) (λ_ _=>False))(C:∀v,H' v=F v)(m:∀v,x v= .as z v):ed X P H H' x ρ o:=λB I w r a K t s=>
 (Ca (c:=⟨B,I,w,0,[]⟩) q (h B) K t s).mono (λv M G=>by
  obtain⟨D,L,y,A,J,E,j,g,rfl,rfl⟩:=G;have e:g=v:=by cases j;rfl
  subst e;exact⟨D,A,J,by rw[C];exact E,by rw[m];exact j⟩) (λ_ _ h=>h.elim)
section
variable{P:Program}{H:aA}{ρ:Nat->Option ab}{o:Oper}
def ad.W0{s z}{t tx e k F gT}{els news}{q}{y}{g1 g2}[dZ:fF P t (e,k,F)][jZ:eC P tx gT](h:o.op= .call {callee:=.builtin .append,args:=#[s,z],argTypes:=#[t,tx]})
  (b6:aN ρ s=some (g1,.as (.ai k els) (.slice q els.length els.length))) (O:g1=true) (aH:aN ρ z=some (g2,y)) (T:g2=true) (hy:an y (.ai k news)) (ae:news.all dB=true) (X:news≠ []) (a8:(els.length+news.length)*F<=140737488355328) (ac:els.length+news.length<=9223372036854775807):ad P H ρ o (.ai k (els++news)):=by
 intro B I w r a m5 hw aU _ bb;obtain⟨i,zv,hu,aQ,lR,E,Y,s5,im⟩:=oN dZ.h;obtain⟨e',_,U,_⟩:=nP jZ.h;obtain⟨ur,l⟩:a.eval s= .slice q els.length els.length/\Rel I w (.ai k els) (.slice q els.length els.length):=by
  have af:=bb.get gB b6 O;generalize a.eval s=u at af;cases af with | as _ _ V=>exact⟨rfl,V⟩
 have rR:=hy _ _ _ (bb.get gB aH T);obtain⟨us,aC,gn⟩:=uD (P:=P) (tx:=tx) U rR ae;rw[<-E] at gn;have Q:=rR.yx;have N:=l.yx;have a9:0<news.length:=List.length_pos_iff.2 X;obtain⟨olds,C,a0⟩:∃olds:dg,bQ I w els.flatten olds/\(Builtin.firstCells i.size els.length (.slice q els.length els.length)).run P w.drew= .ok olds.toArray w.drew:=by
  generalize bd:Value.slice q els.length els.length=v at l;cases l with
  | dQ _ a c=>
   cases bd;refine⟨[],.nil,?_⟩;cases q with
   | none=>simp[Builtin.firstCells]
   | some q=>exact run_firstCells_some w.drew i.size 0 q 0 0 [] aS aS
  | ai _ _ b off len gF br a1 hm jX=>
   cases bd;obtain⟨vs,hO,fO,fi⟩:=jX.values;exact⟨vs,hO,run_firstCells_some w.drew i.size els.length _ _ _ vs (by rw[fO,E]) (λj v cm=>fi j v cm)⟩
 have A:els.length<els.length+news.length:=by omega
 have S:Builtin.nextslicecap (els.length+news.length) els.length*i.bytes<=281474976710656:=growslice_fits A (by rw[Y];exact a8);have bH:=run_append_grow_src (P:=P) w t tx o.type e i zv hu aQ lR q els.length els.length olds a0 (a.eval z) news.length us gn A aa S;generalize fb:grownCap w (els.length+news.length) els.length e=G at bH;have Z:els.length+news.length<=G:=by rw[<-fb];exact grownCap_ge w _ _ e
 have W:G<=maxLen:=by rw[<-fb];exact grownCap_le_maxLen w _ _ e h5
 obtain⟨bF,a2,a3,a4⟩:=cp.uu hw.drew e ((olds++us).toArray++Builtin.zeroCells zv.cells (G - (els.length+news.length)));have eJ:er I w I w.drew:=⟨λ_ _ x=>x,λ_ _ _=>rfl⟩;have a5:=lj (I:=I) (w:=w.drew) (Builtin.zeroCells zv.cells (G - (els.length+news.length))).toList;have m:=a4 ((els.flatten++news.flatten)++(Builtin.zeroCells zv.cells (G - (els.length+news.length))).toList.map .val) (by simpa using ((C.bs eJ).append (aC.bs eJ)).append a5);have J:=m.take (els.flatten++news.flatten).length;rw[List.take_left] at J;have K:∀x∈els++news,x.length=k:=λx V=>(List.mem_append.1 V).elim (N x) (Q x);refine .e3 cf (pD h a w uq) ⟨_,bF,(.trans ⟨eJ.il,eJ.cell,(Below.refl _ _).drew⟩ a2),a3 _ aU.drew,.ai _ _ _ _ _ _ (by rw[List.length_append]) Z W (nc (els++news) 0 K (by rw[List.flatten_append];exact J))⟩
end
section
variable{c:Ctx}{r:Option Nat}{P:Program}{ops:Array Oper}{rest:cc}{o:Oper}{env:List (Nat×ab)}{H:aA}{Q:Exit->Act->World->Prop}{d:Nat}
def aj.clip{t}{x y z}{k}{els}{N V X}{ky kz}[ht:eC P t k](F:o.guard=none)(a6:o.dst=some d)(hn:Nat.blt d c.n)(h:o.op= .slice t x none (some y) (some z))(aK:aN (aD env) x=some (N,.ai k els))(B:N=true)
  (hy:aN (aD env) y=some (V,.val (.int ky (els.length:Int)))) (C:V=true) (aH:aN (aD env) z=some (X,.val (.int kz (els.length:Int)))) (G:X=true)
  (next:∀f,aj c r P ops rest ⟨(d,.as (.ai k els) (.slice f els.length els.length))::env,H⟩ Q):aj c r P ops (o::rest) ⟨env,H⟩ Q:=λa w s=>by
 refine wpListIn_plain F λK eX=>?_;obtain⟨I,hw,he,aU,T⟩:=s.mem;have A:=T.ops o;have U:=A.get cb aK B;have fO:=bX (A.get cb hy C);have fi:=bX (A.get cb aH G);obtain⟨e,a0,J,D,bD⟩:=nP ht.h;obtain⟨f,l,m⟩:∃f,(execOp a.eval o).run P w= .ok (.value (.slice f els.length els.length)) w/\Rel I w (.ai k els) (.slice f els.length els.length):=by
  generalize Y:a.eval x=u at U;have run:∀(f:Option Addr) (n g:Nat),n=els.length->n<=g->(Instr.sliceAt t (.slice f n g) none (some (.int ky (els.length:Int))) (some (.int kz (els.length:Int)))).run P w= .ok (.slice (if n=0 then f else f.map (·.add (0*k))) n n) w:=by
   intro f n g hn q;subst hn;have af:(0:Int)<=(els.length:Int):=Int.natCast_nonneg _;simp[Instr.sliceAt,Instr.slice,run_underlying J,Instr.sliceBounds,Instr.sliceBound,asIntOf,sizeOf,typeInfo,D,bD,q]
  cases U with
  | ai _ _ b off len g br q Z jX=>
   subst br;have:=run (some ⟨b,off,none⟩) els.length g rfl q;have fl:(if els.length=0 then some (⟨b,off,none⟩:Addr) else (some (⟨b,off,none⟩:Addr)).map (·.add (0*k)))=some ⟨b,off,none⟩:=by split <;> simp[Addr.add]
   rw[fl] at this;exact⟨some ⟨b,off,none⟩,by simp[execOp,h,Y,fO,fi,this],.ai _ _ _ _ _ _ rfl (Nat.le_refl _) (Nat.le_trans q Z) jX⟩
  | dQ _ f g=>
   have:=run f 0 g rfl (Nat.zero_le _);rw[if_pos rfl] at this;refine⟨f,?_,.dQ _ _ _⟩;show _=Result.ok (Next.value (.slice f 0 0)) w;simp only[execOp,h,Y,fO,fi,Option.map_none,Option.map_some,Sem.run_bind,this,Result.andThen_ok,Sem.run_pure]
 refine dt.e3 (R:=λv w'=>v= .slice f els.length els.length/\w'=w) (E:=λ_ _=>False) cf l ⟨rfl,rfl⟩ K Q ?_ (λ_ _ h=>h.elim);rintro v w' ⟨rfl,rfl⟩;refine eX _ _ (next f _ _ ⟨iJ,iI,I,hw,he,aU,?_⟩);have:=T.put (dst:=some d) (x:=.as (.ai k els) (.slice f els.length els.length)) (v:=.slice f els.length els.length) oI (.as _ _ m);rw[a6];exact this
end
section
variable{P:Program}{H:aA}{ρ:Nat->Option ab}{o:Oper}
def qH.ML{P}{o}{H H'}{ρ}{t tb}{p z}{y y'}{ll g}{b off}{cs ds}{agg}[ht:cX P t (agg,1)](h:o.op= .store t p z)
  (ck:aN ρ p=some (ll,.p b off)) (T:ll=true) (aH:aN ρ z=some (g,y)) (aw:g=true) (cd:∀B I w u,a7 B I w H->Rel I w y u->u.oneCell'=true/\Rel I w y' u)
  (hu:bG H (.au b tb cs) (.au b tb ds) H') (hfit:Nat.ble (off+([y']).length) cs.length) (hds:cs.take off++[y']++cs.drop (off+([y']).length)=ds):qH P H H' ρ o:=by
 intro B I w r a hw aU bb;subst hds;have R:nQ P t=some (agg,([y']).length):=by exact ht.h
 have U:=bX (bb.get cb ck T);obtain⟨hO,fO⟩:=cd B I w _ aU (bb.get cb aH aw);have N:(a.eval z).cells.toList= [a.eval z]:=by
  generalize a.eval z=u at hO;cases u <;> simp[Value.oneCell',Value.cells] at*
 have E:bQ I w [y'] (a.eval z).cells.toList:=by rw[N];exact .cons _ _ _ _ fO .nil
 obtain⟨gS,D,m,f,M⟩:=aU.ok _ hu.mem;have K:∀u∈(a.eval z).cells.toList,u.oneCell'=true:=by rw[N];simpa using hO
 have j:(a.eval z).cells.toList.length=([y']).length:=E.length;have S:D.size=cs.length:=by have:=f.length;simpa using this
 have q:off+0+(a.eval z).cells.toList.length<=D.size:=by
  have:=Nat.le_of_ble_eq_true hfit;rw[j,S];omega
 have l:=run_storeCells_at P b off tb (a.eval z).cells.toList 0 D w m q K;obtain⟨_,Y⟩:=wA R w;generalize J:(D.toList.take (off+0)++(a.eval z).cells.toList++D.toList.drop (off+0+(a.eval z).cells.toList.length)).toArray=cur at l;have A:(a.eval z).cells.size=([y']).length:=by simpa using j
 have C:(execOp a.eval o).run P w= .ok .skip (w.setRow b cur):=by
  simp[execOp,h,Instr.storeAt,U,Instr.sureAddr,storeVar,Y,A,l]
 have c:er I w I (w.setRow b cur):=⟨λ_ _ x=>x,λdI G O=>by
  have v:dI≠b:=λe=>by subst e;exact M G O
  exact World.cell?_of_block (a:=⟨dI,G,none⟩) (setRow_other w b dI cur v)⟩
 have F:Ext B I w I (w.setRow b cur):=⟨c.il,c.cell,⟨rfl,rfl,rfl,aS,λk V=>setRow_other w b k cur aa⟩⟩;have X:bV B I (w.setRow b cur):=⟨wo,λdI G O=>by rw[c.cell dI G O];exact hw.there dI G O⟩;have s:bQ I w (cs.take off++[y']++cs.drop (off+([y']).length)) cur.toList:=by
  rw[<-J];simp only[Nat.add_zero,j];exact ((f.take off).append E).append (f.drop _)
 have W:a7 B I (w.setRow b cur) H':=by
  refine aU.fE hu c (λk V v=>setRow_other w b k cur (λe=>v wy)) (λ_ _ x=>.inl x) ⟨gS,cur,setRow_heap w b D cur tb (0,0) m,s.bs c,M⟩ (λk V=>.inl V)
 exact dt.uw cf C ⟨I,X,F,W⟩
def W1{B}{I}{w}{tx e' t k n}{v}{cs}(m:P.underlying tx=some (.slice e'))(h:bn.ok B I w (.row t k v n cs))(hn:n≠0)(o:dB cs):∃a,bQ I w cs a/\Src P k tx v n a w:=by
 obtain⟨b,c,f,rfl,_,_,C,r,A,z,q,l,_⟩:=bn.wU hn h;obtain⟨a,s,e,aC,x⟩:=l.qG;refine⟨a,aC,Src.ofSlice w m _ _ c a (by rw[aC.length,r]) (λj u g=>?_) (uA aC o)⟩;have:(⟨b,0,none⟩:Addr).add j=⟨b,0+j,none⟩:=by unfold Addr.add;split <;> simp_all
 rw[this,jC q,Nat.zero_add, <-Array.getElem?_toList,e,List.getElem?_append_left (List.getElem?_eq_some_iff.1 g).1];exact g
def ad.MM{s z}{t tx e l gT tb n}{cs}{v}{X}{g1 Y}[dZ:fF P t (e,1,l)][jZ:eC P tx gT](h:o.op= .call {callee:=.builtin .append,args:=#[s,z],argTypes:=#[t,tx]})
  (b6:aN ρ s=some (g1,X)) (D:g1=true) (J:an X .fl) (aH:aN ρ z=some (Y,.val v)) (Q:Y=true) (hm:.row tb 1 v n cs∈H) (hn:cs.length=n) (M:n≠0) (ae:dB cs) (a8:n*l<=140737488355328) (a0:n<=9223372036854775807):ad P H ρ o (.ai 1 (cs.map λc=>[c])):=by
 intro B I w r a m5 hw aU j W;obtain⟨i,q,hu,aQ,U,F,E,a5,fw⟩:=oN dZ.h;obtain⟨e',_,S,_⟩:=nP jZ.h;obtain⟨g,ur⟩:∃g,a.eval s= .slice g 0 0:=by
  have V:=J _ _ _ (W.get gB b6 D);generalize a.eval s=u at V;cases V;exact⟨_,rfl⟩
 have A:=bX (W.get gB aH Q);obtain⟨us,aC,gn⟩:=W1 (P:=P) (tx:=tx) S (aU.ok _ (j _ hm)) M ae;rw[<-F, <-A] at gn;have R:(Builtin.firstCells i.size 0 (.slice g 0 0)).run P w.drew= .ok (#[]:Array Value) w.drew:=by
  cases g with
  | none=>simp[Builtin.firstCells]
  | some g=>exact run_firstCells_some w.drew i.size 0 g 0 0 [] aS aS
 have O:Builtin.nextslicecap (0+n) 0*i.bytes<=281474976710656:=growslice_fits aa (by rw[E,Nat.zero_add];exact a8);have bH:=run_append_grow_src (P:=P) w t tx o.type e i q hu aQ U g 0 0 [] R (a.eval z) n us gn aa aa O;simp[Nat.zero_add,List.nil_append] at bH;generalize Z:grownCap w n 0 e=G at bH;have L:n<=G:=by rw[<-Z];exact grownCap_ge w n 0 e
 have C:G<=maxLen:=by rw[<-Z];exact grownCap_le_maxLen w n 0 e h5
 obtain⟨bF,a2,a3,a4⟩:=cp.uu hw.drew e (us.toArray++Builtin.zeroCells q.cells (G - n));have K:er I w I w.drew:=⟨λ_ _ x=>x,λ_ _ _=>rfl⟩;have T:=lj (I:=I) (w:=w.drew) (Builtin.zeroCells q.cells (G - n)).toList;have f:=a4 (cs++(Builtin.zeroCells q.cells (G - n)).toList.map .val) (by simpa using (aC.bs K).append T);have m:=f.take cs.length;rw[List.take_left] at m;exact .e3 cf (pD h a w uq) ⟨_,bF,(.trans ⟨K.il,K.cell,(Below.refl _ _).drew⟩ a2),a3 _ aU.drew,.ai _ _ _ _ _ _ (by rw[List.length_map];exact hn) L C (nc _ 0 (λx aK=>by obtain⟨y,_,rfl⟩:=List.mem_map.1 aK;rfl) (by rw[zp];exact m))⟩
def ad.W2{t s}{x y}{tb k n}{v}{cs}{q m}(h:o.op= .binOp .eql t x y s)(ht:pA P t)(r:aN ρ x=some (q,.val v))(c:q=true)(hy:aN ρ y=some (m,.val (.slice none 0 0)))(g:m=true)(hm:.row tb k v n cs∈H)(hn:n≠0):ad P H ρ o (.b false):=by
 refine .yn cf λB I w a A l=>?_;obtain⟨b,f,j,rfl,_⟩:=bn.wU hn (A _ hm);have B:=bX (l.get cb r c);have z:=bX (l.get cb hy g);have:=run_equal_slice_nil (P:=P) w t _ (some ⟨b,0,none⟩) n f (E9 ht);exact⟨.bool false,by simp[execOp,h,B,z,eqGuard,binOp,this],.val _⟩
def ad.tn{x y}{t e f}(n:Nat){v}{q C}{G E:Int}{g1 F:Bool}[R:th P t (e,f,v)](h:o.op= .makeSlice t x y)
  (g:aN ρ x=some (g1,.val (.int q G))) (j:g1=true) (hy:aN ρ y=some (F,.val (.int C E))) (A:F=true) (s:G=(n:Int)) (m:E=(n:Int)) (Z:f*n<=281474976710656) (hm:n<=maxLen):ad P H ρ o (.ai 1 (List.replicate n [.val v])):=by
 subst s;subst m;intro B I w r a Y V S _ D;obtain⟨i,z,W,X,N,K,wh,l⟩:=Ga R.h;have L:a.eval x= .int q (n:Int):=bX (D.get cb g j);have Q:a.eval y= .int C (n:Int):=bX (D.get cb hy A);have c:=run_make (P:=P) w t e i z W X N q C (n:Int) (n:Int) aa aa ER (by simp[maxLen] at hm;omega);rw[l,K,Nat.mul_one,Int.toNat_natCast,Gb] at c;have ae:bQ I w (List.replicate n (.val v)) (List.replicate n v):=by have:=lj (I:=I) (w:=w) (List.replicate n v);rwa [List.map_replicate] at this
 obtain⟨T,U,M,J⟩:=cp.uu V e (List.replicate n v).toArray;have O:(List.replicate n [ab.val v]).flatten=List.replicate n (.val v):=by
  have:=zp (List.replicate n (ab.val v));rwa [List.map_replicate] at this
 exact dt.e3 cf (v:=.slice (some ⟨w.heap.size,0,none⟩) n n) (w':=w.alloc (.cells (List.replicate n v).toArray e)) (by simp[execOp,h,L,Q,c]) ⟨_,T,U,M _ S,.ai _ _ _ _ _ _ aS (Nat.le_refl _) hm (nc _ 0 (λx g=>by rw[List.eq_of_mem_replicate g];rfl) (by rw[O];exact J _ m2))⟩
end
section
variable{c:Ctx}{r:Option Nat}{P:Program}{ops:Array Oper}{l rest:cc}{o:Oper}{env:List (Nat×ab)}{H:aA}{Q:Exit->Act->World->Prop}{d:Nat}
end
section
variable{P:Program}{H:aA}{ρ:Nat->Option ab}{o:Oper}
end
end Go.Eng

