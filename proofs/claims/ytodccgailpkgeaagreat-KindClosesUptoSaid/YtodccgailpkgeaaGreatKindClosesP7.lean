/- A part of the proof. No condition. -/
import Derived.Test.YtodccgailpkgeaaGreatKindClosesP6
import Derived.Laws.StructEq
import Derived.ChangeKeysEq
import Derived.Laws.Pointers
set_option linter.defProp false
set_option maxHeartbeats 1000000
set_option linter.unusedVariables false
set_option linter.unusedSimpArgs false
namespace Go.Eng
open Go.RowKit (Below)
section
variable{c:Ctx}{r:Option Nat}{P:Program}{ops:Array Oper}{rest L:cg}{o:Oper}{env:List (Nat×ab)}{H:aC}{Q:Exit->Act->World->Prop}{x:ab}{d n j k:Nat}{want g:Bool}{K:List (Nat×ab)->Prop}
end
structure Hid(p:Prop):Prop where
 out:p
def og{goal next:Prop}(k:next)(h:Hid next->goal:=by
  intro k
  first
   | with_reducible refine aZ.seq ?_
   | with_reducible refine aA.seq ?_
   | with_reducible refine aA.region ?_
   | with_reducible refine ai.nil ?_
   | with_reducible refine aA.skip ?_
   | with_reducible refine aA.ret ?_
   | with_reducible refine aA.block ?_
   | with_reducible refine aA.exit ?_
   | with_reducible refine aZ.U4 ?_
   | with_reducible refine aZ.U3 ?_
   | with_reducible refine aZ.U5 ?_
   | with_reducible refine aZ.U6 ?_
   | with_reducible refine aZ.U7 ?_
   | refine aZ.U8 rfl ?_
  exact k.out):goal:=h ⟨k⟩
def ak3{goal next:Prop}(k:next)(h:Hid next->goal:=by
  intro k
  iterate 2 refine og ?_
  exact k.out):goal:=h ⟨k⟩
def ak4{goal next:Prop}(k:next)(h:Hid next->goal:=by
  intro k
  iterate 3 refine og ?_
  exact k.out):goal:=h ⟨k⟩
def ak5{goal next:Prop}(k:next)(h:Hid next->goal:=by
  intro k
  iterate 4 refine og ?_
  exact k.out):goal:=h ⟨k⟩
def ak6{goal next:Prop}(k:next)(h:Hid next->goal:=by
  intro k
  iterate 5 refine og ?_
  exact k.out):goal:=h ⟨k⟩
def ak7{goal next:Prop}(k:next)(h:Hid next->goal:=by
  intro k
  iterate 6 refine og ?_
  exact k.out):goal:=h ⟨k⟩
def ak8{goal next:Prop}(k:next)(h:Hid next->goal:=by
  intro k
  iterate 7 refine og ?_
  exact k.out):goal:=h ⟨k⟩
def ak9{goal next:Prop}(k:next)(h:Hid next->goal:=by
  intro k
  iterate 8 refine og ?_
  exact k.out):goal:=h ⟨k⟩
def ala{goal next:Prop}(k:next)(h:Hid next->goal:=by
  intro k
  iterate 9 refine og ?_
  exact k.out):goal:=h ⟨k⟩
def alb{goal next:Prop}(k:next)(h:Hid next->goal:=by
  intro k
  iterate 12 refine og ?_
  exact k.out):goal:=h ⟨k⟩
def alc{goal next:Prop}(k:next)(h:Hid next->goal:=by
  intro k
  iterate 13 refine og ?_
  exact k.out):goal:=h ⟨k⟩
def ald{goal next:Prop}(k:next)(h:Hid next->goal:=by
  intro k
  iterate 14 refine og ?_
  exact k.out):goal:=h ⟨k⟩
def ale{goal next:Prop}(k:next)(h:Hid next->goal:=by
  intro k
  iterate 16 refine og ?_
  exact k.out):goal:=h ⟨k⟩
def Xn{goal next:Prop}(k:next)(h:Hid next->goal:=by
  intro k;apply ai.gb rfl rfl rfl rfl rfl rfl rfl rfl rfl rfl;(case hu=>repeat (first | exact bG.head _ _ _ | apply bG.tail));(case hfit=>rfl);(case hds=>rfl);exact k.out):goal:=h ⟨k⟩
def cf{G p:Prop}(av:G)(h:G->p:=by
  intro av
  first | rfl | exact av | exact (Bool.and_eq_true_iff.1 av).1 | exact (Bool.and_eq_true_iff.1 (Bool.and_eq_true_iff.1 av).1).1 | simp_all):p:=h av
def dA{p q:Prop}(h:p)(s:p->q:=by
  intro h
  first
   | (simp only[decide_eq_true_eq,decide_eq_false_iff_not,beq_iff_eq,bne_iff_ne,ne_eq,Int.not_lt,Int.not_le,beq_eq_false_iff_ne,gt_iff_lt,ge_iff_le,Bool.not_eq_true,Bool.not_eq_false,Bool.not_eq_false',bne_eq_false_iff_eq] at h;exact h)
   | exact h):q:=s h
section
variable{c:Ctx}{r:Option Nat}{P:Program}{Q:Exit->Act->World->Prop}{st:dT}
def bm(J:Nat->Go.Eng.dT->Prop){p:Code}{m:Nat}{st':Go.Eng.dT}(eF:J m st')
  (round:∀m st',J m st'->aA c r P p st' (Exit.then (λa w=>∃oh l1,oh<m/\J oh l1/\Sat c l1 a w) Q))
  (he:nk st'.env st.env:=by repeat (first | exact trivial | refine⟨rfl,?_⟩))
  (iV:st'.H.Sublist st.H:=by repeat (first | exact List.Sublist.refl _ | refine List.Sublist.cons _ ?_)):aA c r P (.loop p) st Q:=
 aA.Fu J ⟨m,st',eF,he,iV⟩ round
def aU{J:Nat->Go.Eng.dT->Prop}{m oh:Nat}{st':Go.Eng.dT}(eF:J oh st')(hm:oh<m:=by omega)(he:nk st'.env st.env:=by repeat (first | exact trivial | refine⟨rfl,?_⟩))
  (iV:st'.H.Sublist st.H:=by repeat (first | exact List.Sublist.refl _ | refine List.Sublist.cons _ ?_)):aZ c st .normal (Exit.then (λa w=>∃oh l1,oh<m/\J oh l1/\Sat c l1 a w) Q):=
 aZ.LR eF hm he iV
def aB{fn:Func}{B:Nat}{c9:cr}{bN:World}{n:Nat}{eu:ab->aC->Prop}{E:ab->aC->Prop}(t:Nat)(H':aC){y:ab}(r9:eu (iG [y]) H')(bK:fn.results= #[.tmp t]:=by exact rfl)(hy:iz P st [.tmp t] [y]:=by exact .tmp rfl .nil)
  (iV:H'.Sublist st.H:=by repeat (first | exact List.Sublist.refl _ | refine List.Sublist.cons _ ?_)):aZ ⟨B,c9,bN,n,[]⟩ st .ret (bodyPost P fn (e5 B c9 bN eu E)):=
 aZ.cl (rs:=[.tmp t]) (H':=H') bK hy (c5.refl _) iV r9
end
def MY{k}:∀(a:List (Nat×ab)) (f:Nat) (c:bl),a.map (·.1)=(List.range a.length).map (f+ ·)->(∀p∈a,fa p.2=true/\(cJ p.2).length=k)->(f+a.length)*k<=c.length->
  n1 (λi=>some (i*k,k)) c a=some (c.take (f*k)++(a.map λp=>cJ p.2).flatten++c.drop ((f+a.length)*k))
 | [],f,c,_,_,_=>by simp[n1]
 | (i,x)::r,f,c,j,o,m=>by
  have aK:=o (i,x) (.head _);rw[List.length_cons,List.range_succ_eq_map,List.map_cons,List.map_cons,List.cons.injEq,List.map_map] at j;obtain⟨e,j⟩:=j;simp[Nat.add_zero] at e;subst e;rw[List.length_cons] at m;have q:(i+1)*k<=c.length:=Nat.le_trans (Nat.mul_le_mul_right k aa) m;have l:(i+1)*k=i*k+k:=Nat.succ_mul i k;have g:(c.take (i*k)++cJ x++c.drop (i*k+k)).length=c.length:=by
   simp[List.length_append,List.length_take,List.length_drop,aK.2];omega
  rw[n1];simp only[aK.1,aK.2,Nat.beq_refl,Bool.true_and,Nat.ble_eq_true_of_le (l▸q),cond_true];rw[MY r (i+1) _ (by rw[j];exact List.map_congr_left λa _=>by simp;omega) (λp h=>o p (.tail _ h)) (by rw[g];rw[show i+1+r.length=i+(r.length+1) by omega];exact m)];rw[show i+1+r.length=i+(r.length+1) by omega,l];congr 1;have v:(c.take (i*k)++cJ x++c.drop (i*k+k)).take (i*k+k)=c.take (i*k)++cJ x:=by
   rw[List.take_append_of_le_length E9,List.take_of_length_le E9]
  have s:(c.take (i*k)++cJ x++c.drop (i*k+k)).drop ((i+(r.length+1))*k)=c.drop ((i+(r.length+1))*k):=by
   have t:i*k+k<=(i+(r.length+1))*k:=by rw[<-l];exact Nat.mul_le_mul_right k aa
   rw[List.drop_append,List.drop_of_length_le E9,List.nil_append,List.drop_drop];congr 1;simp only[List.length_append,List.length_take,aK.2];omega
  rw[v,s];simp
section
variable{P:Program}{H:aC}{ρ:Nat->Option ab}{o:Oper}
def ad.sg{t}{n k}{v}{C}(ys)[hR:j9 P t (k,C)](h:o.op= .buildSlice t n v)
  (hy:js ρ (v.toList.map (·.2))=some ys) (E:ys.all (·.1)=true) (r:v.toList.map (·.1)=List.range n) (z:ys.all (λy=>fa y.2 && Nat.beq (cJ y.2).length k)=true) (a:Nat.beq ys.length n)
  (w:Nat.ble (n*k) 16777216) (l:Nat.blt 0 (n*k)):ad P H ρ o (.aj k (ys.map λy=>cJ y.2)):=by
 have B:=Nat.eq_of_beq_eq_true a;simp only[List.all_eq_true,Bool.and_eq_true] at z;have s:partsOf v.toList ys=(List.range n).zip (ys.map (·.2)):=by rw[partsOf,r]
 have m:((List.range n).zip (ys.map (·.2))).map (·.2)=ys.map (·.2):=List.map_snd_zip (by rw[List.length_range,List.length_map,B];exact Nat.le_refl _);have A:((List.range n).zip (ys.map (·.2))).map (·.1)=List.range n:=List.map_fst_zip (by rw[List.length_range,List.length_map,B];exact Nat.le_refl _);have f:((List.range n).zip (ys.map (·.2))).length=n:=by rw[List.length_zip,List.length_range,List.length_map,B,Nat.min_self]
 have j:(ys.map (·.2)).map cJ=ys.map λy=>cJ y.2:=by rw[List.map_map];rfl
 have q:(ys.map λy=>cJ y.2).all (λe=>Nat.beq e.length k)=true:=by
  rw[List.all_eq_true];intro e F;obtain⟨y,hy,rfl⟩:=List.mem_map.1 F;exact (z y hy).2
 refine .row (hR:=hR) h hy E (els:=ys.map λy=>cJ y.2) ?_ (by rw[List.length_map];exact a) q w l ?_
 ·rw[s,show (λx:Nat×ab=>cJ x.2)=cJ∘(·.2) from rfl, <-List.map_map,m,j]
 ·rw[s,MY ((List.range n).zip (ys.map (·.2))) 0 _ (by rw[A,f];simp) ?_ ?_]
  ·rw[f];have c:((mG n k C).map ab.val).length=n*k:=by simp[mG]
   rw[show (0+n)*k=n*k by rw[Nat.zero_add],List.drop_of_length_le (by rw[c];exact Nat.le_refl _)];simp[Nat.zero_mul,List.take_zero,List.nil_append,List.append_nil];rw[show (λp:Nat×ab=>cJ p.2)=cJ∘(·.2) from rfl, <-List.map_map,m,j]
  ·intro p D;obtain⟨y,hy,e⟩:=List.mem_map.1 (List.of_mem_zip D).2;have:=z y hy;rw[<-e];exact⟨this.1,Nat.eq_of_beq_eq_true this.2⟩
  ·rw[f];simp[mG]
end
section
variable{P:Program}{H:aC}{ρ:Nat->Option ab}{o:Oper}
end
section
variable{P:Program}{H:aC}{ρ:Nat->Option ab}{o:Oper}
end
section
variable{P:Program}{H:aC}{ρ:Nat->Option ab}{o:Oper}
def ad.Xo{t}{x W}{b}{ke}{l}{k}{g1 V}{zv}[E:q2 P t ke][hZ:uV P ke.2 zv](h:o.op= .lookup t x W true)
  (Z:aO ρ x=some (g1,.val (.map (some b)))) (L:g1=true) (bD:aO ρ W=some (V,.i k)) (S:V=true) (hm:dV b l∈H) (X:lI l) (J:fX k):ad P H ρ o (.bj [(hA l k).getD (.val zv),.b (hA l k).isSome]):=by
 intro B I w r a ni Y Q b4 U;have C:=bZ (U.get cd Z L);have F:=bZ (U.get cd bD S);obtain⟨eD,⟨ct,dv,ba,c,z⟩,a0⟩:=Q.ok _ (b4 _ hm);have K:=Go.Maps.int_keyed E.int;obtain⟨sa,G⟩:=w7 E.int J;have D:∀e∈ct.toList,∃l,keyOf P ke.1 e.key=some l:=λe he=>by
  have:e.key∈(l.map λp=>((.int .i64 p.1,p.2):Value×ab)).map (·.1):=by rw[<-c];exact List.mem_map_of_mem he
  rw[List.map_map] at this;obtain⟨p,s,T⟩:=List.mem_map.1 this;rw[<-T];exact w7 E.int (X.small p s)
 have m:=K.check w ct.isEmpty G;have q:(getObj b).run P w= .ok (.map ct dv) w:=by simp[getObj,Sem.run,ba]
 rcases K.find w G ct.toList D with⟨b7,hx⟩ | ⟨j,e,b7,cp,jO⟩
 ·have aD:=GI hZ.h w;have g:(execOp a.eval o).run P w= .ok (.value (.tuple #[zv,.bool false])) w:=by
   simp[execOp,h,Instr.lookup,run_underlying E.h,C,F,q,m,b7,aD]
  have av:hA l k=none:=GH l k λp s e=>by
   have:(.int .i64 p.1)∈ct.toList.map (·.key):=by rw[c,List.map_map];exact List.mem_map.2 ⟨p,s,rfl⟩
   obtain⟨e',M,N⟩:=List.mem_map.1 this;exact hx e' M (by rw[N,e])
  refine .e4 ck g ⟨I,Y,.refl _ _ _,Q,?_⟩;rw[av];exact .bj _ _ (.cons _ _ _ _ (.val _) (.cons _ _ _ _ (.val _) .nil))
 ·have g:(execOp a.eval o).run P w= .ok (.value (.tuple #[e.val,.bool true])) w:=by
   simp[execOp,h,Instr.lookup,run_underlying E.h,C,F,q,m,b7]
  obtain⟨u,f,R⟩:=wU z (i:=j) (v:=e.val) (by rw[List.getElem?_map,cp];rfl);have O:l[j]? =some (k,u):=by
   rw[List.map_map,List.getElem?_map] at f;cases s:l[j]? with
   | none=>rw[s] at f;cases f
   | some p=>
    rw[s] at f;have A:((l.map λp=>((.int .i64 p.1,p.2):Value×ab)).map (·.1))[j]? =some e.key:=by rw[<-c,List.getElem?_map,cp];rfl
    rw[List.map_map,List.getElem?_map,s] at A;simp at f A;rw[jO] at A;simp at A;rw[show p=(k,u) from Prod.ext A f]
  refine .e4 ck g ⟨I,Y,.refl _ _ _,Q,?_⟩;rw[(CF l k .any j u X.nodup O).2];exact .bj _ _ (.cons _ _ _ _ R (.cons _ _ _ _ (.val _) .nil))
end
section
variable{P:Program}{H:aC}{ρ:Nat->Option ab}{o:Oper}{X:nx}
end
def Rel.CG{I}{w}{k}{xs ys}{v}(h:Rel I w (.aj k xs) v)(f:ys.length=xs.length)(g:∀(i:Nat) (x y:bl),xs[i]? =some x->ys[i]? =some y->y.length=x.length/\∀b o,Cells I w b o x->Cells I w b o y):Rel I w (.aj k ys) v:=by
 have key:∀(xs ys:List bl) (b o:Nat),ys.length=xs.length->(∀(i:Nat) (x y:bl),xs[i]? =some x->ys[i]? =some y->y.length=x.length/\∀b o,Cells I w b o x->Cells I w b o y)->fK I w k b o xs->fK I w k b o ys:=by
  intro xs
  induction xs with
  | nil=>intro ys b o f _ _;rw[List.eq_nil_of_length_eq_zero f];exact .nil _ _ _
  | cons x xs E=>
   intro ys b o f g h;cases ys with
   | nil=>simp at f
   | cons y ys=>
    cases h with
    | cons _ _ _ _ _ z G t=>
     obtain⟨A,F⟩:=g 0 x y rfl rfl;exact .cons _ _ _ _ _ (A.trans z) (F _ _ G) (E ys _ _ (by simpa using f) (λi x y r s=>g (i+1) x y r s) t)
 cases h with
 | dQ=>rw[List.eq_nil_of_length_eq_zero f];exact .dQ _ _ _
 | aj _ _ b off len B m l q H=>exact .aj _ _ _ _ _ _ (f.trans m) l q (key _ _ _ _ f g H)
section
variable{c:Ctx}{r:Option Nat}{P:Program}{env:List (Nat×ab)}{H:aC}{Q:Exit->Act->World->Prop}{d:Nat}
end
section
variable{c:Ctx}{r:Option Nat}{P:Program}{l:cg}{Q:Exit->Act->World->Prop}
abbrev pC(H:aC)(eu:ab->aC->Prop)(gN:Nat):Nat->Mem:=λj B a I w=>match j with
 | 0=>a7 B I w H
 | _=>∃y H',eu y H'/\a7 B I w H'/\Rel I w y (a.tmps.getD gN undef)
def bW.MZ{env}{H}(eu)(z e)(k m n)(hn:c.n=n)(kK:mJ l k m)(qS:qR [e] k m)(lF:Nat.ble k m)(gk:Nat.ble m l.length)(mF:(l.all λo=>(looks l o).all λt=>Nat.blt t n)=true)
  (h:bg P (pC H eu z) l [e] c.n k ((l.drop k).take (m - k)) env λenv=>∀y j,eu y j->bW c r P l Q m ⟨(z,y)::env,j⟩):bW c r P l Q k ⟨env,H⟩:=
 .anyS (Hs:=pC H eu z) kK qS (Nat.le_of_ble_eq_true lF) (Nat.le_of_ble_eq_true gk) qA (λB a I w aW=>aW) (h.mono λenv a6 a w I gI fF fc jP lb l9=>by
  obtain⟨y,j,ae,aW,bK⟩:=lb;exact a6 y j ae a w ⟨gI,fF,I,fc,jP,aW,Sat.qF l9 bK⟩)
end
section
variable{P:Program}{L rest:cg}{ss:du}{n i d:Nat}{o:Oper}{env:List (Nat×ab)}{K:List (Nat×ab)->Prop}{x:ab}{H:aC}{eu:ab->aC->Prop}{gN:Nat}
def bg.lJ(b4:la ss i=0)(F:o.guard=none)(a6:o.dst=some d)(hn:Nat.blt d n)(g:Nat.beq d gN=false)(D:∀y f,eu y f->ad P f (aE ((gN,y)::env)) o x)(v:zd L ss i=0->ad P H (aE env) o x)(next:bg P (pC H eu gN) L ss n (i+1) rest ((d,x)::env) K):bg P (pC H eu gN) L ss n i (o::rest) env K:=
 ⟨x,λj E A=>by
  rw[b4];refine gM.of F λB I w r a t l s J=>?_;cases j with
  | zero=>exact (v aa) B I w r a _ t l (λ_ h=>h) s
  | succ j=>
   obtain⟨y,f,q,z,m⟩:=l;refine (D y f q B I w r a _ t z (λ_ h=>h) (MH s m)).mono (λv G ⟨C,bI,a2,a3,a4⟩=>⟨C,bI,a2,⟨y,f,q,a3,?_⟩,a4⟩) λ_ _ h=>h;rw[a6,lB (λe=>by subst e;simp at g)];exact m.bw a2.keeps,gL a6 hn,fY⟩
def bg.M0{f}{xs}(J:pQ L ss i=0)(b4:la ss i=1)(E:o.guard=none)(a6:o.dst=some gN)(hn:Nat.blt gN n)(a1:gG P (aE env) o f xs)(h:∀B,eM B P f xs H eu (λ_ _=>False))
  (next:bg P (pC H eu gN) L ss n (i+1) rest ((gN,.any)::env) K):bg P (pC H eu gN) L ss n i (o::rest) env K:=
 ⟨.any,λj N G=>by
  obtain rfl:j=0:=by omega
  rw[b4];refine gM.of E λB I w r a F g s D=>(Cm (c:=⟨B,I,w,0,[]⟩) a1 (h B) F g s).mono (λv M A=>?_) λ_ _ h=>h;obtain⟨v,l,z,t,C,x,m,q⟩:=A;exact⟨v,t,C,⟨z,l,q,x,by rw[a6,pE (D gN a6)];exact m⟩,.any _⟩,gL a6 hn,fY⟩
end
section
variable{P:Program}{H:aC}{ρ:Nat->Option ab}{o:Oper}
end
def a7.Xp{B}{I}{w}{H}{e e'}(a:a7 B I w (e::H))(h:e.ok B I w->e'.ok B I w)(j:e'.dY=e.dY):a7 B I w (e'::H):=by
 refine⟨λf c=>?_,List.pairwise_cons.2 ⟨λf g b l=>(List.pairwise_cons.1 a.apart).1 f g b (by rw[<-j];exact l),(List.pairwise_cons.1 a.apart).2⟩⟩;rcases List.mem_cons.1 c with rfl | c
 ·exact h (a.ok _ (.head _))
 ·exact a.ok f (.tail _ c)
def bU.Xq{I}{w}{x y}(h:∀v,Rel I w x v->Rel I w y v):∀{f a:bl} {c:dj},bU I w (f++x::a) c->bU I w (f++y::a) c:=λ{f a c} j=>by
 obtain⟨r,l,rfl,o,m⟩:=j.qP;cases m with
 | cons _ v _ l g q=>exact o.append (.cons _ _ _ _ (h v g) q)
section
variable{c:Ctx}{r:Option Nat}{P:Program}{env:List (Nat×ab)}{Q:Exit->Act->World->Prop}
def aA.M1{p}{g j t tb n cap k}{els}{more xs ys}{R}
  (hn:els.length=n) (A:∀e∈els,e.length=k) (z:n<=cap) (hm:cap<=maxLen) (h:aA c r P p ⟨env,.au j tb (xs++.aj k els::ys)::R⟩ Q):aA c r P p ⟨env,.au g t (els.flatten++more)::.au j tb (xs++.val (.slice (some ⟨g,0,none⟩) n cap)::ys)::R⟩ Q:=λa w s=>by
 refine h a w ?_;obtain⟨I,F,H,l,f⟩:=s.mem;obtain⟨J,m,E,v,D⟩:=l.ok _ (.head _);obtain⟨B,o,C,x⟩:=cr.freeze (n:=m.size) F l (.head _ _) (b:=g) rfl E (Nat.le_refl _);have q:=(x _ m.toList v BC).take els.flatten.length;rw[List.take_left] at q;refine⟨s.ds,s.size,_,B,H.trans o,.Xp C (λ⟨G,us,fF,fc,jP⟩=>⟨G,us,fF,.Xq (λv f=>?_) fc,jP⟩) rfl,f.bw o.keeps⟩;rw[bZ f];exact .aj _ _ _ _ _ _ hn z hm (nq els 0 A q)
end
section
variable{c:Ctx}{r:Option Nat}{P:Program}{env:List (Nat×ab)}{Q:Exit->Act->World->Prop}
end
section
variable{c:Ctx}{r:Option Nat}{P:Program}{st:dT}{Q:Exit->Act->World->Prop}
def br.zu{B}{I}{w}{t k n}{v}{cs}(h:(br.row t k v n cs).ok B I w):∃a c,v= .slice a n c:=by
 obtain⟨j,f,_⟩:=h;rcases f.2 with⟨rfl,hn⟩ | ⟨g,c,cur,rfl,_⟩
 ·exact⟨none,0,by rw[hn]⟩
 ·exact⟨_,c,rfl⟩
end
section
variable{r:Option Nat}{P:Program}{st:dT}{Q:Exit->Act->World->Prop}{B:Nat}{c9:cr}{bN:World}{n:Nat}{Hx:aC}
abbrev gY(GK:du):aC:=GK.map λD=>.obj D (.deferred (some []))
abbrev pV(B:Nat)(c9:cr)(bN:World)(n:Nat)(GK:du):Ctx:=⟨B,c9,bN,n,GK.map mark⟩
def aA.zw(J:Nat->dT->Prop)(C)(Hx){p}(af:∃m st',J m st'/\nk st'.env st.env/\(st'.H++(gY C++Hx)).Sublist st.H)
  (round:∀z m st',J m st'->aA (pV B c9 bN n z) r P p ⟨st'.env,st'.H++(gY z++Hx)⟩ (Exit.then (λa w=>∃q oh l1,oh<m/\J oh l1/\Sat (pV B c9 bN n q) ⟨l1.env,l1.H++(gY q++Hx)⟩ a w) Q)):aA (pV B c9 bN n C) r P (.loop p) st Q:=by
 intro a w s b k cs nX ba bK;obtain⟨Xr,Xs,Xt,Xu,Xv⟩:=af;have key:∀m z st' a w,J m st'->Sat (pV B c9 bN n z) ⟨st'.env,st'.H++(gY z++Hx)⟩ a w->
   ∃e N w',Q e N w'/\ArrivesIn (Machine.fenced P (bx r)) P (lone (b.atR a (.code p::.inLoop p::k)) cs w) b k cs e N w':=by
  intro m
  induction m using Nat.strongRecOn with
  | _ m fv=>
   intro z st' a w eF jq;obtain⟨e,o7,fM,cj,et⟩:=round z m st' eF a w jq b (.inLoop p::k) cs nX ba bK;cases e with
   | normal=>
    obtain⟨q,oh,l1,k5,Xw,Fi⟩:=cj;obtain⟨yw,Xx,nm,oV,pF⟩:=fv oh k5 q l1 o7 fM Xw Fi;exact⟨yw,Xx,nm,oV,.of_steps (StepsIn.trans et (.one (fenced_calm ba bK rfl) stepR_inLoop)) pF⟩
   | exit id=>exact⟨_,o7,fM,cj,.pass (x:=.inLoop p) rfl (λ_ _=>.inl aT) et⟩
   | goto l=>exact⟨_,o7,fM,cj,.pass (x:=.inLoop p) rfl (λ_ _=>.inl aT) et⟩
   | ret=>exact⟨_,o7,fM,cj,.pass (x:=.inLoop p) rfl (λ_ _=>.inl aT) et⟩
   | panic ch=>exact⟨_,o7,fM,cj,.pass (x:=.inLoop p) rfl (λ_ _=>.inl aT) et⟩
   | outgrown=>exact⟨_,o7,fM,cj,.pass (x:=.inLoop p) rfl (λ_ _=>.inl aT) et⟩
 obtain⟨e,N,w',cj,et⟩:=key Xr C Xs a w Xt (s.weaken (lZ Xu) Xv);exact⟨e,N,w',cj,.of_steps (.one (fenced_calm ba bK rfl) stepR_loop) et⟩
def aZ.oi(h){J:Nat->dT->Prop}{m f}{st'}(j:J f st')(hm:f<m)(o:nk st'.env st.env)(l:(st'.H++(gY h++Hx)).Sublist st.H):
  aZ (pV B c9 bN n h) st .normal (Exit.then (λa w=>∃g f c,f<m/\J f c/\Sat (pV B c9 bN n g) ⟨c.env,c.H++(gY g++Hx)⟩ a w) Q):=
 λa w s=>⟨h,f,st',hm,j,s.weaken (lZ o) l⟩
def M3{fn}{R}{tmps}{H}{I}:∀(g:du) (w:World),bY B I w->Ext B c9 bN I w->a7 B I w (gY g++H)->
  (∀w',bY B I w'->Ext B c9 bN I w'->a7 B I w' H->er I w I w'->LeavesIn (bx none) 0 P fn tmps R [] .returning w')->LeavesInM (bx none) 0 P fn tmps R (g.map mark) .returning w
 | [],w,r,s,l,k=>k w r s l ⟨λ_ _ x=>x,λ_ _ _=>rfl⟩
 | D::g,w,r,s,l,k=>by
  obtain⟨z,C,h⟩:=l.ok _ (.head _);have t:er I w I (w.putObj D (.deferred none)):=pN (B:=B) h;have v:fV (gY (D::g)++H) (.obj D (.deferred (some []))) (gY g++H):=fV.head _ _;have m:a7 B I (w.putObj D (.deferred none)) (gY g++H):=by
   refine (l.sub v.sub).bw t (λf A b q=>World.putObj_heap_other λe=>?_) λ_ _ _ _ _ x=>x;subst e;exact v.apart l.apart f A _ rfl q
  exact⟨aT,.inl ⟨D,_,rfl,run_takeDeferred C,M3 g _ (r.putObj h) (s.trans (.putObj z h)) m λw' a b c d=>k w' a b c ⟨λ_ _ x=>x,λb o x=>(d.cell b o x).trans (t.cell b o x)⟩⟩⟩
def aZ.ld(j)(g Hx){fn}{t}{E}{rs}{ys r}{H'}(x:fn.results=rs.toArray)(J:(g++(gY j++Hx)).Sublist st.H)(h:iz P ⟨st.env,g++Hx⟩ rs ys)(m:c5 ys r)
  (F:H'.Sublist (g++Hx)) (l:t (iG r) H'):aZ (pV B c9 bN n j) st .ret (bodyPostM (bx none) 0 P fn (e5 B c9 bN t E)):=by
 intro a w s;obtain⟨I,G,L,C,D⟩:=s.mem;show LeavesInM _ _ _ _ _ _ a.defers _ _;rw[show a.defers=j.map mark from s.ds];refine M3 (H:=g++Hx) j w G L ((C.sub J).perm (List.perm_append_comm_assoc _ _ _)) λw' q o f z=>?_;obtain⟨v,K,A⟩:=h.res (c:=⟨B,c9,bN,n,[]⟩) (st:=⟨st.env,g++Hx⟩) f (D.bw z) x;exact⟨v,K,I,H',q,o,f.sub F,.inl ⟨v,_,rfl,m.iG _ _ _ A,l⟩⟩
def aA.q3{q}{t p}{assign z}{f}{v}(A)(enc:Nat->q->ab)(own:Nat->q->aC)(L:List q)(J:List q->aC->Prop)(Jx:Code->List q->aC->Prop)(H Hx)(o:Nat->q->List (Nat×ab))
  (R:r=none) (T:st.H=H++(gY A++Hx)) (V:aE st.env t=some (.fn (.func f) [] v)) (S:Nat.blt p n) (M:B6 B P (.fn (.func f) [] v) enc own L) (K:J [] H)
  (j:∀(l:Nat) (I:cr) (w:World) (k:Nat) (x:q) (E:aC),aA ⟨B,I,w,n,[]⟩ (some l) P assign ⟨(p,enc k x)::st.env,E⟩ (Exit.then (λa U=>∃F,F=(⟨o k x,E⟩:dT)/\Sat ⟨B,I,w,n,[]⟩ F a U) (λ_ _ _=>False)))
  (C:∀(l D:Nat) (O:Loop) (g:List q) (k:Nat) (x:q) (m E:aC) (I:cr) (w:World),g++[x]<+:L->J g m->
   aA ⟨B,I,w,n,[]⟩ (some l) P z ⟨o k x,.loop l O (aE st.env)::.obj D (.deferred (some []))::(m++(own k x++E))⟩ (wH B I w l D O (aE st.env) J Jx (g++[x]) (own k x++E)))
  (done:∀(D:Nat) (m:aC),J L m->aZ (pV B c9 bN n (D::A)) ⟨st.env,m++(gY (D::A)++Hx)⟩ .normal Q)
  (G:∀(D:Nat) (h:Code) (g:List q) (m:aC),g<+:L->Jx h g m->aA (pV B c9 bN n (D::A)) r P h ⟨st.env,m++(gY (D::A)++Hx)⟩ Q):
  aA (pV B c9 bN n A) r P (.rangeFunc (.tmp t) #[p] assign z) st Q:=by
 refine .L2 (c:=pV B c9 bN n A) enc own L J Jx H (gY A++Hx) o R T V S M K j C (λD m K a w s=>?_) λD h g m N K a w s=>?_
 ·exact done D m K a w ⟨s.ds,s.size,let ⟨I,bI,a2,a3,a4⟩:=s.mem;⟨I,bI,a2,a3.perm List.perm_middle.symm,a4⟩⟩
 ·exact G D h g m N K a w ⟨s.ds,s.size,let ⟨I,bI,a2,a3,a4⟩:=s.mem;⟨I,bI,a2,a3.perm List.perm_middle.symm,a4⟩⟩
end
section
variable{c:Ctx}{r:Option Nat}{P:Program}{st:dT}{Q:Exit->Act->World->Prop}
def aA.GL{p}{b t}{cs ds}{H'}(hu:bG st.H (.au b t cs) (.au b t ds) H')(f:c5 cs ds)(h:aA c r P p ⟨st.env,H'⟩ Q):aA c r P p st Q:=λa w s=>by
 refine h a w ?_;obtain⟨I,l,B,g,v⟩:=s.mem;obtain⟨A,m,o,q,z⟩:=g.ok _ hu.mem;exact⟨s.ds,s.size,I,l,B,g.fE hu ⟨λ_ _ x=>x,λ_ _ _=>rfl⟩ (λ_ _ _=>rfl) (λ_ _ x=>.inl x) ⟨A,m,o,f.rel q,z⟩ (λ_ x=>.inl x),v⟩
end
section
variable{P:Program}
def eM.ofM{B}{f}{fn}{a}{xs}{H}{c}{E}{n}(b7:P.funcs[f]? =some fn)(ba:fn.body=some a)(rO:(fn.name== "runtime.NumGoroutine")=false)
  (hn:fn.ntmps=n) (q:Nat.ble xs.length n) (h:∀I w,aA ⟨B,I,w,n,[]⟩ none P a ⟨np 0 xs,H⟩ (bodyPostM (bx none) 0 P fn (e5 B I w c E))):eM B P f xs H c E:=by
 refine⟨uq,λI w g r o j=>uy (n:=0) (callsIn_of_wp_marks b7 ba trivial ?_ rfl)⟩;refine h I w _ w ⟨rfl,?_,I,r,Ext.refl _ _ _,o,λt y hy=>?_⟩
 ·have:=j.length;have:=Nat.le_of_ble_eq_true q;simp;omega
 ·obtain⟨v,l,m⟩:=j.get yn;have:(g.toArray++Array.replicate (fn.ntmps - g.toArray.size) undef).getD t undef=v:=by
   have k5:=(List.getElem?_eq_some_iff.1 l).1;simp only[Array.getD_eq_getD_getElem?];rw[Array.getElem?_append_left wy];simp[l]
  rw[this];exact m
end
class M4 (P:Program) (t:Nat):Prop where h:P.underlying t=some (.pointer (P.pointee t))
class CH (P:Program) (t:Nat) (x:outParam (Nat×Nat)):Prop where
 h:P.underlying t=some (.map x.1 x.2)
 key:Go.Maps.Keyed P x.1
 zero:((P.info? x.2).bind (·.zero))=some (.bool false)
def Xy{P}{k i m}(hm:P.types.size=m+2)(r:P.underlying i=some (.int .i64))(g:P.underlying k=some (.array 2 i))(h:P.cellsOf k=2)(s:P.cellsOf i=1)(l:P.keyType k=true){a b}
  (o:(Go.Lit.int .i64 a).wf=true) (q:(Go.Lit.int .i64 b).wf=true):ev P k (.agg #[.int .i64 a,.int .i64 b]):=by
 have c:(Value.agg #[.int .i64 a,.int .i64 b]).formed P k=true:=by simp[Value.formed,g,h]
 have f:P.keyLits (P.types.size+1) k [.int .i64 a,.int .i64 b]=some [.int .i64 a,.int .i64 b]:=by
  rw[hm];simp[Program.keyLits,g,r,h,s,o,q,List.range,List.range.loop]
 exact⟨.string (keyBytes [.int .i64 a,.int .i64 b]),by
  have j:(Value.agg #[.int .i64 a,.int .i64 b]).cells.toList= [.int .i64 a,.int .i64 b]:=rfl;simp[keyOf,g,l,c,Bool.and_self,if_true,j,f,Option.map_some]⟩
section
variable{c:Ctx}{r:Option Nat}{P:Program}{ops:Array Oper}{l rest:cg}{o:Oper}{env:List (Nat×ab)}{H:aC}{Q:Exit->Act->World->Prop}{d:Nat}{ρ:Nat->Option ab}
def Xz{t}{x F}{b}{ke:Nat×Nat}{κ:Value->ab}{vs:dj}{y:ab}{g1 Q}[C:CH P t ke](h:o.op= .lookup t x F true)
  (R:aO ρ x=some (g1,.val (.map (some b)))) (J:g1=true) (S:aO ρ F=some (Q,y)) (L:Q=true) (hy:aq y (.agg (vs.map .val))) (hm:.gn b (ev P ke.1) κ∈H) (q:ev P ke.1 (.agg vs.toArray)) {z} (M:κ (.agg vs.toArray)= .b z):
  ∀(B:Nat) (I:cr) (w:World) (r:Option Nat) (a:Act) (K:aC),bY B I w->a7 B I w K->(∀e∈H,e∈K)->fo I w ρ a o->
   dw P r o a w (λv T=>T=w/\(v= .tuple #[.bool z,.bool true]\/v= .tuple #[.bool false,.bool false])) (λ_ _=>False):=by
 intro B I w r a K hw X Y O;have s:=bZ (O.get cd R J);have D:a.eval F= .agg vs.toArray:=by
  have N:=hy _ _ _ (O.get cd S L);generalize a.eval F=u at N;cases N with
  | agg _ us G=>have:=o3 G;rw[<-this]
 obtain⟨eD,⟨ct,dv,V,m⟩,W⟩:=X.ok _ (Y _ hm);obtain⟨sa,E⟩:=q;have A:∀e∈ct.toList,∃l,keyOf P ke.1 e.key=some l:=λe Z=>(m e Z).1;have f:=C.key.check w ct.isEmpty E;have g:(getObj b).run P w= .ok (.map ct dv) w:=by simp[getObj,Sem.run,V]
 rcases C.key.find w E ct.toList A with⟨b7,hx⟩ | ⟨j,e,b7,cp,jO⟩
 ·have U:=GI C.zero w;have c:(execOp a.eval o).run P w= .ok (.value (.tuple #[.bool false,.bool false])) w:=by
   simp[execOp,h,Instr.lookup,run_underlying C.h,s,D,g,f,b7,U]
  exact .e4 ck c ⟨rfl,.inr rfl⟩
 ·have G:=(m e (List.mem_of_getElem? cp)).2;rw[jO,M] at G;have c:(execOp a.eval o).run P w= .ok (.value (.tuple #[e.val,.bool true])) w:=by
   simp[execOp,h,Instr.lookup,run_underlying C.h,s,D,g,f,b7]
  exact .e4 ck c ⟨rfl,.inl (by rw[bZ G])⟩
def ai.M5{t}{x M}{b}{ke:Nat×Nat}{κ:Value->ab}{vs:dj}{y:ab}{g1 J:Bool}[S:CH P t ke](m:o.guard=none)(L:o.dst=some d)(hn:Nat.blt d c.n)(h:o.op= .lookup t x M true)
  (O:aO (aE env) x=some (g1,.val (.map (some b)))) (C:g1=true) (R:aO (aE env) M=some (J,y)) (D:J=true) (hy:aq y (.agg (vs.map .val))) (hm:.gn b (ev P ke.1) κ∈H) (g:ev P ke.1 (.agg vs.toArray)) {z} (E:κ (.agg vs.toArray)= .b z)
  (found:ai c r P ops rest ⟨(d,.bj [.b z,.b true])::env,H⟩ Q) (f:ai c r P ops rest ⟨(d,.bj [.b false,.b false])::env,H⟩ Q):ai c r P ops (o::rest) ⟨env,H⟩ Q:=by
 intro a w s;refine wpListIn_plain m λK G=>?_;obtain⟨I,F,N,l,A⟩:=s.mem;refine Xz h O C R D hy hm g E c.B I w r a H F l (λ_ h=>h) (A.ops o) K Q ?_ λ_ _ h=>h.elim;have j:∀(p q:Bool) (a:Act),bU I w [.b p,.b q] [.bool p,.bool q]:=λp q _=>.cons _ _ _ _ (.val _) (.cons _ _ _ _ (.val _) .nil);rintro v T ⟨rfl,rfl | rfl⟩
 ·refine G _ _ (found _ _ ⟨iS,iR,I,F,N,l,?_⟩);have:=A.put (dst:=some d) (x:=.bj [.b z,.b true]) (v:=.tuple #[.bool z,.bool true]) oR (.bj _ _ (j _ _ a));rw[L];exact this
 ·refine G _ _ (f _ _ ⟨iS,iR,I,F,N,l,?_⟩);have:=A.put (dst:=some d) (x:=.bj [.b false,.b false]) (v:=.tuple #[.bool false,.bool false]) oR (.bj _ _ (j _ _ a));rw[L];exact this
def ai.M6{t}{x kx z}{b}{ke:Nat×Nat}{κ:Value->ab}{vs:dj}{y u:ab}{g1 g2 g3:Bool}[c4:CH P t ke](ac:o.guard=none)(a6:o.dst=none)(h:o.op= .mapUpdate t x kx z)
  (aK:aO (aE env) x=some (g1,.val (.map (some b)))) (a5:g1=true) (bD:aO (aE env) kx=some (g2,y)) (hQ:g2=true) (hy:aq y (.agg (vs.map .val))) (aD:aO (aE env) z=some (g3,u)) (gH:g3=true) (hu:aq u (κ (.agg vs.toArray)))
  (hm:br.gn b (ev P ke.1) κ∈H) (D:ev P ke.1 (.agg vs.toArray)) (next:ai c r P ops rest ⟨env,H⟩ Q):ai c r P ops (o::rest) ⟨env,H⟩ Q:=by
 intro a w s;refine wpListIn_plain ac λK eX=>?_;obtain⟨I,hw,A,aW,bd⟩:=s.mem;have a2:=bZ ((bd.ops o).get cd aK a5);have bI:a.eval kx= .agg vs.toArray:=by
  have af:=hy _ _ _ ((bd.ops o).get cd bD hQ);generalize a.eval kx=u at af;cases af with
  | agg _ us bK=>have:=o3 bK;rw[<-this]
 have Y:=hu _ _ _ ((bd.ops o).get cd aD gH);obtain⟨eD,⟨ct,dv,ba,G⟩,J⟩:=aW.ok _ hm;have q:=D;obtain⟨sa,U⟩:=D;have a0:∀e∈ct.toList,∃l,keyOf P ke.1 e.key=some l:=λe A=>(G e A).1;have M:=c4.key.check w false U;have N:(getObj b).run P w= .ok (.map ct dv) w:=by simp[getObj,Sem.run,ba]
 have O:∀o':Obj,(setObj b o').run P w= .ok () (w.putObj b o'):=λo'=>by simp[setObj,Sem.run,ba,World.putObj]
 have gJ:b<w.heap.size:=(Array.getElem?_eq_some_iff.1 ba).1;have a3:∀(m:Array MapEntry) (C:Nat),(∀e∈m.toList,ev P ke.1 e.key/\Rel I w (κ e.key) e.val)->
   (execOp a.eval o).run P w= .ok .skip (w.putObj b (.map m C))->o.wpIn (bx r) 0 P a w K Q:=by
  intro m C ae Z;have bD:er I w I (w.putObj b (.map m C)):=pN (B:=c.B) J;refine dw.uz (R:=λv w'=>v=undef/\w'=w.putObj b (.map m C)) (E:=λ_ _=>False) ck Z ⟨rfl,rfl⟩ K Q ?_ (λ_ _ h=>h.elim);rintro v w' ⟨rfl,rfl⟩;have a9:a7 c.B I (w.putObj b (.map m C)) H:=by
   refine⟨λf W=>?_,aW.apart⟩;by_cases T:f.dY=some b
   ·have:f= .gn b (ev P ke.1) κ:=by
     refine Classical.byContradiction λhx=>?_;have bV:=aW.apart;obtain⟨i,aN,S⟩:=List.mem_iff_getElem.1 W;obtain⟨j,cp,L⟩:=List.mem_iff_getElem.1 hm;rw[List.pairwise_iff_getElem] at bV;rcases Nat.lt_trichotomy i j with F | F | F
     ·exact bV i j aN cp F b (by rw[S];exact T) (by rw[L];rfl)
     ·subst F;rw[S] at L;exact hx L
     ·exact bV j i cp aN F b (by rw[L];rfl) (by rw[S];exact T)
    subst this;exact⟨eD,⟨m,C,World.putObj_heap_same gJ,λe A=>⟨(ae e A).1,(ae e A).2.bw bD⟩⟩,J⟩
   ·exact br.bw (aW.ok f W) bD (λdL qH=>World.putObj_heap_other (λe=>T (by rw[<-e];exact qH))) (λ_ _ _ x=>x)
  refine eX _ _ ?_;rw[a6];exact next _ _ ⟨s.ds,s.size,I,hw.putObj J,A.trans (Ext.putObj eD J),a9,bd.bw bD⟩
 rcases c4.key.find w U ct.toList a0 with⟨W,hx⟩ | ⟨j,e,W,cp,jO⟩
 ·refine a3 (ct.push {key:=.agg vs.toArray,val:=a.eval z,born:=dv}) (dv+1) ?_ ?_
  ·intro e A;rw[Array.toList_push] at A;rcases List.mem_append.1 A with A | A
   ·exact G e A
   ·simp at A;subst A;exact⟨q,Y⟩
  ·simp[execOp,h,Instr.mapUpdate,run_underlying c4.h,a2,bI,N,M,W,O]
 ·have fw:ct[j]? =some e:=by simpa using cp
  have V:=c4.key.stays w U;refine a3 (ct.modify j λe=>{e with key:=.agg vs.toArray,val:=a.eval z}) dv ?_ ?_
  ·intro e' iy;obtain⟨i,aN⟩:=List.mem_iff_getElem?.1 iy;rw[Array.getElem?_toList,Array.getElem?_modify] at aN;split at aN
   ·cases aK:ct[i]? with
    | none=>simp[aK] at aN
    | some bJ=>simp[aK] at aN;subst aN;exact⟨q,Y⟩
   ·exact G e' (List.mem_of_getElem? ng)
  ·simp[execOp,h,Instr.mapUpdate,run_underlying c4.h,a2,bI,N,M,W,O,fw,jO,V]
def a7.gn{B}{I}{w}{b}{a}{κ}{H'}(f:a7 B I w H)(hu:bG H (.map b []) (.gn b a κ) H'):a7 B I w H':=
 f.pS hu (λ⟨g,⟨ct,dv,ba,hkeys,_⟩,CI⟩=>⟨g,⟨ct,dv,ba,λe l=>by
  have c:e.key∈ct.toList.map (·.key):=List.mem_map_of_mem l;rw[hkeys] at c;cases c⟩,CI⟩) λ_ h=>h
def aA.gn{p}{b}(f)(κ){H'}(hu:bG H (.map b []) (.gn b f κ) H')(h:aA c r P p ⟨env,H'⟩ Q):aA c r P p ⟨env,H⟩ Q:=λa w s=>by
 obtain⟨I,l,o,g,j⟩:=s.mem;exact h a w ⟨s.ds,s.size,I,l,o,g.gn hu,j⟩
def ki(v:Value)(i k:Nat):Value:=match v with
 | .slice (some a) _ _=>.pointer (some ⟨a.block,i*k,none⟩)
 | _=>undef
def ad.dX{t tb}{x y}{k n}{v}{cs}{m}{i:Int}{s r:Bool}[ht:eE P t k](h:o.op= .indexAddr t x y)(z:aO ρ x=some (s,.val v))(a:s=true)(hy:aO ρ y=some (r,.val (.int m i)))(g:r=true)(hm:br.row tb k v n cs∈H)(j:0<=i/\i<n):ad P H ρ o (.val (ki v i.toNat k)):=by
 refine .yx ck λB I w f B q=>?_;have C:=bZ (q.get cd z a);have A:=bZ (q.get cd hy g);obtain⟨b,c,l,rfl,_⟩:=br.wX aa (B _ hm);refine⟨.pointer (some ⟨b,0+i.toNat*k,none⟩),by simp[execOp,h,C,A,Fk ht.h b 0 n c m i j.1 j.2 w],?_⟩;rw[Nat.zero_add];exact .val _
def ad.gm{t tb}{x}{v}{n i m}{cs}{y}{g}[ht:cQ P t (false,m)](h:o.op= .load t x)(C:aO ρ x=some (g,.val (ki v i 1)))(G:g=true)(hm:.row tb 1 v n cs∈H)(hy:cs[i]? =some y):ad P H ρ o y:=by
 refine .yx ck λB I w f A E=>?_;have a:∃l:dj,l.length=n*1/\bU I w cs l:=by
  obtain⟨l,c,q,_⟩:=A _ hm;exact⟨l,c.1,q⟩
 obtain⟨l,M,q⟩:=a;have s:i<cs.length:=(List.getElem?_eq_some_iff.1 hy).1;have J:n≠0:=by have:=q.length;omega
 obtain⟨b,r,z,rfl,_,_,_,_,j⟩:=br.wX J (A _ hm);have B:=bZ (E.get cd C G);obtain⟨_,N,D,K,_⟩:=j;obtain⟨u,L,F⟩:=K.get (i:=i) (x:=y) (by rw[List.getElem?_append_left s];exact hy);refine⟨u,?_,F⟩;have e:ki (.slice (some ⟨b,0,none⟩) n r) i 1= .pointer (some ⟨b,i,none⟩):=by simp[ki]
 rw[e] at B;simp[execOp,h,B,Instr.loadAt,Instr.sureAddr,yz ht.h b i u w (by rw[jK D];simpa using L)]
def bG.Ct{B}{I}{w}{t k n}{v}{cs:bl}{H':br->aC}(hn:n≠0)(f:a7 B I w H)(hu:∀e,bG H (.row t k v n cs) e (H' e)):
  ∃b c a,v= .slice (some ⟨b,0,none⟩) n c/\n<=c/\c<=maxLen/\(cs++a).length=c*k/\cs.length=n*k/\a7 B I w (H' (.au b t (cs++a))):=by
 obtain⟨b,c,a,rfl,l,m,o,q,j⟩:=br.wX hn (f.ok _ (hu default).mem);exact⟨b,c,a,rfl,l,m,o,q,f.pS (hu _) (λ_=>j) (λx h=>h)⟩
def bP.row{f:FuncId}{t n i:Nat}{v:Value}{cs ds:bl}{pre post:bl}{H':br->aC}{F:aC->aC}{y:ab}(hF:∀H H2:aC,∀e e':br,bG H e e' H2->bG (F H) e e' (F H2))(aN:i<n)(hds:ds.length=cs.length)(hu:∀e,bG H (.row t 1 v n cs) e (H' e))
  {G:aC->aC} (fb:∀H H2:aC,∀e e':br,bG H e e' H2->bG (G H) e e' (G H2))
  (h:∀b cap more,v= .slice (some ⟨b,0,none⟩) n cap->bP P f (pre++.p b i::post) (F (H' (.au b t (cs++more)))) (λx jL=>x=y/\jL=G (H' (.au b t (ds++more)))) (λ_ _=>False))
  (Eo:∀e e',bG (H' e) e e' (H' e')) (hO:nh P f):
  bP P f (pre++.val (ki v i 1)::post) (F H) (λx jL=>x=y/\jL=G (H' (.row t 1 v n ds))) (λ_ _=>False):=by
 refine⟨hO,λB I w vs hw aW mI=>?_⟩;obtain⟨b,cap,more,rfl,ae,ak,aL,bo,cm⟩:=bG.Ct (H:=F H) (H':=λe=>F (H' e)) aa aW (λe=>hF _ _ _ _ (hu e));have e:ki (.slice (some ⟨b,0,none⟩) n cap) i 1= .pointer (some ⟨b,i,none⟩):=by simp[ki]
 rw[e] at mI;refine ((h b cap more rfl).2 B I w vs hw cm mI).mono λe' w' bK=>?_;obtain⟨c7,jL,oc,wT,y7,bK⟩:=bK;rcases bK with⟨u,x,rfl,aK,rfl,rfl⟩ | ⟨u,x,rfl,_,j8⟩
 ·refine⟨c7,_,oc,wT,y7.pS (fb _ _ _ _ (Eo (.au b t (ds++more)) (.row t 1 (.slice (some ⟨b,0,none⟩) n cap) n ds))) (λba=>br.Gl ae ak (by simp only[List.length_append] at*;omega) aa ba) (λx aK=>aK),.inl ⟨u,x,rfl,aK,rfl,rfl⟩⟩
 ·exact j8.elim
def bP.w8{f}{xs}{q c}{E}(h:bP P f xs H q E)(A:∀y o,(∃B I w,a7 B I w o)->q y o->c y o):bP P f xs H c E:=by
 refine⟨h.1,λB I w s z r j=>((h.2 B I w s z r j).mono λe' D g=>?_)⟩;obtain⟨t,C,m,l,a,g⟩:=g;exact⟨t,C,m,l,a,g.imp (λ⟨v,x,ae,ak,aL⟩=>⟨v,x,ae,ak,A _ _ ⟨_,_,_,a⟩ aL⟩) id⟩
def aI.M7{f}{xs}{k}(h:aI P f xs (.aj k []))(H):bP P f xs H (λy z=>∃a c,y= .val (.slice a 0 c)/\z=H) (λ_ _=>False):=by
 have h:=h H;refine⟨h.1,λB I w vs D q j=>((h.2 B I w vs D q j).mono λe' w' g=>?_)⟩;obtain⟨t,E,o,m,l,g⟩:=g;refine⟨t,E,o,m,l,?_⟩;rcases g with⟨u,x,ae,aK,rfl,rfl⟩ | g
 ·refine .inl ⟨u,.val u,ae,.val u,?_⟩;cases aK with
  | dQ=>exact⟨_,_,rfl,rfl⟩
  | aj _ _ b off len s v=>cases v;exact⟨_,_,rfl,rfl⟩
 ·exact .inr g
def ad.CJ{x}{t}{m n}{v:Value}{g:Bool}[ht:eE P t m](l:∃a c,v= .slice a n c)(h:o.op= .call {callee:=.builtin .len,args:=#[x],argTypes:=#[t]})(f:aO ρ x=some (g,.val v))(j:g=true):ad P H ρ o (.i n):=by
 obtain⟨a,c,rfl⟩:=l;exact .Bo h f j
def ad.XA{t r}{x y}{cs}{m l}[ht:M4 P t](h:o.op= .binOp .neq t x y r)(q:aO ρ x=some (m,.ptr cs))(a:m=true)(hy:aO ρ y=some (l,.val (.pointer none)))(c:l=true):ad P H ρ o (.b true):=by
 refine .same ck λI w f g=>?_;have j:=g.get cd q a;have s:=bZ (g.get cd hy c);generalize v:f.eval x=u at j;cases j with
 | ptr _ b z A=>exact⟨.bool true,by simp[execOp,h,v,s,eqGuard,run_neq_pointer_nil w t (some ⟨b,z,none⟩) ht.h],.val _⟩
def bP.heap{f}{xs}{s m}{E}(h:bP P f xs H s E)(C:∀y r,s y r->∃o,m y o/\∀B I w,a7 B I w r->a7 B I w o):bP P f xs H m E:=by
 refine⟨h.1,λB I w A D z q=>((h.2 B I w A D z q).mono λe' G c=>?_)⟩;obtain⟨t,F,l,j,g,c⟩:=c;rcases c with⟨v,x,ae,ak,aL⟩ | c
 ·obtain⟨o,a,b⟩:=C _ _ aL;exact⟨t,o,l,j,b _ _ _ g,.inl ⟨v,x,ae,ak,a⟩⟩
 ·exact⟨t,F,l,j,g,.inr c⟩
def ai.M8{t tb n i}{p z}{v}{y}{S g}{cs ds:bl}{H':br->aC}{agg:Bool}[ht:cQ P t (agg,1)](K:o.guard=none)(a6:o.dst=none)(h:o.op= .store t p z)
  (N:aO (aE env) p=some (S,.val (ki v i 1))) (x:S=true) (X:aO (aE env) z=some (g,y)) (av:g=true) (ba:fa y) (ae:dG (cJ y)) (G:Nat.beq (cJ y).length 1)
  (hu:∀e,bG H (.row tb 1 v n cs) e (H' e)) (m:∀e R,bG (H' e) e R (H' R)) (aN:i<n) (T:cs.length=n) (hds:∀f,(cs++f).take i++cJ y++(cs++f).drop (i+1)=ds++f) (a0:ds.length=cs.length)
  (next:ai c r P ops rest ⟨env,H' (.row tb 1 v n ds)⟩ Q):ai c r P ops (o::rest) ⟨env,H⟩ Q:=λa w s=>by
 obtain⟨I,hw,he,Z,bd⟩:=s.mem;obtain⟨b,V,f,j,Y,U,fc,jP,F⟩:=bG.Ct aa Z hu;have D:ki v i 1= .pointer (some ⟨b,i,none⟩):=by simp[ki,j]
 rw[D] at N;refine ai.gb (tb:=tb) (cs:=cs++f) (ds:=ds++f) K a6 h N x X av ba ae G (m _ _) (Nat.ble_eq_true_of_le (by rw[List.length_append];omega)) (hds f) (λkJ W q=>?_) a w ⟨s.ds,s.size,I,hw,he,F,bd⟩;obtain⟨c7,C,B,A,J⟩:=q.mem;refine next kJ W ⟨q.ds,q.size,c7,C,B,A.pS (m _ _) (λba=>?_) (λx M=>by rw[j] at M;exact M),J⟩;rw[j];exact br.Gl Y U (by simp only[List.length_append] at*;omega) aa ba
def XB{t m}(ht:uB P t=some (m,1))(b o n)(f)(c:n<=m)(w):(Instr.sliceAt t (.pointer (some ⟨b,o,none⟩)) none (some (.int f (n:Int))) none).run P w= .ok (.slice (some ⟨b,o,none⟩) n m) w:=by
 unfold uB at ht;split at ht
 ·rename_i h e g;cases tm:P.info? e with
  | none=>simp[tm] at ht
  | some a=>
   simp[tm,Option.map_some,Option.some.injEq,Prod.mk.injEq] at ht;obtain⟨rfl,_⟩:=ht;have fm:(Addr.add ⟨b,o,none⟩ 0)=⟨b,o,none⟩:=rfl;simp[Instr.sliceAt,Instr.sureAddr,run_underlying g,Instr.sliceBounds,Instr.sliceBound,asIntOf,sizeOf,typeInfo,tm,c,fm]
 ·cases ht
def zx{a:Type}(cs:List a):(cs.map λx=>[x]).flatten=cs:=by
 induction cs with
 | nil=>rfl
 | cons x r c=>rw[List.map_cons,List.flatten_cons,c];rfl
def ad.XC{t}{x y}{cs}{n m:Nat}{q A}{j}[ht:uE P t (m,1)](h:o.op= .slice t x none (some y) none)(B:aO ρ x=some (q,.ptr cs))(a:q=true)(hy:aO ρ y=some (A,.val (.int j (n:Int))))(g:A=true)(v:n<=m)(E:m<=maxLen)(I:n<=cs.length):
  ad P H ρ o (.aj 1 ((cs.take n).map λc=>[c])):=by
 refine .same ck λI w f l=>?_;have s:=l.get cd B a;have C:=bZ (l.get cd hy g);generalize F:f.eval x=u at s;cases s with
 | ptr _ b r D=>
  refine⟨.slice (some ⟨b,r,none⟩) n m,by simp[execOp,h,F,C,XB ht.h b r n j v w],?_⟩;refine .aj _ _ _ _ _ _ (by rw[List.length_map,List.length_take];omega) v E (nq _ _ (λe G=>by obtain⟨z,_,rfl⟩:=List.mem_map.1 G;rfl) (by rw[zx];exact D.take n))
end
def ee.XD{X}{P}{H}{ρ}{o}{f}{ys}{z:ab}{F:Value->aC}{H':Value->aC}{x:Value->ab}(q:gG P ρ o f ys)(h:∀B,eM B P f ys H (λy l=>∃g,y= .as z g/\l=F g) (λ_ _=>False))(C:∀v,H' v=F v)(m:∀v,x v= .as z v):ee X P H H' x ρ o:=λB I w r a K t s=>
 (Cm (c:=⟨B,I,w,0,[]⟩) q (h B) K t s).mono (λv M G=>by
  obtain⟨D,L,y,A,J,E,j,g,rfl,rfl⟩:=G;have e:g=v:=by cases j;rfl
  subst e;exact⟨D,A,J,by rw[C];exact E,by rw[m];exact j⟩) (λ_ _ h=>h.elim)
section
variable{P:Program}{H:aC}{ρ:Nat->Option ab}{o:Oper}
def ad.XE{s z}{t tx e k F gW}{els news}{q}{y}{g1 g2}[df:fi P t (e,k,F)][ka:eE P tx gW](h:o.op= .call {callee:=.builtin .append,args:=#[s,z],argTypes:=#[t,tx]})
  (b4:aO ρ s=some (g1,.as (.aj k els) (.slice q els.length els.length))) (O:g1=true) (aD:aO ρ z=some (g2,y)) (T:g2=true) (hy:aq y (.aj k news)) (ae:news.all dG=true) (X:news≠ []) (ba:(els.length+news.length)*F<=140737488355328) (ac:els.length+news.length<=9223372036854775807):ad P H ρ o (.aj k (els++news)):=by
 intro B I w r a ni hw aW _ bb;obtain⟨i,zv,hu,aN,l0,E,Y,tg,iy⟩:=oX df.h;obtain⟨e',_,U,_⟩:=nY ka.h;obtain⟨uw,l⟩:a.eval s= .slice q els.length els.length/\Rel I w (.aj k els) (.slice q els.length els.length):=by
  have af:=bb.get gF b4 O;generalize a.eval s=u at af;cases af with | as _ _ V=>exact⟨rfl,V⟩
 have rX:=hy _ _ _ (bb.get gF aD T);obtain⟨us,aB,fN⟩:=uF (P:=P) (tx:=tx) U rX ae;rw[<-E] at fN;have Q:=rX.yF;have N:=l.yF;have a9:0<news.length:=List.length_pos_iff.2 X;obtain⟨olds,C,a0⟩:∃olds:dj,bU I w els.flatten olds/\(Builtin.firstCells i.size els.length (.slice q els.length els.length)).run P w.drew= .ok olds.toArray w.drew:=by
  generalize bd:Value.slice q els.length els.length=v at l;cases l with
  | dQ _ a c=>
   cases bd;refine⟨[],.nil,?_⟩;cases q with
   | none=>simp[Builtin.firstCells]
   | some q=>exact run_firstCells_some w.drew i.size 0 q 0 0 [] aT aT
  | aj _ _ b off len gJ bq a1 hm j8=>
   cases bd;obtain⟨vs,gI,fF,fc⟩:=j8.values;exact⟨vs,gI,run_firstCells_some w.drew i.size els.length _ _ _ vs (by rw[fF,E]) (λj v cp=>fc j v cp)⟩
 have A:els.length<els.length+news.length:=by omega
 have S:Builtin.nextslicecap (els.length+news.length) els.length*i.bytes<=281474976710656:=growslice_fits A (by rw[Y];exact ba);have bK:=run_append_grow_src (P:=P) w t tx o.type e i zv hu aN l0 q els.length els.length olds a0 (a.eval z) news.length us fN A aa S;generalize fb:grownCap w (els.length+news.length) els.length e=G at bK;have Z:els.length+news.length<=G:=by rw[<-fb];exact grownCap_ge w _ _ e
 have W:G<=maxLen:=by rw[<-fb];exact grownCap_le_maxLen w _ _ e ia
 obtain⟨bI,a2,a3,a4⟩:=cr.ux hw.drew e ((olds++us).toArray++Builtin.zeroCells zv.cells (G - (els.length+news.length)));have eL:er I w I w.drew:=⟨λ_ _ x=>x,λ_ _ _=>rfl⟩;have a5:=lA (I:=I) (w:=w.drew) (Builtin.zeroCells zv.cells (G - (els.length+news.length))).toList;have m:=a4 ((els.flatten++news.flatten)++(Builtin.zeroCells zv.cells (G - (els.length+news.length))).toList.map .val) (by simpa using ((C.bw eL).append (aB.bw eL)).append a5);have J:=m.take (els.flatten++news.flatten).length;rw[List.take_left] at J;have K:∀x∈els++news,x.length=k:=λx V=>(List.mem_append.1 V).elim (N x) (Q x);refine .e4 ck (pJ h a w uv) ⟨_,bI,(.trans ⟨eL.ix,eL.cell,(Below.refl _ _).drew⟩ a2),a3 _ aW.drew,.aj _ _ _ _ _ _ (by rw[List.length_append]) Z W (nq (els++news) 0 K (by rw[List.flatten_append];exact J))⟩
end
section
variable{c:Ctx}{r:Option Nat}{P:Program}{ops:Array Oper}{rest:cg}{o:Oper}{env:List (Nat×ab)}{H:aC}{Q:Exit->Act->World->Prop}{d:Nat}
def ai.clip{t}{x y z}{k}{els}{N V X}{ky kz}[ht:eE P t k](F:o.guard=none)(a6:o.dst=some d)(hn:Nat.blt d c.n)(h:o.op= .slice t x none (some y) (some z))(aK:aO (aE env) x=some (N,.aj k els))(B:N=true)
  (hy:aO (aE env) y=some (V,.val (.int ky (els.length:Int)))) (C:V=true) (aD:aO (aE env) z=some (X,.val (.int kz (els.length:Int)))) (G:X=true)
  (next:∀f,ai c r P ops rest ⟨(d,.as (.aj k els) (.slice f els.length els.length))::env,H⟩ Q):ai c r P ops (o::rest) ⟨env,H⟩ Q:=λa w s=>by
 refine wpListIn_plain F λK eX=>?_;obtain⟨I,hw,he,aW,T⟩:=s.mem;have A:=T.ops o;have U:=A.get cd aK B;have fF:=bZ (A.get cd hy C);have fc:=bZ (A.get cd aD G);obtain⟨e,a0,J,D,bD⟩:=nY ht.h;obtain⟨f,l,m⟩:∃f,(execOp a.eval o).run P w= .ok (.value (.slice f els.length els.length)) w/\Rel I w (.aj k els) (.slice f els.length els.length):=by
  generalize Y:a.eval x=u at U;have run:∀(f:Option Addr) (n g:Nat),n=els.length->n<=g->(Instr.sliceAt t (.slice f n g) none (some (.int ky (els.length:Int))) (some (.int kz (els.length:Int)))).run P w= .ok (.slice (if n=0 then f else f.map (·.add (0*k))) n n) w:=by
   intro f n g hn q;subst hn;have af:(0:Int)<=(els.length:Int):=Int.natCast_nonneg _;simp[Instr.sliceAt,Instr.slice,run_underlying J,Instr.sliceBounds,Instr.sliceBound,asIntOf,sizeOf,typeInfo,D,bD,q]
  cases U with
  | aj _ _ b off len g bq q Z j8=>
   subst bq;have:=run (some ⟨b,off,none⟩) els.length g rfl q;have fm:(if els.length=0 then some (⟨b,off,none⟩:Addr) else (some (⟨b,off,none⟩:Addr)).map (·.add (0*k)))=some ⟨b,off,none⟩:=by split <;> simp[Addr.add]
   rw[fm] at this;exact⟨some ⟨b,off,none⟩,by simp[execOp,h,Y,fF,fc,this],.aj _ _ _ _ _ _ rfl (Nat.le_refl _) (Nat.le_trans q Z) j8⟩
  | dQ _ f g=>
   have:=run f 0 g rfl (Nat.zero_le _);rw[if_pos rfl] at this;refine⟨f,?_,.dQ _ _ _⟩;show _=Result.ok (Next.value (.slice f 0 0)) w;simp only[execOp,h,Y,fF,fc,Option.map_none,Option.map_some,Sem.run_bind,this,Result.andThen_ok,Sem.run_pure]
 refine dw.e4 (R:=λv w'=>v= .slice f els.length els.length/\w'=w) (E:=λ_ _=>False) ck l ⟨rfl,rfl⟩ K Q ?_ (λ_ _ h=>h.elim);rintro v w' ⟨rfl,rfl⟩;refine eX _ _ (next f _ _ ⟨iS,iR,I,hw,he,aW,?_⟩);have:=T.put (dst:=some d) (x:=.as (.aj k els) (.slice f els.length els.length)) (v:=.slice f els.length els.length) oR (.as _ _ m);rw[a6];exact this
end
section
variable{P:Program}{H:aC}{ρ:Nat->Option ab}{o:Oper}
def qQ.M9{P}{o}{H H'}{ρ}{t tb}{p z}{y y'}{lC g}{b off}{cs ds}{agg}[ht:cQ P t (agg,1)](h:o.op= .store t p z)
  (bV:aO ρ p=some (lC,.p b off)) (T:lC=true) (aD:aO ρ z=some (g,y)) (av:g=true) (cj:∀B I w u,a7 B I w H->Rel I w y u->u.oneCell'=true/\Rel I w y' u)
  (hu:bG H (.au b tb cs) (.au b tb ds) H') (hfit:Nat.ble (off+([y']).length) cs.length) (hds:cs.take off++[y']++cs.drop (off+([y']).length)=ds):qQ P H H' ρ o:=by
 intro B I w r a hw aW bb;subst hds;have R:nZ P t=some (agg,([y']).length):=by exact ht.h
 have U:=bZ (bb.get cd bV T);obtain⟨gI,fF⟩:=cj B I w _ aW (bb.get cd aD av);have N:(a.eval z).cells.toList= [a.eval z]:=by
  generalize a.eval z=u at gI;cases u <;> simp[Value.oneCell',Value.cells] at*
 have E:bU I w [y'] (a.eval z).cells.toList:=by rw[N];exact .cons _ _ _ _ fF .nil
 obtain⟨eD,D,m,f,M⟩:=aW.ok _ hu.mem;have K:∀u∈(a.eval z).cells.toList,u.oneCell'=true:=by rw[N];simpa using gI
 have j:(a.eval z).cells.toList.length=([y']).length:=E.length;have S:D.size=cs.length:=by have:=f.length;simpa using this
 have q:off+0+(a.eval z).cells.toList.length<=D.size:=by
  have:=Nat.le_of_ble_eq_true hfit;rw[j,S];omega
 have l:=run_storeCells_at P b off tb (a.eval z).cells.toList 0 D w m q K;obtain⟨_,Y⟩:=wD R w;generalize J:(D.toList.take (off+0)++(a.eval z).cells.toList++D.toList.drop (off+0+(a.eval z).cells.toList.length)).toArray=cur at l;have A:(a.eval z).cells.size=([y']).length:=by simpa using j
 have C:(execOp a.eval o).run P w= .ok .skip (w.setRow b cur):=by
  simp[execOp,h,Instr.storeAt,U,Instr.sureAddr,storeVar,Y,A,l]
 have c:er I w I (w.setRow b cur):=⟨λ_ _ x=>x,λdL G O=>by
  have v:dL≠b:=λe=>by subst e;exact M G O
  exact World.cell?_of_block (a:=⟨dL,G,none⟩) (setRow_other w b dL cur v)⟩
 have F:Ext B I w I (w.setRow b cur):=⟨c.ix,c.cell,⟨rfl,rfl,rfl,aT,λk V=>setRow_other w b k cur aa⟩⟩;have X:bY B I (w.setRow b cur):=⟨wv,λdL G O=>by rw[c.cell dL G O];exact hw.there dL G O⟩;have s:bU I w (cs.take off++[y']++cs.drop (off+([y']).length)) cur.toList:=by
  rw[<-J];simp only[Nat.add_zero,j];exact ((f.take off).append E).append (f.drop _)
 have W:a7 B I (w.setRow b cur) H':=by
  refine aW.fE hu c (λk V v=>setRow_other w b k cur (λe=>v wB)) (λ_ _ x=>.inl x) ⟨eD,cur,setRow_heap w b D cur tb (0,0) m,s.bw c,M⟩ (λk V=>.inl V)
 exact dw.uz ck C ⟨I,X,F,W⟩
def XF{B}{I}{w}{tx e' t k n}{v}{cs}(m:P.underlying tx=some (.slice e'))(h:br.ok B I w (.row t k v n cs))(hn:n≠0)(o:dG cs):∃a,bU I w cs a/\Src P k tx v n a w:=by
 obtain⟨b,c,f,rfl,_,_,C,r,A,z,q,l,_⟩:=br.wX hn h;obtain⟨a,s,e,aB,x⟩:=l.qP;refine⟨a,aB,Src.ofSlice w m _ _ c a (by rw[aB.length,r]) (λj u g=>?_) (uC aB o)⟩;have:(⟨b,0,none⟩:Addr).add j=⟨b,0+j,none⟩:=by unfold Addr.add;split <;> simp_all
 rw[this,jK q,Nat.zero_add, <-Array.getElem?_toList,e,List.getElem?_append_left (List.getElem?_eq_some_iff.1 g).1];exact g
def ad.Na{s z}{t tx e l gW tb n}{cs}{v}{X}{g1 Y}[df:fi P t (e,1,l)][ka:eE P tx gW](h:o.op= .call {callee:=.builtin .append,args:=#[s,z],argTypes:=#[t,tx]})
  (b4:aO ρ s=some (g1,X)) (D:g1=true) (J:aq X .fm) (aD:aO ρ z=some (Y,.val v)) (Q:Y=true) (hm:.row tb 1 v n cs∈H) (hn:cs.length=n) (M:n≠0) (ae:dG cs) (ba:n*l<=140737488355328) (a0:n<=9223372036854775807):ad P H ρ o (.aj 1 (cs.map λc=>[c])):=by
 intro B I w r a ni hw aW j W;obtain⟨i,q,hu,aN,U,F,E,a5,fw⟩:=oX df.h;obtain⟨e',_,S,_⟩:=nY ka.h;obtain⟨g,uw⟩:∃g,a.eval s= .slice g 0 0:=by
  have V:=J _ _ _ (W.get gF b4 D);generalize a.eval s=u at V;cases V;exact⟨_,rfl⟩
 have A:=bZ (W.get gF aD Q);obtain⟨us,aB,fN⟩:=XF (P:=P) (tx:=tx) S (aW.ok _ (j _ hm)) M ae;rw[<-F, <-A] at fN;have R:(Builtin.firstCells i.size 0 (.slice g 0 0)).run P w.drew= .ok (#[]:Array Value) w.drew:=by
  cases g with
  | none=>simp[Builtin.firstCells]
  | some g=>exact run_firstCells_some w.drew i.size 0 g 0 0 [] aT aT
 have O:Builtin.nextslicecap (0+n) 0*i.bytes<=281474976710656:=growslice_fits aa (by rw[E,Nat.zero_add];exact ba);have bK:=run_append_grow_src (P:=P) w t tx o.type e i q hu aN U g 0 0 [] R (a.eval z) n us fN aa aa O;simp[Nat.zero_add,List.nil_append] at bK;generalize Z:grownCap w n 0 e=G at bK;have L:n<=G:=by rw[<-Z];exact grownCap_ge w n 0 e
 have C:G<=maxLen:=by rw[<-Z];exact grownCap_le_maxLen w n 0 e ia
 obtain⟨bI,a2,a3,a4⟩:=cr.ux hw.drew e (us.toArray++Builtin.zeroCells q.cells (G - n));have K:er I w I w.drew:=⟨λ_ _ x=>x,λ_ _ _=>rfl⟩;have T:=lA (I:=I) (w:=w.drew) (Builtin.zeroCells q.cells (G - n)).toList;have f:=a4 (cs++(Builtin.zeroCells q.cells (G - n)).toList.map .val) (by simpa using (aB.bw K).append T);have m:=f.take cs.length;rw[List.take_left] at m;exact .e4 ck (pJ h a w uv) ⟨_,bI,(.trans ⟨K.ix,K.cell,(Below.refl _ _).drew⟩ a2),a3 _ aW.drew,.aj _ _ _ _ _ _ (by rw[List.length_map];exact hn) L C (nq _ 0 (λx aK=>by obtain⟨y,_,rfl⟩:=List.mem_map.1 aK;rfl) (by rw[zx];exact m))⟩
def ad.XG{t s}{x y}{tb k n}{v}{cs}{q m}(h:o.op= .binOp .eql t x y s)(ht:pH P t)(r:aO ρ x=some (q,.val v))(c:q=true)(hy:aO ρ y=some (m,.val (.slice none 0 0)))(g:m=true)(hm:.row tb k v n cs∈H)(hn:n≠0):ad P H ρ o (.b false):=by
 refine .yx ck λB I w a A l=>?_;obtain⟨b,f,j,rfl,_⟩:=br.wX hn (A _ hm);have B:=bZ (l.get cd r c);have z:=bZ (l.get cd hy g);have:=run_equal_slice_nil (P:=P) w t _ (some ⟨b,0,none⟩) n f (Fj ht);exact⟨.bool false,by simp[execOp,h,B,z,eqGuard,binOp,this],.val _⟩
def ad.CK{x y}{t e f}(n:Nat){v}{q C}{G E:Int}{g1 F:Bool}[R:tr P t (e,f,v)](h:o.op= .makeSlice t x y)
  (g:aO ρ x=some (g1,.val (.int q G))) (j:g1=true) (hy:aO ρ y=some (F,.val (.int C E))) (A:F=true) (s:G=(n:Int)) (m:E=(n:Int)) (Z:f*n<=281474976710656) (hm:n<=maxLen):ad P H ρ o (.aj 1 (List.replicate n [.val v])):=by
 subst s;subst m;intro B I w r a Y V S _ D;obtain⟨i,z,W,X,N,K,wk,l⟩:=Gi R.h;have L:a.eval x= .int q (n:Int):=bZ (D.get cd g j);have Q:a.eval y= .int C (n:Int):=bZ (D.get cd hy A);have c:=run_make (P:=P) w t e i z W X N q C (n:Int) (n:Int) aa aa E0 (by simp[maxLen] at hm;omega);rw[l,K,Nat.mul_one,Int.toNat_natCast,Gj] at c;have ae:bU I w (List.replicate n (.val v)) (List.replicate n v):=by have:=lA (I:=I) (w:=w) (List.replicate n v);rwa [List.map_replicate] at this
 obtain⟨T,U,M,J⟩:=cr.ux V e (List.replicate n v).toArray;have O:(List.replicate n [ab.val v]).flatten=List.replicate n (.val v):=by
  have:=zx (List.replicate n (ab.val v));rwa [List.map_replicate] at this
 exact dw.e4 ck (v:=.slice (some ⟨w.heap.size,0,none⟩) n n) (w':=w.alloc (.cells (List.replicate n v).toArray e)) (by simp[execOp,h,L,Q,c]) ⟨_,T,U,M _ S,.aj _ _ _ _ _ _ aT (Nat.le_refl _) hm (nq _ 0 (λx g=>by rw[List.eq_of_mem_replicate g];rfl) (by rw[O];exact J _ nf))⟩
end
section
variable{c:Ctx}{r:Option Nat}{P:Program}{ops:Array Oper}{l rest:cg}{o:Oper}{env:List (Nat×ab)}{H:aC}{Q:Exit->Act->World->Prop}{d:Nat}
end
section
variable{P:Program}{H:aC}{ρ:Nat->Option ab}{o:Oper}
end
end Go.Eng

