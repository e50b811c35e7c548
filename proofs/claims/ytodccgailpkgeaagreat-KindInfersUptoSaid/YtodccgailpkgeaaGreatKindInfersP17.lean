/- A part of the proof. No condition. -/
import Derived.Test.YtodccgailpkgeaaGreatKindInfersP16
set_option linter.defProp false
set_option maxHeartbeats 1000000
set_option linter.unusedVariables false
set_option linter.unusedSimpArgs false
set_option maxRecDepth 10000
namespace Go.Eng.dN
open Go.Eng.Fc
variable{m x c:Nat}{k:Int}{l kinds a b:ak}{α:Type}
structure GT where
 t:cI
 ch:Bool
def pe(k:Int)(more:Nat):Int:=((k.toNat ||| more:Nat):Int)
def hc(l:ak)(i:Nat)(more:Nat):ak:=l.set i (pe (l.getD i default) more)
def kK(l:ak)(i:Nat)(more:Nat):Bool:=pe (l.getD i default) more !=l.getD i default
def GT.bU(g:GT)(i:Nat)(more:Nat):GT:=⟨{g.t with nodes:=hc g.t.nodes i more},g.ch || kK g.t.nodes i more⟩
def GT.eL(g:GT)(i:Nat)(more:Nat):GT:=⟨{g.t with av:=hc g.t.av i more},g.ch || kK g.t.av i more⟩
def GT.ic(g:GT)(m i:Nat)(more:Nat):GT:=⟨{g.t with params:=g.t.params.set m (hc (g.t.params.getD m default) i more)},g.ch || kK (g.t.params.getD m default) i more⟩
def GT.reach(g:GT)(m:Nat):GT:=⟨{g.t with bz:=g.t.bz.set m true},g.ch || !g.t.bz.getD m default⟩
def fH(p:Prog)(c:Nat):ak:=if eH p c then cu p c else []
def p5(p:Prog)(c:Nat)(s:Int):Nat:=if((if eH p c then nv p c else []).map (·.1)).contains s then 2 else 4
def GT.begin(p:Prog)(c:Nat)(g:GT)(s:Int):GT:=g.eL s.toNat (p5 p c s)
def su(p:Prog)(k:Nat)(s:Int):Bool:=(gf k).any λc=>dT p c s
def vA(p:Prog)(n c:Nat)(g:GT):GT:=(fH p c).foldl (GT.begin p c) (g.bU n (2^c))
def e8(t:cI)(i:Nat):ak:=if i<t.params.length then t.params.getD i default else if i=t.params.length then t.nodes else t.av
def GT.nz(g:GT)(i j x:Nat):GT:=if i<g.t.params.length then g.ic i j x else if i=g.t.params.length then g.bU j x else g.eL j x
def hH(c to i:Nat)(g:GT)(j:Nat):GT:=if((e8 g.t i).getD j default).toNat.testBit c then g.nz i j (2^to) else g
def eB(c to:Nat)(g:GT)(i:Nat):GT:=(List.range (e8 g.t i).length).foldl (hH c to i) g
def GT.kk(c to:Nat)(g:GT):GT:=(List.range (g.t.params.length+2)).foldl (eB c to) g
def iY(p:Prog)(n to:Nat)(g:GT)(c:Nat):GT:=if c<3 then g else (fH p to).foldl (λg s=>if dT p c s then g else GT.begin p to g s) (GT.kk c to (g.bU n (2^to)))
def pf(p:Prog)(n to:Nat)(k:Nat)(g:GT):GT:=(gf k).foldl (iY p n to) g
def sv(M:jm):Bool:=M.kind==1 || M.kind==4
def nA(m:Nat)(got:ak)(g:GT):GT:=(List.range got.length).foldl (λg k=>g.ic m k (got.getD k default).toNat) g
def mR(p:Prog)(n:Nat)(g:GT)(x:Int×ak):GT:=
 let g1:=nA x.1.toNat x.2 (g.reach x.1.toNat)
 let M:=p.methods.getD x.1.toNat default
 if sv M then g1.bU n (g1.t.nodes.getD M.node.toNat default).toNat else g1
def sw(p:Prog)(n:Nat)(gen:Int)(kinds:ak)(g:GT):GT:=(eI p g.t gen kinds).foldl (mR p n) g
def jO(p:Prog)(ah:Nat->Nat->Bool)(n m:Nat)(g:GT)(o:Nat):GT:=
 let M:=p.methods.getD m default;let N:=p.methods.getD o default
 if g.t.bz.getD o default && N.gen==M.gen && ((N.kind==M.kind && ah m o) || (M.kind==4 && N.kind==1)) then g.bU n (g.t.nodes.getD N.node.toNat default).toNat else g
def sx(p:Prog)(ah:Nat->Nat->Bool)(n m:Nat)(g:GT):GT:=(List.range p.methods.length).foldl (jO p ah n m) g
def dy(cN:ak)(i:Nat):Nat:=(cN.getD i default).toNat
def tT(p:Prog)(n:Nat)(s:Int)(mQ gr:Nat)(g:GT):GT:=if su p mQ s then (g.bU n gr).eL s.toNat gr else g.bU n gr
def eF(p:Prog)(ah:Nat->Nat->Bool)(y:hi)(n:Nat)(env:ak)(m:Int)(cN:ak)(g:GT):GT:=
 if y.op=1\/(12<=y.op/\y.op<=16) then g.bU n 2
 else if y.op=2 then g.bU n 4
 else if y.op=3 then g.bU n (env.getD y.n.toNat default).toNat
 else if y.op=4 then if su p (dy cN 0) y.n then g.bU n (g.t.av.getD y.n.toNat default).toNat else g
 else if y.op=6 then vA p n y.n.toNat g
 else if y.op=7 then tT p n y.n (dy cN 0) (dy cN 1) g
 else if y.op=8 then pf p n y.n.toNat (dy cN 0) g
 else if y.op=9\/y.op=11 then g.bU n (dy cN 1)
 else if y.op=10 then g.bU n (dy cN 1 ||| dy cN 2)
 else if y.op=17 then g.bU n (dy cN 0)
 else if y.op=5 then sw p n y.n cN g
 else if y.op=18 then if m<0 then g else sx p ah n m.toNat g
 else g
def jP(run:Int->ak->GT->GT)(y:hi)(env:ak):Nat->ak->GT->GT
 | _,[],g=>g
 | i,k::r,g=>jP run y env (i+1) r (run k (if y.op=9/\i=1 then env++[g.t.nodes.getD (y.kids.getD 0 default).toNat default] else env) g)
def mb(t:cI)(y:hi):ak:=y.kids.map λk=>t.nodes.getD k.toNat default
def fQ(p:Prog)(ah:Nat->Nat->Bool)(m:Int):Nat->Int->ak->GT->GT
 | 0,_,_,g=>g
 | f+1,n,env,g=>let y:=js p n;let g1:=jP (fQ p ah m f) y env 0 y.kids g;eF p ah y n.toNat env m (mb g1.t y) g1
def kL(p:Prog)(ah:Nat->Nat->Bool)(g:GT)(m:Nat):GT:=if g.t.bz.getD m default then fQ p ah m 13 (p.methods.getD m default).node (g.t.params.getD m default) g else g
def ft(p:Prog)(ah:Nat->Nat->Bool)(t:cI):GT:=fQ p ah (-1) 13 p.main [] ((List.range p.methods.length).foldl (kL p ah) ⟨t,false⟩)
def nB(p:Prog)(ah:Nat->Nat->Bool):Nat->cI->cI
 | 0,t=>t
 | k+1,t=>if(ft p ah t).ch then nB p ah k (ft p ah t).t else t
def fo(p:Prog)(x:Nat):Prop:=x<2^aJ p/\x.testBit 0=false
structure bf(p:Prog)(t:cI):Prop where
 ho:t.bz.length=p.methods.length
 pl:t.params.length=p.methods.length
 nl:t.nodes.length=p.nodes.length
 ai:(t.av.length:Int)=p.av
 jM:∀i,i<p.methods.length->((t.params.getD i default).length:Int)=p.cT.getD (p.methods.getD i default).gen.toNat default
 kf:∀l∈t.params,∀k∈l,ct (aJ p) k=true
 nb:∀k∈t.nodes,ct (aJ p) k=true
 ff:∀k∈t.av,ct (aJ p) k=true
def ac1{p}{t}:iV p t=true↔bf p t:=by
 simp only[iV,Bool.and_eq_true,decide_eq_true_eq,List.all_eq_true,List.mem_range,tB,beq_iff_eq];constructor
 ·rintro⟨⟨⟨⟨⟨⟨l,h⟩,j⟩,o⟩,c⟩,m⟩,g⟩;refine⟨l,h,j,o,λi a=>(c i aa).1,λl r k f=>?_,m,g⟩;obtain⟨i,a,rfl⟩:=List.getElem_of_mem r;have:=(c i a).2;rw[List.getD_eq_getElem?_getD,List.getElem?_eq_getElem a] at this;exact this k f
 ·rintro⟨l,h,j,o,c,m,g,q⟩;exact⟨⟨⟨⟨⟨⟨l,h⟩,j⟩,o⟩,λi a=>⟨c i aa,λk f=>m _ (bI a) k f⟩⟩,g⟩,q⟩
def hT:ct m k=true↔k=(k.toNat:Int)/\k.toNat<2^m/\k.toNat.testBit 0=false:=by
 refine⟨tN,λ⟨a,ao,aV⟩=>?_⟩;simp[ct,Bool.and_eq_true,decide_eq_true_eq];rw[Nat.testBit_zero] at aV;simp at aV;refine⟨lz,?_⟩;rw[a];exact_mod_cast ao
def QP{p}(h:ct (aJ p) k):fo p k.toNat:=(hT.1 h).2
def vB(p):fo p 0:=⟨Nat.pow_pos c8,rfl⟩
def xC{p}{x y}(a:fo p x)(hy:fo p y):fo p (x ||| y):=⟨Nat.or_lt_two_pow a.1 hy.1,by rw[Nat.testBit_or,a.2,hy.2];rfl⟩
def km{p}(f:1<=c)(a:c<aJ p):fo p (2^c):=⟨Nat.pow_lt_pow_right c8 a,by rw[Nat.testBit_two_pow];simp;omega⟩
def ac2{p}(a:ct (aJ p) k)(c:fo p x):ct (aJ p) (pe k x)=true:=hT.2 ⟨rfl,xC (QP a) c⟩
def mc{p}(h:∀k∈l,ct (aJ p) k=true)(i):fo p (l.getD i default).toNat:=by
 by_cases a:i<l.length
 ·exact QP (h _ (bI a))
 ·rw[List.getD_eq_getElem?_getD,List.getElem?_eq_none aa];exact vB p
def kM(l)(i x):(hc l i x).length=l.length:=List.length_set
def IN{p}(h:∀k∈l,ct (aJ p) k=true){i x}(f:fo p x):∀k∈hc l i x,ct (aJ p) k=true:=λk a=>by
 unfold hc at a;by_cases c:i<l.length
 ·rcases List.mem_or_eq_of_mem_set a with g | rfl
  ·exact h k g
  ·exact ac2 (h _ (bI c)) f
 ·rw[List.set_eq_of_length_le aa] at a;exact h k a
section
variable{p:Prog}{g:GT}
def bf.bU(h:bf p g.t)(i){x}(a:fo p x):bf p (g.bU i x).t:=⟨h.ho,h.pl,(kM _ _ _).trans h.nl,h.ai,h.jM,h.kf,IN h.nb a,h.ff⟩
def bf.eL(h:bf p g.t)(i){x}(a:fo p x):bf p (g.eL i x).t:=⟨h.ho,h.pl,h.nl,by rw[<-h.ai];exact congrArg _ (kM _ _ _),h.jM,h.kf,h.nb,IN h.ff a⟩
def nC[Inhabited α](l:List α)(m i)(x:α):(l.set m x).getD i default=if m=i/\i<l.length then x else l.getD i default:=by
 rw[List.getD_eq_getElem?_getD,List.getElem?_set];by_cases e:m=i
 ·subst e;by_cases h:m<l.length
  ·rw[if_pos rfl,if_pos h,if_pos ⟨rfl,h⟩];rfl
  ·rw[if_pos rfl,if_neg h,if_neg (λao=>h ao.2),List.getD_eq_getElem?_getD,List.getElem?_eq_none aa]
 ·rw[if_neg e,if_neg (λh=>e h.1),List.getD_eq_getElem?_getD]
def bf.ic(h:bf p g.t)(m i){x}(o:fo p x):bf p (g.ic m i x).t:=by
 refine⟨h.ho,(List.length_set).trans h.pl,h.nl,h.ai,λj c=>?_,λl a=>?_,h.nb,h.ff⟩
 ·show (((g.t.params.set m _).getD j default).length:Int)=_;rw[nC];split
  ·rename_i e;obtain⟨rfl,e⟩:=e;rw[kM];exact h.jM _ c
  ·exact h.jM j c
 ·have a:l∈g.t.params.set m (hc (g.t.params.getD m default) i x):=a;by_cases q:m<g.t.params.length
  ·rcases List.mem_or_eq_of_mem_set a with f | rfl
   ·exact h.kf l f
   ·exact IN (h.kf _ (bI q)) o
  ·rw[List.set_eq_of_length_le aa] at a;exact h.kf l a
def bf.reach(h:bf p g.t)(m):bf p (g.reach m).t:=⟨(List.length_set).trans h.ho,h.pl,h.nl,h.ai,h.jM,h.kf,h.nb,h.ff⟩
theorem hU{j:Type}{f}:∀(L:List j) {g:GT},bf p g.t->(∀g,∀x∈L,bf p g.t->bf p (f g x).t)->bf p (L.foldl f g).t
 | [],g,h,_=>h
 | x::r,g,h,a=>hU r (a g x dv h) λg y c=>a g y (.tail _ c)
end
section
variable{p:Prog}
def DJ(p):3<=aJ p:=by unfold aJ;omega
def DK(c)(s):fo p (p5 p c s):=by
 have:=DJ p;have f:fo p 2:=km (p:=p) (c:=1) c8 aa;have a:fo p 4:=km (p:=p) (c:=2) c8 aa;unfold p5;by_cases h:((if eH p c then nv p c else []).map (·.1)).contains s=true
 ·rw[if_pos h];exact f
 ·rw[if_neg h];exact a
def vC{g}(h:bf p g.t)(c)(s):bf p (GT.begin p c g s).t:=h.eL _ (DK c s)
def ac3{g}(h:bf p g.t)(n){c}(f:1<=c)(a:c<aJ p):bf p (vA p n c g).t:=hU _ (h.bU _ (km f a)) λg s _ h=>vC h c s
def ac4{g:GT}(h:bf p g.t)(i j){x}(a:fo p x):bf p (g.nz i j x).t:=by
 unfold GT.nz;split
 ·exact h.ic i j a
 split
 ·exact h.bU j a
 ·exact h.eL j a
def Ao{g}(h:bf p g.t)(c i j){to}(f:1<=to)(a:to<aJ p):bf p (hH c to i g j).t:=by
 unfold hH;split
 ·exact ac4 h i j (km f a)
 ·exact h
def IP{g}(h:bf p g.t)(c){to}(f:1<=to)(a:to<aJ p):bf p (GT.kk c to g).t:=
 hU _ h λg i _ h=>hU _ h λg j _ h=>Ao h c i j f a
def IQ{g}(h:bf p g.t)(n){to}(f:1<=to)(a:to<aJ p)(c):bf p (iY p n to g c).t:=by
 unfold iY;split
 ·exact h
 ·refine hU _ (IP (h.bU _ (km f a)) c f a) λg s _ h=>?_;split
  ·exact h
  ·exact vC h to s
def IS{g}(h:bf p g.t)(n){to}(f:1<=to)(a:to<aJ p)(k):bf p (pf p n to k g).t:=hU _ h λg c _ h=>IQ h n f a c
def IT{g}(h:bf p g.t)(ah)(n m):bf p (sx p ah n m g).t:=hU _ h λg o _ h=>by
 unfold jO;simp only;split
 ·exact h.bU _ (mc h.nb _)
 ·exact h
theorem QQ:∀{a x:ak},x∈en a->x.length=a.length/\∀i,i<a.length->∃c:Nat,x.getD i default=c/\c<62/\(a.getD i default).toNat.testBit c=true
 | [],x,h=>by
  simp only[en,List.mem_singleton] at h;subst h;exact⟨rfl,λi aQ=>by simp at aQ⟩
 | k::r,x,h=>by
  simp[en,List.mem_flatMap,List.mem_map] at h;obtain⟨c,f,l,g,rfl⟩:=h;obtain⟨ae,j⟩:=QQ g;refine⟨rM,λi aQ=>?_⟩;cases i with
  | zero=>exact⟨c,rfl,(tL.1 f).1,(tL.1 f).2⟩
  | succ i=>exact j i m3
def ac5(s:∀k∈kinds,ct (aJ p) k=true){i}(o:i<kinds.length){L}(v:∀l∈L,l∈en kinds):fo p (lM L i):=by
 have m:∀(L:List ak) (a:Nat),fo p a->(∀l∈L,l∈en kinds)->fo p (L.foldl (λa l=>a ||| 2^(l.getD i default).toNat) a):=by
  intro L
  induction L with
  | nil=>intro a j _;exact j
  | cons x r z=>
   intro a j h;refine z _ (xC j ?_) λl A=>h l (.tail _ A);obtain⟨c,B,w,g⟩:=(QQ (h x dv)).2 i o;have f:=hT.1 (s _ (bI o));rw[B];have q:c≠0:=λe=>by rw[e,f.2.2] at g;cases g
   refine km (by show 1<=((c:Int)).toNat;simp;omega) ?_;show ((c:Int)).toNat<_;apply Decidable.byContradiction;intro t;rw[Dj f.2.1 (by simp at t;omega)] at g;cases g
 exact m L 0 (vB p) v
def xD{t}{gen}(g:∀k∈kinds,ct (aJ p) k=true):∀x∈eI p t gen kinds,(0<=x.1/\x.1<p.methods.length/\(p.methods.getD x.1.toNat default).gen=gen)/\x.2.length=kinds.length/\∀k∈x.2,ct (aJ p) k=true:=λx l=>by
 obtain⟨m,o,h⟩:=List.mem_filterMap.1 l;split at h
 ·rename_i j;cases h;have:=List.mem_range.1 o;refine⟨⟨aS,by simpa using this,j.1⟩,by simp[hl],λk a=>?_⟩;obtain⟨i,f,rfl⟩:=List.mem_map.1 a;exact hT.2 ⟨rfl,ac5 g (List.mem_range.1 f) λl c=>(List.mem_filter.1 c).1⟩
 ·cases h
def ac6{g}(h:bf p g.t)(m){got}(a:∀k∈got,ct (aJ p) k=true):bf p (nA m got g).t:=hU _ h λg k _ h=>h.ic m k (mc a k)
def IU{g}(h:bf p g.t)(n){x}(c:∀k∈x.2,ct (aJ p) k=true):bf p (mR p n g x).t:=by
 unfold mR;have a:=ac6 (h.reach x.1.toNat) x.1.toNat c;simp only;split
 ·exact a.bU _ (mc a.nb _)
 ·exact a
def IV{g}(h:bf p g.t)(n)(gen){kinds}(a:∀k∈kinds,ct (aJ p) k=true):bf p (sw p n gen kinds g).t:=hU _ h λg x c h=>IU h n (xD a x c).2.2
def me{c}[Decidable c]{a b:GT}(j:c->bf p a.t)(g: ¬c->bf p b.t):bf p (if c then a else b).t:=by
 by_cases h:c
 ·rw[if_pos h];exact j h
 ·rw[if_neg h];exact g h
def ac7{g}(h:bf p g.t)(ah){y}(n){env}(m){r}{s}(hy:gC p y s)(v:∀k∈env,ct (aJ p) k=true)(q:∀k∈r,ct (aJ p) k=true):bf p (eF p ah y n env m r g).t:=by
 have w:=DJ p;have f:=λi=>mc q i;have j:y.op=6\/y.op=8->3<=y.n/\y.n.toNat<aJ p:=λbb=>by
  rw[gC,if_neg aa,if_pos bb] at hy;simp[Bool.and_eq_true,decide_eq_true_eq] at hy;refine⟨hy.1,?_⟩;unfold aJ;omega
 unfold eF;refine me (λ_=>h.bU _ (km (p:=p) (c:=1) c8 aa)) λ_=>?_;refine me (λ_=>h.bU _ (km (p:=p) (c:=2) c8 aa)) λ_=>?_;refine me (λ_=>h.bU _ (mc v _)) λ_=>?_;refine me (λ_=>me (λ_=>h.bU _ (mc h.ff _)) λ_=>h) λ_=>?_;refine me (λbb=>ac3 h n (by have:=j (.inl bb);omega) (j (.inl bb)).2) λ_=>?_;refine me (λ_=>me (λ_=>(h.bU n (f 1)).eL _ (f 1)) λ_=>h.bU n (f 1)) λ_=>?_;refine me (λbb=>IS h n (by have:=j (.inr bb);omega) (j (.inr bb)).2 _) λ_=>?_;refine me (λ_=>h.bU _ (f 1)) λ_=>?_;refine me (λ_=>h.bU _ (xC (f 1) (f 2))) λ_=>?_;refine me (λ_=>h.bU _ (f 0)) λ_=>?_;refine me (λ_=>IV h n _ q) λ_=>?_;exact me (λ_=>me (λ_=>h) λ_=>IT h ah n _) λ_=>h
def DL{t}(h:bf p t){y:hi}(c:∀k∈y.kids,0<=k/\k<p.nodes.length):∀k∈mb t y,ct (aJ p) k=true:=λk a=>by
 obtain⟨x,f,rfl⟩:=List.mem_map.1 a;have:=c x f;exact h.nb _ (bI (by rw[h.nl];omega))
def xE{t}(h:bf p t){k:Int}(a:0<=k/\k<p.nodes.length):ct (aJ p) (t.nodes.getD k.toNat default)=true:=h.nb _ (bI (by rw[h.nl];omega))
def QR{run}{y:hi}{env}(hy:∀k∈y.kids,0<=k/\k<p.nodes.length)(c:∀k∈env,ct (aJ p) k=true):∀(l:ak) (i:Nat) {g:GT},(∀k∈l,k∈y.kids)->bf p g.t->
  (∀j,j<l.length->∀(e:ak) (g:GT),(∀k∈e,ct (aJ p) k=true)->(e.length=env.length+(if y.op=9/\i+j=1 then 1 else 0))->bf p g.t->bf p (run (l.getD j default) e g).t)->bf p (jP run y env i l g).t
 | [],i,g,_,h,_=>h
 | k::r,i,g,m,h,o=>by
  rw[jP];refine QR hy c r (i+1) (λx f=>m x (.tail _ f)) ?_ λj w e g v q s=>?_
  ·refine o 0 aS _ g ?_ ?_ h
   ·split
    ·intro x f;rcases List.mem_append.1 f with a | a
     ·exact c x a
     ·rw[List.mem_singleton.1 a];refine xE h (hy _ (bI ?_));have:=List.length_pos_of_mem (m k dv);omega
    ·exact c
   ·rw[Nat.add_zero];split
    ·rw[List.length_append];rfl
    ·rfl
  ·have:=o (j+1) (by simpa using w) e g v (by rw[q,show i+1+j=i+(j+1) by omega]) s;exact this
theorem Ap{ah}{m}{next}:∀(f:Nat) {n:Int} {a:ak} {g:GT},h4 p next f n a.length->(∀k∈a,ct (aJ p) k=true)->bf p g.t->bf p (fQ p ah m f n a g).t
 | 0,n,a,g,l,_,_=>l.elim
 | f+1,n,a,g,l,s,h=>by
  rw[fQ];have c:=Ak l;have o:bf p (jP (fQ p ah m f) (js p n) a 0 (js p n).kids g).t:=by
   refine QR c s _ 0 (λx x=>x) h λj w e g o r v=>?_;have:=l.2.2 j w;refine Ap f (next:=next) (by
    rw[Nat.zero_add] at r;rw[r];split at this
    ·rename_i q;rw[if_pos q];simpa using this
    ·rename_i q;rw[if_neg q];simpa using this) o v
  exact ac7 o ah _ m (Al l).1 s (DL o c)
end
abbrev tU(k:Int)(c:Nat):Prop:=k.toNat.testBit c=true
def la(a b:ak):Prop:=∀i c,tU (a.getD i default) c->tU (b.getD i default) c
structure ou(a b:cI):Prop where
 r:∀i,a.bz.getD i default=true->b.bz.getD i default=true
 p:∀m,la (a.params.getD m default) (b.params.getD m default)
 n:la a.nodes b.nodes
 s:la a.av b.av
def la.refl(a):la a a:=λ_ _ h=>h
def la.trans{a b c}(h:la a b)(f:la b c):la a c:=λi x y=>f i x (h i x y)
def ou.refl(a):ou a a:=⟨λ_ h=>h,λ_=>.refl _,.refl _,.refl _⟩
def ou.trans{a b c}(h:ou a b)(f:ou b c):ou a c:=⟨λi x=>f.r i (h.r i x),λm=>(h.p m).trans (f.p m),h.n.trans f.n,h.s.trans f.s⟩
def p6[Inhabited α]{a b:List α}(j:a.length=b.length)(h:∀i,i<a.length->a.getD i default=b.getD i default):a=b:=by
 refine List.ext_getElem j λi f g=>?_;have:=h i f;rwa [List.getD_eq_getElem?_getD,List.getD_eq_getElem?_getD,List.getElem?_eq_getElem f,List.getElem?_eq_getElem g] at this
def la.antisymm(g:a.length=b.length)(l:∀k∈a,ct m k=true)(q:∀k∈b,ct m k=true)(h:la a b)(f:la b a):a=b:=by
 refine p6 g λi j=>?_;have r:=(hT.1 (l _ (bI j))).1;have o:=(hT.1 (q _ (bI (by omega:i<b.length)))).1;rw[r,o];refine congrArg _ (Nat.eq_of_testBit_eq λc=>?_);have:=h i c;have:=f i c;rw[Bool.eq_iff_iff];exact⟨h i c,f i c⟩
section
variable{p:Prog}
def ou.antisymm{a b}(c:bf p a)(f:bf p b)(h:ou a b)(j:ou b a):a=b:=by
 have l:a.bz=b.bz:=p6 (by rw[c.ho,f.ho]) λi _=>by
  rw[Bool.eq_iff_iff];exact⟨h.r i,j.r i⟩
 have t:a.params=b.params:=p6 (by rw[c.pl,f.pl]) λi q=>by
  have g:i<p.methods.length:=by rw[<-c.pl];exact q
  refine la.antisymm (m:=aJ p) ?_ (c.kf _ (bI q)) (f.kf _ (bI (by rw[f.pl];exact g))) (h.p i) (j.p i);have:=c.jM i g;have:=f.jM i g;omega
 have v:a.nodes=b.nodes:=la.antisymm (by rw[c.nl,f.nl]) c.nb f.nb h.n j.n;have o:a.av=b.av:=la.antisymm (by have:=c.ai;have:=f.ai;omega) c.ff f.ff h.s j.s;cases a;cases b;simp only at l t v o;subst l;subst t;subst v;subst o;rfl
structure Grow(p:Prog)(g nT:GT):Prop where
 hx:bf p g.t
 fx:bf p nT.t
 le:ou g.t nT.t
 ch:nT.ch=true↔g.ch=true\/nT.t≠g.t
def Grow.refl{g}(h:bf p g.t):Grow p g g:=⟨h,h,.refl _,⟨.inl,λx=>x.elim id λx=>absurd rfl x⟩⟩
def Grow.trans{a b c}(h:Grow p a b)(f:Grow p b c):Grow p a c:=by
 refine⟨h.hx,f.fx,h.le.trans f.le,f.ch.trans ?_⟩;rw[h.ch];constructor
 ·rintro ((x | x) | x)
  ·exact .inl x
  ·exact .inr λe=>x (ou.antisymm f.hx h.hx (by rw[<-e];exact f.le) h.le)
  ·exact .inr λe=>x (ou.antisymm f.fx f.hx (by rw[e];exact h.le) f.le)
 ·rintro (x | x)
  ·exact .inl (.inl x)
  ·by_cases e:b.t=a.t
   ·exact .inr (by rw[e];exact x)
   ·exact .inl (.inr e)
theorem ri{j:Type}{f}:∀(L:List j) {g:GT},bf p g.t->(∀g,∀x∈L,bf p g.t->Grow p g (f g x))->Grow p g (L.foldl f g)
 | [],g,h,_=>.refl h
 | x::r,g,h,a=>(a g x dv h).trans (ri r (a g x dv h).fx λg y c=>a g y (.tail _ c))
def uZ:tU (pe k x) c↔tU k c\/x.testBit c=true:=by
 show ((k.toNat ||| x:Nat):Int).toNat.testBit c=true↔_;rw[Int.toNat_natCast,Nat.testBit_or,Bool.or_eq_true]
def ac8{i x j c}:tU ((hc l i x).getD j default) c↔tU (l.getD j default) c\/(i=j/\j<l.length/\x.testBit c=true):=by
 unfold hc;rw[nC];by_cases h:i=j/\j<l.length
 ·rw[if_pos h,uZ,h.1];exact⟨λx=>x.imp id λy=>⟨rfl,h.2,y⟩,λx=>x.imp id λy=>y.2.2⟩
 ·rw[if_neg h];exact⟨.inl,λx=>x.elim id λy=>absurd ⟨y.1,y.2.1⟩ h⟩
def IW(l)(i x):la l (hc l i x):=λj c h=>ac8.2 (.inl h)
def IX{i x}(c:i<l.length\/x=0)(j:∀k∈l,k=(k.toNat:Int)):kK l i x=true↔hc l i x≠l:=by
 unfold kK hc;rw[bne_iff_ne];by_cases h:i<l.length
 ·constructor
  ·intro a e;have:=congrArg (λl=>l.getD i default) e;simp only[nC,h,and_self,if_true] at this;exact a this
  ·intro a e;rw[e] at a;apply a;refine p6 List.length_set λj m=>?_;rw[nC];split
   ·rename_i f;rw[f.1]
   ·rfl
 ·rw[List.set_eq_of_length_le aa];have g:x=0:=c.resolve_left h;subst g;constructor
  ·intro a;exfalso;apply a;rw[List.getD_eq_getElem?_getD,List.getElem?_eq_none aa];rfl
  ·intro a;exact absurd rfl a
def IY(h:∀k∈l,ct m k=true):∀k∈l,k=(k.toNat:Int):=λk a=>(hT.1 (h k a)).1
def xF{g}(h:bf p g.t){i}(c:i<p.nodes.length){x}(f:fo p x):Grow p g (g.bU i x):=by
 refine⟨h,h.bU i f,⟨λ_ h=>h,λ_=>.refl _,IW _ _ _,.refl _⟩,?_⟩;have:=IX (l:=g.t.nodes) (i:=i) (x:=x) (.inl (by rw[h.nl];exact c)) (IY h.nb);show (g.ch || kK g.t.nodes i x)=true↔_;rw[Bool.or_eq_true,this];refine or_congr .rfl (not_congr ⟨λe=>?_,λe=>congrArg cI.nodes e⟩);show ({g.t with nodes:=hc g.t.nodes i x}:cI)=g.t;rw[e]
def IZ{g}(h:bf p g.t){i:Nat}(c:(i:Int)<p.av){x}(a:fo p x):Grow p g (g.eL i x):=by
 refine⟨h,h.eL i a,⟨λ_ h=>h,λ_=>.refl _,.refl _,IW _ _ _⟩,?_⟩;have:=IX (l:=g.t.av) (i:=i) (x:=x) (.inl (by have:=h.ai;omega)) (IY h.ff);show (g.ch || kK g.t.av i x)=true↔_;rw[Bool.or_eq_true,this];refine or_congr .rfl (not_congr ⟨λe=>?_,λe=>congrArg cI.av e⟩);show ({g.t with av:=hc g.t.av i x}:cI)=g.t;rw[e]
def p7[Inhabited α]{l:List α}{m}{x:α}(hm:m<l.length):l.set m x=l↔x=l.getD m default:=by
 constructor
 ·intro e;have:=congrArg (λl=>l.getD m default) e;simp only[nC,hm,and_self,if_true] at this;exact this
 ·intro e;subst e;refine p6 List.length_set λj g=>?_;rw[nC];split
  ·rename_i f;rw[f.1]
  ·rfl
def QS{g}(h:bf p g.t){m i}(hm:m<p.methods.length)(o:i<(g.t.params.getD m default).length){x}(q:fo p x):Grow p g (g.ic m i x):=by
 have f:m<g.t.params.length:=by rw[h.pl];exact hm
 refine⟨h,h.ic m i q,⟨λ_ h=>h,λj=>?_,.refl _,.refl _⟩,?_⟩
 ·show la _ ((g.t.params.set m _).getD j default);rw[nC];split
  ·rename_i e;rw[<-e.1];exact IW _ _ _
  ·exact .refl _
 have:=IX (l:=g.t.params.getD m default) (i:=i) (x:=x) (.inl o) (IY (h.kf _ (bI f)));show (g.ch || kK (g.t.params.getD m default) i x)=true↔_;rw[Bool.or_eq_true,this];refine or_congr .rfl (not_congr ⟨λe=>?_,λe=>(p7 f).1 (congrArg cI.params e)⟩);show ({g.t with params:=g.t.params.set m (hc (g.t.params.getD m default) i x)}:cI)=g.t;rw[(p7 f).2 e]
def ac9{g}(h:bf p g.t){m}(hm:m<p.methods.length):Grow p g (g.reach m):=by
 have c:m<g.t.bz.length:=by rw[h.ho];exact hm
 refine⟨h,h.reach m,⟨λj o=>?_,λ_=>.refl _,.refl _,.refl _⟩,?_⟩
 ·show (g.t.bz.set m true).getD j default=true;rw[nC];split
  ·rfl
  ·exact o
 show (g.ch || !g.t.bz.getD m default)=true↔_;rw[Bool.or_eq_true,Bool.not_eq_true'];refine or_congr .rfl ?_;constructor
 ·intro e l;have:=(p7 c).1 (congrArg cI.bz l);rw[e] at this;cases this
 ·intro f;cases e:g.t.bz.getD m default with
  | false=>rfl
  | true=>
   exfalso;apply f;show ({g.t with bz:=g.t.bz.set m true}:cI)=g.t;rw[(p7 c).2 e.symm]
end
end Go.Eng.dN

namespace Go.Proofs.YtodccgailpkgeaaGreat
open Go.Proofs.Tryz
open Go.Eng
open Go.Eng.Fc
open Go.Eng.dN
variable{l:ak}{i x c:Nat}{α:Type}{ah:Nat->Nat->Bool}{Hx:aA}
instance:Cv prog 89 (198,4):=⟨ay,Go.Maps.Keyed.of_law (deep_law_laid laidOut (m:=3) aa (of_decide_eq_true ay) ay ay),ay⟩
structure gx where
 bx:Nat
 de:Value
 vs:dg
 cY:Value
 cS:Value
 dV:Nat
 mS:Nat
 ms:List (Nat×List (Int×ab))
def c6(v:Value)(l:ak):aA:=if l= [] then [] else [.row 3 1 v l.length (l.map ab.i)]
def fI(v:Value)(l:cW):aA:=if l= [] then [] else [.row 4 1 v l.length (l.map ab.b)]
def iv(vs:dg)(ls:List ak):aA:=(List.range ls.length).flatMap λi=>c6 (vs.getD i default) (ls.getD i default)
def Aq(m n:Nat):dg:=[.int .i64 m,.int .i64 n]
def kN(ah:Nat->Nat->Bool):Value->ab
 | .agg a=>match a.toList with
  | [.int _ m,.int _ n]=>.b (ah m.toNat n.toNat)
  | _=>.any
 | _=>.any
def ov:List (Int×ab):=[(1,.fn (.func 59) [] []),(12,.fn (.func 59) [] []),(13,.fn (.func 59) [] []),(14,.fn (.func 59) [] []),(15,.fn (.func 59) [] []),(16,.fn (.func 59) [] []),(2,.fn (.func 60) [] []),(3,.fn (.func 61) [] []),(4,.fn (.func 62) [] []),(6,.fn (.func 63) [] []),(7,.fn (.func 64) [] []),(8,.fn (.func 65) [] []),(9,.fn (.func 66) [] []),(11,.fn (.func 66) [] []),(10,.fn (.func 67) [] []),(17,.fn (.func 68) [] []),(5,.fn (.func 69) [] []),(18,.fn (.func 70) [] [])]
abbrev xG(ah:Nat->Nat->Bool)(q:gx):bn:=.gm q.dV (ev prog 198) (kN ah)
def eg(ah:Nat->Nat->Bool)(q:gx)(t:cI):aA:=xG ah q::dW q.mS ov::(gw q.ms++(fI q.de t.bz++(c6 q.cY t.nodes++(c6 q.cS t.av++iv q.vs t.params))))
abbrev ada(p:Prog)(q:gx)(ch:Bool):bl:=[.val q.de,.ai 1 (q.vs.map λv=>[.val v]),.val q.cY,.val q.cS]++cM p++cD (bS p)++[ab.gg (e7 p),ab.bm (fg p),.ai 1 (q.ms.map hG),.val (.map (some q.dV)),.val (.map (some q.mS)),.b ch]
abbrev eo(p:Prog)(q:gx)(ch:Bool):bn:=.au q.bx 92 (ada p q ch)
abbrev bN(p:Prog)(ah:Nat->Nat->Bool)(q:gx)(g:GT)(Hx:aA):aA:=eo p q g.ch::(eg ah q g.t++Hx)
def DM{j}(h:j<l.length)(v)(more):(l.map .i++more).take j++cG (.i v)++(l.map ab.i++more).drop (j+1)=(l.set j v).map .i++more:=by
 rw[List.take_append_of_le_length cB,List.drop_append_of_le_length cB,List.set_eq_take_append_cons_drop,if_pos h,List.map_append,List.map_take,List.map_cons,List.map_drop];simp[cG]
def Uh{j}(h:j<l.length)(more):(l.map ab.i++more)[j]? =some (.i (l.getD j default)):=by
 rw[List.getElem?_append_left gQ,List.getElem?_map,List.getD_eq_getElem?_getD,List.getElem?_eq_getElem h];rfl
def QT(h:kK l i x=false):hc l i x=l:=by
 have a:pe (l.getD i default) x=l.getD i default:=by
  unfold kK at h;simpa using h
 unfold hc;rw[a];by_cases c:i<l.length
 ·exact (p7 c).2 rfl
 ·exact List.set_eq_of_length_le aa
def QU{p}{q}{ch}{i x b:Nat}{more:bl}{H:aA}{H':bn->aA}(hu:∀e,bG H (.au b 3 (l.map ab.i++more)) e (H' e))(aQ:i<l.length)(c:l.getD i default=((l.getD i default).toNat:Int))(h:(l.getD i default).toNat<2^62)(j:x<2^62):
  bO prog 106 [.p q.bx 0,.p b i,.i x] (eo p q ch::H) (λy g=>y= .bk []/\g=eo p q (ch || kK l i x)::H' (.au b 3 ((hc l i x).map ab.i++more))) (λ_ _=>False):=by
 refine aM (n:=24) func106 λB I m=>?_;refine aR ?_;refine bP 8 24 ?_;refine aO ?_;refine bg (ad.le ES (an.b4 c)) ?_;refine aR ?_;refine bg (ad.bits rfl rfl rfl rfl rfl (kg _ _ aa aa)) ?_;refine aO ?_;refine bg (ad.le ES (an.b4 c)) ?_;refine aT ?_;refine bc (λaf=>?_) (λaf=>?_)
 ·have a:kK l i x=true:=by
   unfold kK pe;rw[c] at af ⊢;exact af
  refine aY ?_;refine ag (ad.le ES (an.b4 c)) ?_;refine aR ?_;refine ag (ad.bits rfl rfl rfl rfl rfl (kg _ _ aa aa)) ?_;refine aR ?_;apply aj.fZ (ds:=(hc l i x).map ab.i++more) rfl rfl rfl rfl rfl rfl rfl rfl rfl rfl
  (case hu=>exact .tail _ _ _ _ _ (hu _));(case hfit=>exact Nat.ble_eq_true_of_le cB);(case hds=>exact DM aQ _ more)
  refine aI ?_;refine gM [] (eo p q true::H' (.au b 3 ((hc l i x).map ab.i++more))) ?_;exact⟨rfl,by rw[a,Bool.or_true]⟩
 ·have a:kK l i x=false:=by
   unfold kK pe;rw[c] at af ⊢;exact af
  refine aR ?_;refine gM [] (eo p q ch::H) ?_;exact⟨rfl,by rw[a,Bool.or_false,QT a,(hu _).same]⟩
def I0{p}{q}{ch}{v}{A C}(c:i<l.length)(g:∀k∈l,ct (aJ p) k=true)(hm:aJ p<=13)(f:x<2^62):
  bO prog 106 [.p q.bx 0,.val (j5 v i 1),.i x] (eo p q ch::(A++.row 3 1 v l.length (l.map .i)::C)) (λy j=>y= .bk []/\j=eo p q (ch || kK l i x)::(A++.row 3 1 v l.length ((hc l i x).map .i)::C)) (λ_ _=>False):=by
 have a:=hT.1 (g _ (bI c));have r:2^aJ p<=2^13:=Nat.pow_le_pow_right c8 hm;refine .row (t:=3) (n:=l.length) (cs:=l.map .i) (ds:=(hc l i x).map .i) (pre:=[.p q.bx 0]) (post:=[.i x]) (H:=A++.row 3 1 v l.length (l.map .i)::C) (H':=λe=>A++e::C) (F:=λH=>eo p q ch::H) (G:=λH=>eo p q (ch || kK l i x)::H) (λ_ _ _ _ h=>.tail _ _ _ _ _ h) c (by simp[kM]) (λe=>.under A) (λ_ _ _ _ h=>.tail _ _ _ _ _ h) (λb m more _=>?_) (λe o=>.under A) (QU (p:=p) (q:=q) (ch:=ch) (x:=x) (b:=0) (more:=[]) (H:=[.au 0 3 (l.map .i++[])]) (H':=λe=>[e]) (λe=>.head _ _ _) c a.1 aa f).1;exact QU (λe=>.under A) c a.1 aa f
def QV(ah)(q)(t:cI)(Hx):∃A C,∀l,l≠ []->eg ah q {t with nodes:=l}++Hx=A++.row 3 1 q.cY l.length (l.map .i)::C:=
 ⟨xG ah q::dW q.mS ov::(gw q.ms++fI q.de t.bz),c6 q.cS t.av++iv q.vs t.params++Hx,λl h=>by simp[eg,c6,h]⟩
def QW(ah)(q)(t:cI)(Hx):∃A C,∀l,l≠ []->eg ah q {t with av:=l}++Hx=A++.row 3 1 q.cS l.length (l.map .i)::C:=
 ⟨xG ah q::dW q.mS ov::(gw q.ms++(fI q.de t.bz++c6 q.cY t.nodes)),iv q.vs t.params++Hx,λl h=>by simp[eg,c6,h]⟩
def QX(ah)(q)(t:cI)(Hx):∃A C,∀l,l≠ []->eg ah q {t with bz:=l}++Hx=A++.row 4 1 q.de l.length (l.map .b)::C:=
 ⟨xG ah q::dW q.mS ov::gw q.ms,c6 q.cY t.nodes++(c6 q.cS t.av++iv q.vs t.params)++Hx,λl h=>by simp[eg,fI,h]⟩
def I1{a c:Type}{l:List a}{f g:a->List c}(h:∀x∈l,f x=g x):l.flatMap f=l.flatMap g:=by
 rw[List.flatMap_def,List.flatMap_def,List.map_congr_left h]
def QY(vs){ls:List ak}{k}(f:k<ls.length):∃A C,∀l,iv vs (ls.set k l)=A++(c6 (vs.getD k default) l++C):=by
 have e:List.range ls.length=List.range k++k::(List.range' (k+1) (ls.length - k - 1)):=by
  have c:List.range' 0 k++List.range' (0+k) (ls.length - k)=List.range' 0 (k+(ls.length - k)):=List.range'_append_1;obtain⟨d,g⟩:∃d,ls.length - k=d+1:=⟨ls.length - k - 1,aa⟩;rw[show k+(ls.length - k)=ls.length by omega,Nat.zero_add,g,List.range'_succ] at c;rw[List.range_eq_range',List.range_eq_range', <-c,show ls.length - k - 1=d by omega]
 refine⟨(List.range k).flatMap λi=>c6 (vs.getD i default) (ls.getD i default),(List.range' (k+1) (ls.length - k - 1)).flatMap λi=>c6 (vs.getD i default) (ls.getD i default),λl=>?_⟩;unfold iv;rw[List.length_set,e,List.flatMap_append,List.flatMap_cons];have c:∀i,i≠k->(ls.set k l).getD i default=ls.getD i default:=λi a=>by rw[nC,if_neg (λh=>a h.1.symm)]
 have j:(ls.set k l).getD k default=l:=by rw[nC,if_pos ⟨rfl,f⟩]
 rw[j];congr 1
 ·exact I1 λi a=>by rw[c i (by have:=List.mem_range.1 a;omega)]
 ·congr 1;exact I1 λi a=>by rw[c i (by have:=List.mem_range'_1.1 a;omega)]
def QZ(ah)(q:gx)(t:cI)(Hx){k}(g:k<t.params.length):∃A C,∀l,l≠ []->eg ah q {t with params:=t.params.set k l}++Hx=A++.row 3 1 (q.vs.getD k default) l.length (l.map .i)::C:=by
 obtain⟨A,C,h⟩:=QY q.vs g;exact⟨xG ah q::dW q.mS ov::(gw q.ms++(fI q.de t.bz++(c6 q.cY t.nodes++(c6 q.cS t.av++A)))),C++Hx,λl j=>by simp[eg,h,c6,j]⟩
def ne_of_lt{l:List α}(h:i<l.length):l≠ []:=λe=>by rw[e] at h;simp at h
section
variable{p:Prog}{ah:Nat->Nat->Bool}{q:gx}{g:GT}{Hx:aA}
def nD(h:i<g.t.nodes.length):.row 3 1 q.cY g.t.nodes.length (g.t.nodes.map .i)∈bN p ah q g Hx:=by
 obtain⟨A,C,e⟩:=QV ah q g.t Hx;have:=e g.t.nodes (ne_of_lt h);show _∈_::(eg ah q {g.t with nodes:=g.t.nodes}++Hx);rw[this];simp
def tV(h:i<g.t.av.length):.row 3 1 q.cS g.t.av.length (g.t.av.map .i)∈bN p ah q g Hx:=by
 obtain⟨A,C,e⟩:=QW ah q g.t Hx;have:=e g.t.av (ne_of_lt h);show _∈_::(eg ah q {g.t with av:=g.t.av}++Hx);rw[this];simp
def sy(h:i<g.t.bz.length):.row 4 1 q.de g.t.bz.length (g.t.bz.map .b)∈bN p ah q g Hx:=by
 obtain⟨A,C,e⟩:=QX ah q g.t Hx;have:=e g.t.bz (ne_of_lt h);show _∈_::(eg ah q {g.t with bz:=g.t.bz}++Hx);rw[this];simp
def I2{k i}(c:k<g.t.params.length)(h:i<(g.t.params.getD k default).length):.row 3 1 (q.vs.getD k default) (g.t.params.getD k default).length ((g.t.params.getD k default).map .i)∈bN p ah q g Hx:=by
 obtain⟨A,C,e⟩:=QZ ah q g.t Hx c;have:=e (g.t.params.getD k default) (ne_of_lt h);rw[(p7 c).2 rfl] at this;show _∈_::(eg ah q {g.t with params:=g.t.params}++Hx);rw[this];simp
def Q0(h:bf p g.t)(hm:aJ p<=13){i x}(j:i<p.nodes.length)(c:fo p x):bO prog 106 [.p q.bx 0,.val (j5 q.cY i 1),.i x] (bN p ah q g Hx) (λy m=>y= .bk []/\m=bN p ah q (g.bU i x) Hx) (λ_ _=>False):=by
 obtain⟨A,C,e⟩:=QV ah q g.t Hx;have a:i<g.t.nodes.length:=by rw[h.nl];exact j
 have o:2^aJ p<=2^13:=Nat.pow_le_pow_right c8 hm;have f:bN p ah q g Hx=_:=congrArg (eo p q g.ch::·) (e g.t.nodes (ne_of_lt a));have l:bN p ah q (g.bU i x) Hx=_:=congrArg (eo p q (g.bU i x).ch::·) (e (hc g.t.nodes i x) (ne_of_lt (i:=i) (by rw[kM];exact a)));rw[f,l];have:=I0 (p:=p) (q:=q) (ch:=g.ch) (v:=q.cY) (A:=A) (C:=C) a h.nb hm (x:=x) (by have:=c.1;omega);rw[kM];exact this
def DN(h:bf p g.t)(hm:aJ p<=13){i x:Nat}(m:(i:Int)<p.av)(c:fo p x):bO prog 106 [.p q.bx 0,.val (j5 q.cS i 1),.i x] (bN p ah q g Hx) (λy l=>y= .bk []/\l=bN p ah q (g.eL i x) Hx) (λ_ _=>False):=by
 obtain⟨A,C,e⟩:=QW ah q g.t Hx;have a:i<g.t.av.length:=by have:=h.ai;omega
 have o:2^aJ p<=2^13:=Nat.pow_le_pow_right c8 hm;have f:bN p ah q g Hx=_:=congrArg (eo p q g.ch::·) (e g.t.av (ne_of_lt a));have j:bN p ah q (g.eL i x) Hx=_:=congrArg (eo p q (g.eL i x).ch::·) (e (hc g.t.av i x) (ne_of_lt (i:=i) (by rw[kM];exact a)));rw[f,j];have:=I0 (p:=p) (q:=q) (ch:=g.ch) (v:=q.cS) (A:=A) (C:=C) a h.ff hm (x:=x) (by have:=c.1;omega);rw[kM];exact this
def Q1(h:bf p g.t)(hm:aJ p<=13){k i x}(f:k<p.methods.length)(c:i<(g.t.params.getD k default).length)(j:fo p x):bO prog 106 [.p q.bx 0,.val (j5 (q.vs.getD k default) i 1),.i x] (bN p ah q g Hx) (λy o=>y= .bk []/\o=bN p ah q (g.ic k i x) Hx) (λ_ _=>False):=by
 have a:k<g.t.params.length:=by rw[h.pl];exact f
 obtain⟨A,C,e⟩:=QZ ah q g.t Hx a;have r:2^aJ p<=2^13:=Nat.pow_le_pow_right c8 hm;have fl:=e (g.t.params.getD k default) (ne_of_lt c);rw[(p7 a).2 rfl] at fl;have l:bN p ah q g Hx=_:=congrArg (eo p q g.ch::·) fl;have m:bN p ah q (g.ic k i x) Hx=_:=congrArg (eo p q (g.ic k i x).ch::·) (e (hc (g.t.params.getD k default) i x) (ne_of_lt (i:=i) (by rw[kM];exact c)));rw[l,m];have:=I0 (p:=p) (q:=q) (ch:=g.ch) (v:=q.vs.getD k default) (A:=A) (C:=C) c (h.kf _ (bI a)) hm (x:=x) (by have:=j.1;omega);rw[kM];exact this
end
structure fB(p:Prog)(q:gx):Prop where
 aH:(bw p).isSome=true
 ins:p2 p q.ms (aJ p)
 oH:q.vs.length=p.methods.length
 rj:p.methods.length=0->∃a c,q.de= .slice a 0 c
 p8:p.av=0->∃a c,q.cS= .slice a 0 c
 rk:q.de.oneCell'=true
 sz:∀v∈q.vs,v.oneCell'=true
 ow:q.cY.oneCell'=true
 mT:q.cS.oneCell'=true
def fB.many{p}{q}(h:fB p q):aJ p<=13:=nx h.aH
def Ar{p}(a:(bw p).isSome):1<=p.nodes.length:=by
 have:=tS (tR a).2.1;omega
def tW{p}(a:(bw p).isSome){t}(h:bf p t){k}(c:k<p.methods.length):t.params.getD k default≠ []:=λe=>by
 have f:=h.jM k c;rw[e] at f;have j:=tQ a c;obtain⟨o,g⟩:=Option.isSome_iff_exists.1 a;have:=(qZ (iF g).2.2.1 (bI (l:=p.cT) (k:=(p.methods.getD k default).gen.toNat) aa)).1;have m:(0:Int)=p.cT.getD (p.methods.getD k default).gen.toNat default:=f;omega
abbrev kO(w:World):cp:=λb o=>∃c,w.cell? ⟨b,o,none⟩=some c
def I3{B}{I}{w}(l:bV B I w){t}{v}{cs}(h:bn.ok B I w (.row t 1 v cs.length cs)):Rel (kO w) w (.ai 1 (cs.map λx=>[x])) v:=by
 have e:∀cs:bl,(cs.map λx=>[x]).flatten=cs:=λcs=>by
  induction cs with
  | nil=>rfl
  | cons x r g=>rw[List.map_cons,List.flatten_cons,g];rfl
 obtain⟨J,q,_,c,f⟩:=y3 (els:=cs.map λx=>[x]) (by rw[List.length_map,e cs];exact h) (λx m=>by obtain⟨y,_,rfl⟩:=List.mem_map.1 m;rfl);exact f.bs ⟨λb o j=>(c b o j).elim (l.there b o) id,λ_ _ _=>rfl⟩
def I4{B}{I}{w}(j:bV B I w){v}{l}(g:l= []->∃a c,v= .slice a 0 c)(h:l≠ []->bn.ok B I w (.row 3 1 v l.length (l.map .i))):Rel (kO w) w (.ints l) v:=by
 by_cases f:l= []
 ·obtain⟨a,c,rfl⟩:=g f;subst f;exact .dQ _ _ _
 ·have:=I3 j (t:=3) (v:=v) (cs:=l.map .i) (by rw[List.length_map];exact h f);rw[List.map_map] at this;exact this
section
variable{p:Prog}{ah:Nat->Nat->Bool}{q:gx}{g:GT}{Hx:aA}
def I5{k}(c:k<g.t.params.length)(a:g.t.params.getD k default≠ []):.row 3 1 (q.vs.getD k default) (g.t.params.getD k default).length ((g.t.params.getD k default).map .i)∈bN p ah q g Hx:=
 I2 c (i:=0) (List.length_pos_iff.2 a)
def fp.ew(a1:fB p q)(h:bf p g.t){pre post}:fp (bN p ah q g Hx) (pre++.p q.bx 0::post) (pre++ab.ew p g.t::post):=by
 intro B I w m5 s J aU b6 bH;have hq:er I w (kO w) w:=⟨λb o M=>J.there b o M,λ_ _ _=>rfl⟩;refine⟨kO w,λ_ _ h=>h,?_⟩;obtain⟨us,fY,rfl,aC,gn⟩:=bH.qG;cases gn with
 | cons _ u _ fY A ht=>
  have:=bX A;subst this;refine (aC.bs hq).append (.cons _ _ _ _ ?_ (ht.bs hq));have m:=λe he=>aU.ok e (b6 e he);obtain⟨gS,s,M,f,_⟩:=m _ dv;have f:=f.bs hq;obtain⟨X,L,fl,a0,f⟩:∃X L,s.toList=X::L/\X=q.de/\bQ (kO w) w _ L:=by
   cases bd:s.toList with
   | nil=>rw[bd] at f;cases f
   | cons a r=>rw[bd] at f;cases f with | cons _ _ _ _ F E=>exact⟨a,r,rfl,bX F,E⟩
  obtain⟨O,P,bM,W,f⟩:∃O P,L=O::P/\Rel (kO w) w (.ai 1 (q.vs.map λv=>[.val v])) O/\bQ (kO w) w _ P:=by
   cases f with | cons _ a _ r F E=>exact⟨a,r,rfl,F,E⟩
  obtain⟨Y,N,bL,S,f⟩:∃Y N,P=Y::N/\Y=q.cY/\bQ (kO w) w _ N:=by
   cases f with | cons _ a _ r F E=>exact⟨a,r,rfl,bX F,E⟩
  obtain⟨U,V,fh,Z,f⟩:∃U V,N=U::V/\U=q.cS/\bQ (kO w) w (cM p++cD (bS p)++[ab.gg (e7 p),.bm (fg p),.ai 1 (q.ms.map hG),.val (.map (some q.dV)),.val (.map (some q.mS)),.b g.ch]) V:=by
   cases f with | cons _ a _ r F E=>exact⟨a,r,rfl,bX F,E⟩
  have hR:Rel (kO w) w (ab.du g.t.bz) q.de:=by
   by_cases G:g.t.bz= []
   ·obtain⟨a,c,e⟩:=a1.rj (by rw[<-h.ho,G];rfl);rw[e,G];exact .dQ _ _ _
   ·have:=I3 J (t:=4) (v:=q.de) (cs:=g.t.bz.map .b) (by rw[List.length_map];exact m _ (sy (i:=0) (List.length_pos_iff.2 G)));rw[List.map_map] at this;exact this
  have adb:Rel (kO w) w (.ints g.t.nodes) q.cY:=I4 J (λe=>by have:=h.nl;rw[e] at this;have:=Ar a1.aH;simp at*;omega) λhv=>m _ (nD (i:=0) (List.length_pos_iff.2 hv));have jF:Rel (kO w) w (.ints g.t.av) q.cS:=I4 J (λe=>a1.p8 (by have:=h.ai;rw[e] at this;simpa using this.symm)) λhv=>m _ (tV (i:=0) (List.length_pos_iff.2 hv));have ade:Rel (kO w) w (.bm g.t.params) O:=by
   refine W.Ct E3 λi x y A H=>?_;rw[List.getElem?_map] at A H;cases aQ:g.t.params[i]? with
   | none=>rw[aQ] at H;cases H
   | some l=>
    have K:=(List.getElem?_eq_some_iff.1 aQ).1;have G:g.t.params.getD i default=l:=by rw[List.getD_eq_getElem?_getD,aQ];rfl
    cases bd:q.vs[i]? with
    | none=>rw[bd] at A;cases A
    | some v=>
     have R:q.vs.getD i default=v:=by rw[List.getD_eq_getElem?_getD,bd];rfl
     rw[aQ] at H;rw[bd] at A;cases A;cases H;refine⟨rfl,λb o Q=>?_⟩;cases Q with
     | cons _ _ _ c _ gF je A ht=>
      refine .cons _ _ _ c _ gF je ?_ (by cases ht;exact .nil _ _);rw[bX A];have hv:=tW a1.aH h (k:=i) (by rw[<-h.pl];exact K);refine I4 J (λe=>absurd (G.trans e) hv) λ_=>?_;have:=m _ (I5 (p:=p) (ah:=ah) (q:=q) (g:=g) (Hx:=Hx) K hv);rw[G,R] at this;exact this
  have C:bQ (kO w) w (Qe p g.t) s.toList:=by
   rw[fl,bM,bL,fh,a0,S,Z];refine .cons _ _ _ _ hR (.cons _ _ _ _ ade (.cons _ _ _ _ adb (.cons _ _ _ _ jF ?_)));obtain⟨us,fY,rfl,gr,cv⟩:=bQ.qG f;refine gr.append ?_;cases cv with | cons _ _ _ _ bF cv=>cases cv with | cons _ _ _ _ a2 cv=>cases cv with | cons _ _ _ _ a3 cv=>cases cv with | cons _ _ _ _ a4 cv=>cases cv with | cons _ _ _ _ a5 cv=>cases cv with | cons _ _ _ _ fw cv=>
    cases cv;exact .cons _ _ _ _ bF (.cons _ _ _ _ a2 (.cons _ _ _ _ (.any _) (.cons _ _ _ _ (.any _) (.cons _ _ _ _ (.any _) (.cons _ _ _ _ (.any _) .nil)))))
  exact .ptr _ _ _ (uF M _ _ 0 C (λj u hu=>by simpa using hu) (λj cm=>by
   have D:=C.length;rw[Array.length_toList] at D;have T:j<s.size:=by rw[D];exact cm
   exact⟨s[j],by rw[jC M,Nat.zero_add];exact Array.getElem?_eq_getElem T⟩))
end
abbrev fJ(n:Int)(y:hi)(cN env:ak)(m:Int):bl:=[.i n]++ia y++[.i (cN.getD 0 default),.i (cN.getD 1 default),.i (cN.getD 2 default)]++[ab.ints env,.i m]
abbrev ab.mU(n:Int)(y:hi)(cN env:ak)(m:Int):ab:=.agg (fJ n y cN env m)
def I6(p):fo p 2:=km (p:=p) (c:=1) c8 (by have:=DJ p;omega)
def I7(p):fo p 4:=km (p:=p) (c:=2) c8 (by have:=DJ p;omega)
def pg{p}{q}{g}(a:fB p q)(h:bf p g.t){n x}(hn:n<p.nodes.length)(s:fo p x)(y)(m env)(v):bO prog 103 [.p q.bx 0,ab.mU (n:Int) y m env v,.i (x:Int)] (bN p ah q g Hx) (λr f=>r= .bk []/\f=bN p ah q (g.bU n x) Hx) (λ_ _=>False):=by
 refine aM func103 λB I z=>?_;have w:=a.many;have j:=h.nl;have c:=h.ai;have o:=h.pl;have l:=h.ho;refine aT ?_;refine bP 10 17 ?_;refine aI ?_;refine bg (ad.dX rfl rfl rfl rfl rfl (nD (i:=n) aa) ⟨aa,aa⟩) ?_;refine aF ?_;refine cE .k ((Q0 h w hn s).b) ?_;rintro _ _ ⟨rfl,rfl⟩;refine aR ?_;refine gM [] (bN p ah q (g.bU n x) Hx) ?_;exact⟨rfl,rfl⟩
def p9{p}{c}(a:∀k∈c,ct (aJ p) k=true)(i):c.getD i default=(dy c i:Int)/\fo p (dy c i):=by
 refine⟨?_,mc a i⟩;by_cases f:i<c.length
 ·exact (hT.1 (a _ (bI f))).1
 ·unfold dy;rw[List.getD_eq_getElem?_getD,List.getElem?_eq_none aa];rfl
def jt{p}(hm:aJ p<=13){x}(h:fo p x):x<2^13:=Nat.lt_of_lt_of_le h.1 (Nat.pow_le_pow_right c8 hm)
def adf{p}{q}{g}(a:fB p q)(h:bf p g.t){n}(hn:n<p.nodes.length){y}{c env}{f}  :bO prog 59 [.p q.bx 0,ab.mU n y c env f] (bN p ah q g Hx) (λr l=>r= .bk []/\l=bN p ah q (g.bU n 2) Hx) (λ_ _=>False):=by
 refine aM (n:=7) func59 λB I v=>?_;have w:=a.many;have m:=h.nl;have j:=h.ai;have s:=h.pl;have o:=h.ho;refine aI ?_;refine cE .k ((pg a h hn (I6 p) y c env f).b) ?_;rintro _ _ ⟨rfl,rfl⟩;refine aR ?_;refine gM [] (bN p ah q (g.bU n 2) Hx) ?_;exact⟨rfl,rfl⟩
def adg{p}{q}{g}(a:fB p q)(h:bf p g.t){n}(hn:n<p.nodes.length){y}{c env}{f}  :bO prog 60 [.p q.bx 0,ab.mU n y c env f] (bN p ah q g Hx) (λr l=>r= .bk []/\l=bN p ah q (g.bU n 4) Hx) (λ_ _=>False):=by
 refine aM (n:=7) func60 λB I v=>?_;have w:=a.many;have m:=h.nl;have j:=h.ai;have s:=h.pl;have o:=h.ho;refine aI ?_;refine cE .k ((pg a h hn (I7 p) y c env f).b) ?_;rintro _ _ ⟨rfl,rfl⟩;refine aR ?_;refine gM [] (bN p ah q (g.bU n 4) Hx) ?_;exact⟨rfl,rfl⟩
def adh{p}{q}{g}(c:fB p q)(h:bf p g.t){n}(hn:n<p.nodes.length){y}{f env}{j}(hy:0<=y.n/\y.n<env.length)(m:∀k∈env,ct (aJ p) k=true):bO prog 61 [.p q.bx 0,ab.mU n y f env j] (bN p ah q g Hx) (λr l=>r= .bk []/\l=bN p ah q (g.bU n (env.getD y.n.toNat default).toNat) Hx) (λ_ _=>False):=by
 refine aM func61 λB I o=>?_;have s:=c.many;have a:=hT.1 (m _ (bI (k:=y.n.toNat) aa));refine aT ?_;refine bP 9 14 ?_;refine aP ?_;refine bg (lL) ?_;refine bg (ad.le (ad.cF rfl rfl rfl rfl) (an.b4 a.1)) ?_;refine aO ?_;refine cE .k ((pg c h hn (a.2) y f env j).b) ?_;rintro _ _ ⟨rfl,rfl⟩;refine aR ?_;refine gM [] (bN p ah q (g.bU n (env.getD y.n.toNat default).toNat) Hx) ?_;exact⟨rfl,rfl⟩
def adi{p}{q}{g}(l:fB p q)(h:bf p g.t){n}(hn:n<p.nodes.length){y}{a env}{m}(f:∀k∈a,ct (aJ p) k=true):bO prog 66 [.p q.bx 0,ab.mU n y a env m] (bN p ah q g Hx) (λr o=>r= .bk []/\o=bN p ah q (g.bU n (dy a 1)) Hx) (λ_ _=>False):=by
 refine aM func66 λB I s=>?_;have v:=l.many;obtain⟨j,c⟩:=p9 f 1;refine bY ?_;refine ag (.le uW (an.b4 j)) ?_;refine cE .k ((pg l h hn (c) y a env m).b) ?_;rintro _ _ ⟨rfl,rfl⟩;refine aR ?_;refine gM [] (bN p ah q (g.bU n (dy a 1)) Hx) ?_;exact⟨rfl,rfl⟩
def adj{p}{q}{g}(l:fB p q)(h:bf p g.t){n}(hn:n<p.nodes.length){y}{a env}{m}(f:∀k∈a,ct (aJ p) k=true):bO prog 68 [.p q.bx 0,ab.mU n y a env m] (bN p ah q g Hx) (λr o=>r= .bk []/\o=bN p ah q (g.bU n (dy a 0)) Hx) (λ_ _=>False):=by
 refine aM func68 λB I s=>?_;have v:=l.many;obtain⟨j,c⟩:=p9 f 0;refine bY ?_;refine ag (.le uW (an.b4 j)) ?_;refine cE .k ((pg l h hn (c) y a env m).b) ?_;rintro _ _ ⟨rfl,rfl⟩;refine aR ?_;refine gM [] (bN p ah q (g.bU n (dy a 0)) Hx) ?_;exact⟨rfl,rfl⟩
def adk{p}{q}{g}(o:fB p q)(h:bf p g.t){n}(hn:n<p.nodes.length){y}{a env}{s}(j:∀k∈a,ct (aJ p) k=true):bO prog 67 [.p q.bx 0,ab.mU n y a env s] (bN p ah q g Hx) (λr w=>r= .bk []/\w=bN p ah q (g.bU n (dy a 1 ||| dy a 2)) Hx) (λ_ _=>False):=by
 refine aM func67 λB I A=>?_;have v:=o.many;obtain⟨l,f⟩:=p9 j 1;obtain⟨m,c⟩:=p9 j 2;have z:=jt v f;have x:=jt v c;refine bY ?_;refine ag (.le uW (.b4 l)) ?_;refine aO ?_;refine ag (.le (ad.cF rfl rfl rfl rfl) (an.b4 m)) ?_;refine ag (ad.bits rfl rfl rfl rfl rfl (kg _ _ aa aa)) ?_;refine cE .k ((pg o h hn (xC f c) y a env s).b) ?_;rintro _ _ ⟨rfl,rfl⟩;refine aR ?_;refine gM [] (bN p ah q (g.bU n (dy a 1 ||| dy a 2)) Hx) ?_;exact⟨rfl,rfl⟩
def Q2{p:Prog}(t:cI)(aH:(bw p).isSome){k:Nat}(C:k<2^aJ p)(s:Int):aG prog 104 [ab.ew p t,.i k,.i s] (.b (su p k s)):=by
 intro H;refine bO.qC func104 rfl ay rfl rfl (λB I N=>?_);have K:=o8 aH;refine aY ?_;refine bK (λcV=>?_);refine ax ?_;refine ag (ad.call .k ((zw _))) ?_;refine aF ?_;refine aB.weaken (st':=⟨[(9,.fn (.func 76) [] [.ptr [.i k]]),(3,.ptr [ab.ew p t]),(5,.ptr [.i s]),(6,.p cV 0)],[.au cV 4 [.b false]]++(gW []++H)⟩) hW gA ?_;refine aB.qU [] (λ_ (c:Nat)=>.i c) (λ_ _=>[]) (gf k) (λpre H=>H= [.au cV 4 [.b false]]/\pre.any (λc=>dT p c s)=false) (λcode _ H=>code= .ret/\H= [.au cV 4 [.b true]]/\su p k s=true) ([.au cV 4 [.b false]]) (H) (λ_ x=>[(7,.i x),(10,.i x),(3,.ptr [ab.ew p t]),(5,.ptr [.i s]),(6,.p cV 0)]) rfl rfl rfl rfl ((vv _ aa).b) (⟨rfl,rfl⟩) ?_ ?_ ?_ ?_
 ·intro F G E D x J;refine aF ?_;exact λa w s=>⟨_,rfl,s.weaken (lQ hW) (List.Sublist.refl _)⟩
 ·intro F l M pre D x z J G E f r;obtain⟨rfl,m⟩:=r;have j:x∈gf k:=f.subset aS;have L:x<aJ p:=tM C j;refine ax ?_;refine ag (ad.call .k (Af t aH L s)) ?_;refine aO ?_;refine bc (λaf=>?_) (λaf=>?_)
  ·have af:dT p x s=true:=by simpa using af
   refine aP ?_;exact aZ.Ft (H:=[.au cV 4 [.b true]]) kq ⟨rfl,rfl,List.any_eq_true.2 ⟨x,j,af⟩⟩
  ·have af:dT p x s=false:=by simpa using af
   refine aO ?_;exact aZ.mx (H:=[.au cV 4 [.b false]]) kq ⟨rfl,by rw[List.any_append,m,List.any_cons,af];rfl⟩
 ·intro l z r;obtain⟨rfl,m⟩:=r;refine aI ?_;refine aZ.k1 (l::[]) ([.au cV 4 [.b false]]) H (rs:=[.cell 6 4]) (H':=H) rfl gA (sR) (c0.refl _) bC ?_;exact⟨bq m.symm,rfl⟩
 ·intro l q pre z f v;obtain⟨rfl,rfl,o⟩:=v
  ·refine aF ?_;refine aZ.k1 (l::[]) ([.au cV 4 [.b true]]) H (rs:=[.cell 6 4]) (H':=H) rfl gA (sR) (c0.refl _) bC ?_;exact⟨bq o.symm,rfl⟩
section
variable{p:Prog}{ah:Nat->Nat->Bool}{q:gx}{g:GT}{Hx:aA}
def adl(h:c<q.ms.length):dW (q.ms.getD c default).1 (q.ms.getD c default).2∈bN p ah q g Hx:=by
 have a:dW (q.ms.getD c default).1 (q.ms.getD c default).2∈gw q.ms:=List.mem_map.2 ⟨_,bI h,rfl⟩;show _∈_::(eg ah q g.t++Hx);simp only[eg,List.mem_cons,List.mem_append];simp only[a,true_or,or_true]
end
def adm{p}{q}(f:fB p q){c}(h:c<aJ p)(s):(hz (q.ms.getD c default).2 s).getD (.val (.bool false))= .b (((if eH p c then nv p c else []).map (·.1)).contains s):=by
 rw[(f.ins.2 c h).get s];by_cases a:((if eH p c then nv p c else []).map (·.1)).contains s=true
 ·rw[if_pos a,a];rfl
 ·rw[if_neg a,Bool.eq_false_iff.2 a];rfl
def Q3{p}{q}{g}(f:fB p q)(h:bf p g.t){c}(a:c<aJ p){s}(B:0<=s/\s<p.av)(j:fV s):bO prog 105 [.p q.bx 0,.i (c:Int),.i s] (bN p ah q g Hx) (λr z=>r= .bk []/\z=bN p ah q (GT.begin p c g s) Hx) (λ_ _=>False):=by
 refine aM func105 λB I C=>?_;have m:=f.many;have w:=h.nl;have x:=h.ai;have v:=h.pl;have o:=h.ho;refine dk ?_;refine ag ((by first | exact .fC rfl rfl rfl rfl rfl (by rw[f.ins.1];exact a) | exact .ep rfl rfl rfl rfl rfl (by rw[f.ins.1];exact a))) ?_;refine aO ?_;refine ag (.eq (.tm rfl rfl rfl rfl rfl (adl (by rw[f.ins.1];exact a)) (f.ins.2 c a).ok j) (adm f a s)) ?_;refine aO ?_;refine bc (λaf=>?_) λaf=>?_
 ·have l:p5 p c s=2:=if_pos af;refine aY ?_;refine .le 6 (y:=.i (p5 p c s:Int)) rfl (.b4 (by rw[l];rfl)) ?_;refine aI ?_;refine ag (.dX rfl rfl rfl rfl rfl (tV (i:=s.toNat) aa) ⟨aa,aa⟩) ?_;refine aR ?_;refine cE .k ((DN h m aa (DK c s)).b) ?_;rintro _ _ ⟨rfl,rfl⟩;refine aR ?_;refine gM [] (bN p ah q (GT.begin p c g s) Hx) ?_;exact⟨rfl,rfl⟩
 ·have l:p5 p c s=4:=if_neg (by rw[af];decide);refine aO ?_;refine aB.le 6 (y:=.i (p5 p c s:Int)) rfl (an.b4 (by rw[l];rfl)) ?_;refine aI ?_;refine ag (ad.dX rfl rfl rfl rfl rfl (tV (i:=s.toNat) aa) ⟨aa,aa⟩) ?_;refine aR ?_;refine cE .k ((DN h m aa (DK c s)).b) ?_;rintro _ _ ⟨rfl,rfl⟩;refine aR ?_;refine gM [] (bN p ah q (GT.begin p c g s) Hx) ?_;exact⟨rfl,rfl⟩
def DO{p}{t}(h:bf p t){s}(a:0<=s/\s<p.av):t.av.getD s.toNat default=((t.av.getD s.toNat default).toNat:Int)/\fo p (t.av.getD s.toNat default).toNat:=by
 have:=h.ai;exact hT.1 (h.ff _ nm)
def hK(h:i<l.length):(l.map ab.i)[i]? =some (.i (l.getD i default)):=by
 rw[List.getElem?_map,List.getD_eq_getElem?_getD,List.getElem?_eq_getElem h];rfl
def adn{p}{q}{g}(c:fB p q)(h:bf p g.t){n}(hn:n<p.nodes.length){y}{a env}{s}(m:∀k∈a,ct (aJ p) k=true)(hy:0<=y.n/\y.n<p.av):bO prog 62 [.p q.bx 0,ab.mU n y a env s] (bN p ah q g Hx) (λr w=>r= .bk []/\w=bN p ah q (if su p (dy a 0) y.n then g.bU n (g.t.av.getD y.n.toNat default).toNat else g) Hx) (λ_ _=>False):=by
 refine aM func62 λB I z=>?_;have A:=c.many;have v:=h.ai;obtain⟨j,l⟩:=p9 m 0;obtain⟨f,o⟩:=DO h hy;refine bY ?_;refine ag (.le uW (.b4 j)) ?_;refine aF ?_;refine ag (ad.qF .k (fp.ew c h (pre:=[]) (post:=[.i (dy a 0:Int),.i y.n])) (Q2 _ c.aH l.1 y.n)) ?_;refine aO ?_;refine az (λaf=>?_) λaf=>?_
 ·refine bP 12 25 ?_;refine bY ?_;refine bg (ad.dX rfl rfl rfl rfl rfl (tV (i:=y.n.toNat) aa) ⟨aa,aa⟩) ?_;refine bg (ad.le (ad.gk rfl rfl rfl (tV (i:=y.n.toNat) aa) (hK aa)) (an.b4 f)) ?_;refine aO ?_;refine cE .k ((pg c h hn (o) y a env s).b) ?_;rintro _ _ ⟨rfl,rfl⟩;refine aR ?_;refine gM [] (bN p ah q (g.bU n (g.t.av.getD y.n.toNat default).toNat) Hx) ?_;exact⟨rfl,by rw[if_pos af]⟩
 ·refine aR ?_;refine gM [] (bN p ah q g Hx) ?_;exact⟨rfl,by rw[if_neg (by rw[af];decide)]⟩
def ado{p}{q}{g}(l:fB p q)(h:bf p g.t){n}(hn:n<p.nodes.length){y}{a env}{w:Int}(j:∀k∈a,ct (aJ p) k=true)(hy:0<=y.n/\y.n<p.av):bO prog 64 [.p q.bx 0,ab.mU n y a env w] (bN p ah q g Hx) (λr z=>r= .bk []/\z=bN p ah q (tT p n y.n (dy a 0) (dy a 1) g) Hx) (λ_ _=>False):=by
 refine aM (n:=32) func64 λB I C=>?_;have B:=l.many;have x:=h.ai;obtain⟨s,m⟩:=p9 j 0;obtain⟨f,c⟩:=p9 j 1;have o:=h.bU n c;have v:=o.ai;refine bE ?_;refine ag (ad.le (ad.cF rfl rfl rfl rfl) (an.b4 f)) ?_;refine cE .k ((pg l h hn (c) y a env w).b) ?_;rintro _ _ ⟨rfl,rfl⟩;refine aP ?_;refine ag (ad.le (ad.cF rfl rfl rfl rfl) (an.b4 s)) ?_;refine aF ?_;refine ag (ad.qF .k (fp.ew l o (pre:=[]) (post:=[.i (dy a 0:Int),.i y.n])) (Q2 _ l.aH m.1 y.n)) ?_;refine aO ?_;refine az (λaf=>?_) λaf=>?_
 ·refine bP 13 32 ?_;refine ba ?_;refine bg (ad.dX rfl rfl rfl rfl rfl (tV (i:=y.n.toNat) aa) ⟨aa,aa⟩) ?_;refine aO ?_;refine bg (ad.le (ad.cF rfl rfl rfl rfl) (an.b4 f)) ?_;refine aO ?_;refine cE .k ((DN o B aa c).b) ?_;rintro _ _ ⟨rfl,rfl⟩;refine aR ?_;refine gM [] (bN p ah q ((g.bU n (dy a 1)).eL y.n.toNat (dy a 1)) Hx) ?_;exact⟨rfl,by rw[tT,if_pos af]⟩
 ·refine aR ?_;refine gM [] (bN p ah q (g.bU n (dy a 1)) Hx) ?_;exact⟨rfl,by rw[tT,if_neg (by rw[af];decide)]⟩
theorem Q4:∀(l:ak) (n:Nat),iD l n=true->∀x∈l,(n:Int)<=x/\x<n+l.length
 | [],n,_,x,a=>by cases a
 | y::r,n,h,x,a=>by
  simp[iD,Bool.and_eq_true,beq_iff_eq,decide_eq_true_eq] at h;rw[List.length_cons];rcases List.mem_cons.1 a with rfl | a
  ·omega
  ·have:=Q4 r _ h.2 x a;omega
theorem Q5:∀(l:List h9) (n:Nat),jo l n=true->∀c∈l,∀x∈c.av,0<=x/\x<n+ej l
 | [],n,_,c,a=>by cases a
 | y::r,n,h,c,a=>by
  simp[jo,Bool.and_eq_true,decide_eq_true_eq] at h;have e:ej (y::r)=y.av.length+ej r:=by simp[ej]
  rcases List.mem_cons.1 a with rfl | a
  ·exact λx f=>by have:=Q4 _ _ h.1.2 x f;omega
  ·exact λx f=>by have:=Q5 r _ h.2 c a x f;omega
def I8{p}{c}(g:eH p c){s}(h:s∈cu p c):(0<=s/\s<p.av)/\fV s:=by
 obtain⟨_,f⟩:=ve g;have a:=f;simp[fP,Bool.and_eq_true,decide_eq_true_eq,beq_iff_eq] at a;obtain⟨⟨⟨q,l⟩,j,t⟩,r⟩:=a;obtain⟨k,o,m⟩:=GZ h;have v:=Q5 _ _ l k o _ m;refine⟨aa,?_⟩;exact (o7 g).has s h
def DP{p}:∀s∈fH p c,(0<=s/\s<p.av)/\fV s:=λs a=>by
 unfold fH at a;cases bb:eH p c with
 | true=>rw[bb,if_pos rfl] at a;exact I8 bb a
 | false=>rw[bb,if_neg c8] at a;cases a
def Q6(p)(c):(fH p c).length<=20000:=by
 unfold fH;cases bb:eH p c with
 | true=>rw[if_pos rfl];exact (o7 bb).br
 | false=>rw[if_neg c8];exact Nat.zero_le _
def Q7{p}(h:c<aJ p):(fg p).getD c default=fH p c:=by rw[fg,pb _ h];rfl
def xH{c j:Type}[Inhabited c]{f}{l:List c}{i:Nat}(h:i<l.length)(g:j):(l.take (i+1)).foldl f g=f ((l.take i).foldl f g) (l.getD i default):=by rw[<-c2 h,List.foldl_append];rfl
def xI{vs:dg}(h:∀v∈vs,v.oneCell'=true):(vs.map λv=>[.val v]).all dB=true:=List.all_eq_true.2 (by
 rintro _ c;obtain⟨v,a,rfl⟩:=List.mem_map.1 c;exact Cf (h v a))
def adp{vs:dg}(f:vs.length<=1000000)(a:∀v∈vs,v.oneCell'=true):qO prog 107 [.ai 1 (vs.map λv=>[ab.val v])] 23 1 (.ai 1 (vs.map λv=>[.val v])):=by
 intro H;refine aM func107 λB I h=>?_;refine ba ?_;refine .uQ rfl rfl rfl rfl rfl rfl rfl gu rfl rfl λxp c=>?_;refine aO ?_;refine az (λaf=>?_) λaf=>?_
 ·refine aP ?_;refine .qx 2 23 1 rfl ?_;refine aC 2 _ ?_;exact⟨_,congrArg (λx=>ab.as x _) (show ab.ai 1 []=ab.ai 1 _ by rw[c af]),rfl⟩
 ·refine aY ?_;refine .yU rfl rfl rfl rfl λv5=>?_;refine aR ?_;refine .dJ rfl rfl rfl rfl rfl rfl rfl rfl (an.refl _) (xI a) (λ_=>df) cB cB λAs=>?_;refine aY ?_;refine aC 2 _ ?_;exact⟨_,rfl,rfl⟩
def adq(l:ak):(l.map λx=>[.i x]).all dB=true:=List.all_eq_true.2 KI
def adr(l:ak):(l.map λx=>[ab.i x]).flatten=l.map ab.i:=by
 induction l with
 | nil=>rfl
 | cons x r a=>rw[List.map_cons,List.flatten_cons,a];rfl
def Q8(l)(a:l≠ [])(f:l.length<=1000000)(H):bO prog 21 [.ai 1 (l.map λx=>[.i x])] H (λy H'=>∃v,y= .val v/\H'= .row 3 1 v l.length (l.map .i)::H) (λ_ _=>False):=by
 refine aM func21 λB I j=>?_;refine ba ?_;refine .uQ rfl rfl rfl rfl rfl rfl rfl gu rfl rfl λxp c=>?_;refine aO ?_;refine bc (λaf=>?_) λaf=>?_
 ·exact absurd (c af) (by simpa using a)
 ·refine aY ?_;refine .yU rfl rfl rfl rfl λv5=>?_;refine aR ?_;refine .L8 (d:=5) rfl CA ?_;refine .Cd (news:=l.map λx=>[.i x]) rfl rfl rfl rfl rfl rfl rfl rfl gu (by simpa using a) (adq l) (λv=>.head _ _ _) cB cB λAs=>?_;refine aY ?_;refine .cg (rs:=[.tmp 2]) (H':=_) rfl eQ cL kq ?_;exact⟨As,rfl,by rw[adr];simp⟩
def ads:aG prog 21 [.ai 1 []] (.ai 1 []):=by
 intro H;refine aM func21 λB I c=>?_;refine ba ?_;refine .uQ rfl rfl rfl rfl rfl rfl rfl gu rfl rfl λxp a=>?_;refine aO ?_;refine az (λaf=>?_) λaf=>?_
 ·refine aP ?_;refine .cg (rs:=[.tmp 2]) (H':=H) rfl eQ tq bC ?_;exact⟨cO,rfl⟩
 ·refine ax ?_;refine ag (ad.BO rfl rfl rfl (an.refl _) rfl rfl (an.refl _) rfl BB BB) ?_;refine aY ?_;refine aC 2 (H) ?_;exact⟨cO,rfl⟩
def adt(l)(g:l.length<=1000000)(H):bO prog 21 [.ai 1 (l.map λx=>[.i x])] H (λy f=>∃v,y= .val v/\f=c6 v l++H/\(l= []->∃a c,v= .slice a 0 c)/\v.oneCell'=true) (λ_ _=>False):=by
 by_cases h:l= []
 ·subst h;exact (aG.MJ (k:=1) ads H).w6 λy f _ ⟨a,c,bM,bL⟩=>⟨_,bM,bL,λ_=>⟨a,c,rfl⟩,rfl⟩
 ·exact (Q8 l h g H).w6 λy f ⟨B,I,w,aU⟩ ⟨v,bM,bL⟩=>⟨v,bM,by rw[bL,c6,if_neg h];rfl,λe=>absurd e h,by subst bL;exact bn.row_one (aU.ok _ dv)⟩
def adu(l:cW):(l.map λx=>[.b x]).all dB=true:=List.all_eq_true.2 KI
def adv(l:cW):(l.map λx=>[ab.b x]).flatten=l.map ab.b:=by
 induction l with
 | nil=>rfl
 | cons x r a=>rw[List.map_cons,List.flatten_cons,a];rfl
def adw(l)(a:l≠ [])(f:l.length<=1000000)(H):bO prog 20 [.ai 1 (l.map λx=>[.b x])] H (λy H'=>∃v,y= .val v/\H'= .row 4 1 v l.length (l.map .b)::H) (λ_ _=>False):=by
 refine aM func20 λB I j=>?_;refine ba ?_;refine .uQ rfl rfl rfl rfl rfl rfl rfl gu rfl rfl λxp c=>?_;refine aO ?_;refine bc (λaf=>?_) λaf=>?_
 ·exact absurd (c af) (by simpa using a)
 ·refine aY ?_;refine .yU rfl rfl rfl rfl λv5=>?_;refine aR ?_;refine .L8 (d:=5) rfl CA ?_;refine .Cd (news:=l.map λx=>[.b x]) rfl rfl rfl rfl rfl rfl rfl rfl gu (by simpa using a) (adu l) (λv=>.head _ _ _) cB cB λAs=>?_;refine aY ?_;refine .cg (rs:=[.tmp 2]) (H':=_) rfl eQ cL kq ?_;exact⟨As,rfl,by rw[adv];simp⟩
def adx:aG prog 20 [.ai 1 []] (.ai 1 []):=by
 intro H;refine aM func20 λB I c=>?_;refine ba ?_;refine .uQ rfl rfl rfl rfl rfl rfl rfl gu rfl rfl λxp a=>?_;refine aO ?_;refine az (λaf=>?_) λaf=>?_
 ·refine aP ?_;refine .cg (rs:=[.tmp 2]) (H':=H) rfl eQ tq bC ?_;exact⟨cO,rfl⟩
 ·refine ax ?_;refine ag (ad.BO rfl rfl rfl (an.refl _) rfl rfl (an.refl _) rfl BB BB) ?_;refine aY ?_;refine aC 2 (H) ?_;exact⟨cO,rfl⟩
def ady(l)(g:l.length<=1000000)(H):bO prog 20 [.ai 1 (l.map λx=>[.b x])] H (λy f=>∃v,y= .val v/\f=fI v l++H/\(l= []->∃a c,v= .slice a 0 c)/\v.oneCell'=true) (λ_ _=>False):=by
 by_cases h:l= []
 ·subst h;exact (aG.MJ (k:=1) adx H).w6 λy f _ ⟨a,c,bM,bL⟩=>⟨_,bM,bL,λ_=>⟨a,c,rfl⟩,rfl⟩
 ·exact (adw l h g H).w6 λy f ⟨B,I,w,aU⟩ ⟨v,bM,bL⟩=>⟨v,bM,by rw[bL,fI,if_neg h];rfl,λe=>absurd e h,by subst bL;exact bn.row_one (aU.ok _ dv)⟩
def adz{p}{q}{g}(C:fB p q)(h:bf p g.t){n}(hn:n<p.nodes.length){y:hi}{z env:ak}{D:Int}{c:Nat}(o:y.n=(c:Int))(v:1<=c)(a:c<aJ p):bO prog 63 [.p q.bx 0,ab.mU n y z env D] (bN p ah q g Hx) (λr G=>r= .bk []/\G=bN p ah q (vA p n c g) Hx) (λ_ _=>False):=by
 refine aM (n:=34) func63 λB I J=>?_;have K:=C.many;have E:=Q6 p c;have j:=sS p;have B:=h.bU n (km v a);have A:∀i,bf p (((fH p c).take i).foldl (GT.begin p c) (g.bU n (2^c))).t:=λi=>hU _ B λg s _ h=>vC h c s;refine ax ?_;refine bP 6 34 ?_;refine aY ?_;refine bg (ad.le (ad.cF rfl rfl rfl rfl) (an.b4 o)) ?_;refine bg (ad.shift rfl rfl rfl rfl rfl aa (mO c ⟨aa,aa⟩)) ?_;refine aO ?_;refine cE .k ((pg C h hn (km v a) y z env D).b) ?_;rintro _ _ ⟨rfl,rfl⟩;refine aF ?_;refine bP 11 34 ?_;refine ax ?_;refine bg (ad.le (ad.cF rfl rfl rfl rfl) (an.b4 o)) ?_;refine bg ((by first | exact ad.fC rfl rfl rfl rfl rfl (by rw[j];exact a) | exact ad.ep rfl rfl rfl rfl rfl (by rw[j];exact a))) ?_;refine bg (ad.le (ad.cF rfl rfl rfl rfl) (by rw[Q7 a];exact an.refl _)) ?_;refine aF ?_;refine b0.done rfl ?_;refine aO ?_;refine bo (λm F=>∃i:Nat,F=⟨[(23,.i i),(22,.i (fH p c).length),(21,ab.ints (fH p c)),(3,.ptr (fJ n y z env D)),(0,.p q.bx 0)],bN p ah q (((fH p c).take i).foldl (GT.begin p c) (g.bU n (2^c))) Hx⟩/\m=(fH p c).length - i/\i<=(fH p c).length) (⟨0,rfl,rfl,aa⟩) ?_;rintro m _ ⟨i,rfl,rfl,H⟩;refine ax ?_;refine az (λaf=>?_) λaf=>?_
 ·have l:i<(fH p c).length:=by omega
  have w:=DP _ (bI l);have x:=xH (f:=GT.begin p c) l (g.bU n (2^c));refine eb ?_;refine ag (ad.le (ad.cF rfl rfl rfl rfl) (an.b4 o)) ?_;refine aR ?_;refine cE .k ((Q3 C (A i) a w.1 w.2).b) ?_;rintro _ _ ⟨rfl,rfl⟩;refine aP ?_;exact aW (⟨i+1,by rw[x],rfl,l⟩)
 ·obtain rfl:i=(fH p c).length:=by omega
  refine aY ?_;rw[List.take_length];refine gM [] (bN p ah q (vA p n c g) Hx) ?_;exact⟨rfl,rfl⟩
end Go.Proofs.YtodccgailpkgeaaGreat

