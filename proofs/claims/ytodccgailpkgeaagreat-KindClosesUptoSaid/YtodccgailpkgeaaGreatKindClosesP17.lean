/- A part of the proof. No condition. -/
import Derived.Test.YtodccgailpkgeaaGreatKindClosesP16
set_option linter.defProp false
set_option maxHeartbeats 1000000
set_option linter.unusedVariables false
set_option linter.unusedSimpArgs false
set_option maxRecDepth 10000
namespace Go.Eng.dO
open Go.Eng.Fc
variable{m x c:Nat}{k:Int}{l kinds a b:al}{α:Type}
instance:Inhabited cv:=⟨⟨[],[],[],[]⟩⟩
structure GT where
 t:cv
 ch:Bool
def pr(k:Int)(more:Nat):Int:=((k.toNat ||| more:Nat):Int)
def hf(l:al)(i:Nat)(more:Nat):al:=l.set i (pr (l.getD i default) more)
def kU(l:al)(i:Nat)(more:Nat):Bool:=pr (l.getD i default) more !=l.getD i default
def GT.bX(g:GT)(i:Nat)(more:Nat):GT:=⟨{g.t with nodes:=hf g.t.nodes i more},g.ch || kU g.t.nodes i more⟩
def GT.eN(g:GT)(i:Nat)(more:Nat):GT:=⟨{g.t with aw:=hf g.t.aw i more},g.ch || kU g.t.aw i more⟩
def GT.im(g:GT)(m i:Nat)(more:Nat):GT:=⟨{g.t with params:=g.t.params.set m (hf (g.t.params.getD m default) i more)},g.ch || kU (g.t.params.getD m default) i more⟩
def GT.reach(g:GT)(m:Nat):GT:=⟨{g.t with bC:=g.t.bC.set m true},g.ch || !g.t.bC.getD m default⟩
def fG(p:Prog)(c:Nat):al:=if eJ p c then cw p c else []
def qc(p:Prog)(c:Nat)(s:Int):Nat:=if((if eJ p c then nH p c else []).map (·.1)).contains s then 2 else 4
def GT.begin(p:Prog)(c:Nat)(g:GT)(s:Int):GT:=g.eN s.toNat (qc p c s)
def sF(p:Prog)(k:Nat)(s:Int):Bool:=(fP k).any λc=>dK p c s
def vE(p:Prog)(n c:Nat)(g:GT):GT:=(fG p c).foldl (GT.begin p c) (g.bX n (2^c))
def e9(t:cv)(i:Nat):al:=if i<t.params.length then t.params.getD i default else if i=t.params.length then t.nodes else t.aw
def GT.nK(g:GT)(i j x:Nat):GT:=if i<g.t.params.length then g.im i j x else if i=g.t.params.length then g.bX j x else g.eN j x
def hK(c to i:Nat)(g:GT)(j:Nat):GT:=if((e9 g.t i).getD j default).toNat.testBit c then g.nK i j (2^to) else g
def eC(c to:Nat)(g:GT)(i:Nat):GT:=(List.range (e9 g.t i).length).foldl (hK c to i) g
def GT.ku(c to:Nat)(g:GT):GT:=(List.range (g.t.params.length+2)).foldl (eC c to) g
def jj(p:Prog)(n to:Nat)(g:GT)(c:Nat):GT:=if c<3 then g else (fG p to).foldl (λg s=>if dK p c s then g else GT.begin p to g s) (GT.ku c to (g.bX n (2^to)))
def ps(p:Prog)(n to:Nat)(k:Nat)(g:GT):GT:=(fP k).foldl (jj p n to) g
def sG(M:hC):Bool:=M.kind==1 || M.kind==4
def nL(m:Nat)(got:al)(g:GT):GT:=(List.range got.length).foldl (λg k=>g.im m k (got.getD k default).toNat) g
def m0(p:Prog)(n:Nat)(g:GT)(x:Int×al):GT:=
 let g1:=nL x.1.toNat x.2 (g.reach x.1.toNat)
 let M:=p.methods.getD x.1.toNat default
 if sG M then g1.bX n (g1.t.nodes.getD M.node.toNat default).toNat else g1
def sH(p:Prog)(n:Nat)(gen:Int)(kinds:al)(g:GT):GT:=(eK p g.t gen kinds).foldl (m0 p n) g
def jZ(p:Prog)(ah:Nat->Nat->Bool)(n m:Nat)(g:GT)(o:Nat):GT:=
 let M:=p.methods.getD m default;let N:=p.methods.getD o default
 if g.t.bC.getD o default && N.gen==M.gen && ((N.kind==M.kind && ah m o) || (M.kind==4 && N.kind==1)) then g.bX n (g.t.nodes.getD N.node.toNat default).toNat else g
def sI(p:Prog)(ah:Nat->Nat->Bool)(n m:Nat)(g:GT):GT:=(List.range p.methods.length).foldl (jZ p ah n m) g
def dD(cO:al)(i:Nat):Nat:=(cO.getD i default).toNat
def tX(p:Prog)(n:Nat)(s:Int)(ho gu:Nat)(g:GT):GT:=if sF p ho s then (g.bX n gu).eN s.toNat gu else g.bX n gu
def eI(p:Prog)(ah:Nat->Nat->Bool)(y:gR)(n:Nat)(env:al)(m:Int)(cO:al)(g:GT):GT:=
 if y.op=1\/(12<=y.op/\y.op<=16) then g.bX n 2
 else if y.op=2 then g.bX n 4
 else if y.op=3 then g.bX n (env.getD y.n.toNat default).toNat
 else if y.op=4 then if sF p (dD cO 0) y.n then g.bX n (g.t.aw.getD y.n.toNat default).toNat else g
 else if y.op=6 then vE p n y.n.toNat g
 else if y.op=7 then tX p n y.n (dD cO 0) (dD cO 1) g
 else if y.op=8 then ps p n y.n.toNat (dD cO 0) g
 else if y.op=9\/y.op=11 then g.bX n (dD cO 1)
 else if y.op=10 then g.bX n (dD cO 1 ||| dD cO 2)
 else if y.op=17 then g.bX n (dD cO 0)
 else if y.op=5 then sH p n y.n cO g
 else if y.op=18 then if m<0 then g else sI p ah n m.toNat g
 else g
def j0(run:Int->al->GT->GT)(y:gR)(env:al):Nat->al->GT->GT
 | _,[],g=>g
 | i,k::r,g=>j0 run y env (i+1) r (run k (if y.op=9/\i=1 then env++[g.t.nodes.getD (y.kids.getD 0 default).toNat default] else env) g)
def mo(t:cv)(y:gR):al:=y.kids.map λk=>t.nodes.getD k.toNat default
def fQ(p:Prog)(ah:Nat->Nat->Bool)(m:Int):Nat->Int->al->GT->GT
 | 0,_,_,g=>g
 | f+1,n,env,g=>let y:=ji p n;let g1:=j0 (fQ p ah m f) y env 0 y.kids g;eI p ah y n.toNat env m (mo g1.t y) g1
def kV(p:Prog)(ah:Nat->Nat->Bool)(g:GT)(m:Nat):GT:=if g.t.bC.getD m default then fQ p ah m 13 (p.methods.getD m default).node (g.t.params.getD m default) g else g
def fR(p:Prog)(ah:Nat->Nat->Bool)(t:cv):GT:=fQ p ah (-1) 13 p.main [] ((List.range p.methods.length).foldl (kV p ah) ⟨t,false⟩)
def sJ(p:Prog)(ah:Nat->Nat->Bool):Nat->cv->cv
 | 0,t=>t
 | k+1,t=>if(fR p ah t).ch then sJ p ah k (fR p ah t).t else t
def fp(p:Prog)(x:Nat):Prop:=x<2^aG p/\x.testBit 0=false
structure bf(p:Prog)(t:cv):Prop where
 hp:t.bC.length=p.methods.length
 pl:t.params.length=p.methods.length
 nl:t.nodes.length=p.nodes.length
 aj:(t.aw.length:Int)=p.aw
 jW:∀i,i<p.methods.length->((t.params.getD i default).length:Int)=p.c2.getD (p.methods.getD i default).gen.toNat default
 ks:∀l∈t.params,∀k∈l,cq (aG p) k=true
 nb:∀k∈t.nodes,cq (aG p) k=true
 fg:∀k∈t.aw,cq (aG p) k=true
def Rr{p}{t}:h5 p t=true↔bf p t:=by
 simp only[h5,Bool.and_eq_true,decide_eq_true_eq,List.all_eq_true,List.mem_range,p4,beq_iff_eq];constructor
 ·rintro⟨⟨⟨⟨⟨⟨l,h⟩,j⟩,o⟩,c⟩,m⟩,g⟩;refine⟨l,h,j,o,λi a=>(c i aa).1,λl r k f=>?_,m,g⟩;obtain⟨i,a,rfl⟩:=List.getElem_of_mem r;have:=(c i a).2;rw[List.getD_eq_getElem?_getD,List.getElem?_eq_getElem a] at this;exact this k f
 ·rintro⟨l,h,j,o,c,m,g,q⟩;exact⟨⟨⟨⟨⟨⟨l,h⟩,j⟩,o⟩,λi a=>⟨c i aa,λk f=>m _ (bH a) k f⟩⟩,g⟩,q⟩
def hW:cq m k=true↔k=(k.toNat:Int)/\k.toNat<2^m/\k.toNat.testBit 0=false:=by
 refine⟨sx,λ⟨a,ak,aL⟩=>?_⟩;simp[cq,Bool.and_eq_true,decide_eq_true_eq];rw[Nat.testBit_zero] at aL;simp at aL;refine⟨lK,?_⟩;rw[a];exact_mod_cast ak
def Rs{p}(h:cq (aG p) k):fp p k.toNat:=(hW.1 h).2
def vF(p):fp p 0:=⟨Nat.pow_pos c8,rfl⟩
def xK{p}{x y}(a:fp p x)(hy:fp p y):fp p (x ||| y):=⟨Nat.or_lt_two_pow a.1 hy.1,by rw[Nat.testBit_or,a.2,hy.2];rfl⟩
def kv{p}(f:1<=c)(a:c<aG p):fp p (2^c):=⟨Nat.pow_lt_pow_right c8 a,by rw[Nat.testBit_two_pow];simp;omega⟩
def adW{p}(a:cq (aG p) k)(c:fp p x):cq (aG p) (pr k x)=true:=hW.2 ⟨rfl,xK (Rs a) c⟩
def mq{p}(h:∀k∈l,cq (aG p) k=true)(i):fp p (l.getD i default).toNat:=by
 by_cases a:i<l.length
 ·exact Rs (h _ (bH a))
 ·rw[List.getD_eq_getElem?_getD,List.getElem?_eq_none aa];exact vF p
def kW(l)(i x):(hf l i x).length=l.length:=List.length_set
def Jb{p}(h:∀k∈l,cq (aG p) k=true){i x}(f:fp p x):∀k∈hf l i x,cq (aG p) k=true:=λk a=>by
 unfold hf at a;by_cases c:i<l.length
 ·rcases List.mem_or_eq_of_mem_set a with g | rfl
  ·exact h k g
  ·exact adW (h _ (bH c)) f
 ·rw[List.set_eq_of_length_le aa] at a;exact h k a
section
variable{p:Prog}{g:GT}
def bf.bX(h:bf p g.t)(i){x}(a:fp p x):bf p (g.bX i x).t:=⟨h.hp,h.pl,(kW _ _ _).trans h.nl,h.aj,h.jW,h.ks,Jb h.nb a,h.fg⟩
def bf.eN(h:bf p g.t)(i){x}(a:fp p x):bf p (g.eN i x).t:=⟨h.hp,h.pl,h.nl,by rw[<-h.aj];exact congrArg _ (kW _ _ _),h.jW,h.ks,h.nb,Jb h.fg a⟩
def nM[Inhabited α](l:List α)(m i)(x:α):(l.set m x).getD i default=if m=i/\i<l.length then x else l.getD i default:=by
 rw[List.getD_eq_getElem?_getD,List.getElem?_set];by_cases e:m=i
 ·subst e;by_cases h:m<l.length
  ·rw[if_pos rfl,if_pos h,if_pos ⟨rfl,h⟩];rfl
  ·rw[if_pos rfl,if_neg h,if_neg (λak=>h ak.2),List.getD_eq_getElem?_getD,List.getElem?_eq_none aa]
 ·rw[if_neg e,if_neg (λh=>e h.1),List.getD_eq_getElem?_getD]
def bf.im(h:bf p g.t)(m i){x}(o:fp p x):bf p (g.im m i x).t:=by
 refine⟨h.hp,(List.length_set).trans h.pl,h.nl,h.aj,λj c=>?_,λl a=>?_,h.nb,h.fg⟩
 ·show (((g.t.params.set m _).getD j default).length:Int)=_;rw[nM];split
  ·rename_i e;obtain⟨rfl,e⟩:=e;rw[kW];exact h.jW _ c
  ·exact h.jW j c
 ·have a:l∈g.t.params.set m (hf (g.t.params.getD m default) i x):=a;by_cases q:m<g.t.params.length
  ·rcases List.mem_or_eq_of_mem_set a with f | rfl
   ·exact h.ks l f
   ·exact Jb (h.ks _ (bH q)) o
  ·rw[List.set_eq_of_length_le aa] at a;exact h.ks l a
def bf.reach(h:bf p g.t)(m):bf p (g.reach m).t:=⟨(List.length_set).trans h.hp,h.pl,h.nl,h.aj,h.jW,h.ks,h.nb,h.fg⟩
theorem hX{j:Type}{f}:∀(L:List j) {g:GT},bf p g.t->(∀g,∀x∈L,bf p g.t->bf p (f g x).t)->bf p (L.foldl f g).t
 | [],g,h,_=>h
 | x::r,g,h,a=>hX r (a g x dB h) λg y c=>a g y (.tail _ c)
end
section
variable{p:Prog}
def DW(p):3<=aG p:=by unfold aG;omega
def DX(c)(s):fp p (qc p c s):=by
 have:=DW p;have f:fp p 2:=kv (p:=p) (c:=1) c8 aa;have a:fp p 4:=kv (p:=p) (c:=2) c8 aa;unfold qc;by_cases h:((if eJ p c then nH p c else []).map (·.1)).contains s=true
 ·rw[if_pos h];exact f
 ·rw[if_neg h];exact a
def vG{g}(h:bf p g.t)(c)(s):bf p (GT.begin p c g s).t:=h.eN _ (DX c s)
def adX{g}(h:bf p g.t)(n){c}(f:1<=c)(a:c<aG p):bf p (vE p n c g).t:=hX _ (h.bX _ (kv f a)) λg s _ h=>vG h c s
def adY{g:GT}(h:bf p g.t)(i j){x}(a:fp p x):bf p (g.nK i j x).t:=by
 unfold GT.nK;split
 ·exact h.im i j a
 split
 ·exact h.bX j a
 ·exact h.eN j a
def Ay{g}(h:bf p g.t)(c i j){to}(f:1<=to)(a:to<aG p):bf p (hK c to i g j).t:=by
 unfold hK;split
 ·exact adY h i j (kv f a)
 ·exact h
def Jc{g}(h:bf p g.t)(c){to}(f:1<=to)(a:to<aG p):bf p (GT.ku c to g).t:=
 hX _ h λg i _ h=>hX _ h λg j _ h=>Ay h c i j f a
def Jd{g}(h:bf p g.t)(n){to}(f:1<=to)(a:to<aG p)(c):bf p (jj p n to g c).t:=by
 unfold jj;split
 ·exact h
 ·refine hX _ (Jc (h.bX _ (kv f a)) c f a) λg s _ h=>?_;split
  ·exact h
  ·exact vG h to s
def Je{g}(h:bf p g.t)(n){to}(f:1<=to)(a:to<aG p)(k):bf p (ps p n to k g).t:=hX _ h λg c _ h=>Jd h n f a c
def Jf{g}(h:bf p g.t)(ah)(n m):bf p (sI p ah n m g).t:=hX _ h λg o _ h=>by
 unfold jZ;simp only;split
 ·exact h.bX _ (mq h.nb _)
 ·exact h
theorem Rt:∀{a x:al},x∈eb a->x.length=a.length/\∀i,i<a.length->∃c:Nat,x.getD i default=c/\c<62/\(a.getD i default).toNat.testBit c=true
 | [],x,h=>by
  simp only[eb,List.mem_singleton] at h;subst h;exact⟨rfl,λi aN=>by simp at aN⟩
 | k::r,x,h=>by
  simp[eb,List.mem_flatMap,List.mem_map] at h;obtain⟨c,f,l,g,rfl⟩:=h;obtain⟨ae,j⟩:=Rt g;refine⟨rQ,λi aN=>?_⟩;cases i with
  | zero=>exact⟨c,rfl,(tS.1 f).1,(tS.1 f).2⟩
  | succ i=>exact j i ng
def adZ(s:∀k∈kinds,cq (aG p) k=true){i}(o:i<kinds.length){L}(v:∀l∈L,l∈eb kinds):fp p (lV L i):=by
 have m:∀(L:List al) (a:Nat),fp p a->(∀l∈L,l∈eb kinds)->fp p (L.foldl (λa l=>a ||| 2^(l.getD i default).toNat) a):=by
  intro L
  induction L with
  | nil=>intro a j _;exact j
  | cons x r z=>
   intro a j h;refine z _ (xK j ?_) λl A=>h l (.tail _ A);obtain⟨c,B,w,g⟩:=(Rt (h x dB)).2 i o;have f:=hW.1 (s _ (bH o));rw[B];have q:c≠0:=λe=>by rw[e,f.2.2] at g;cases g
   refine kv (by show 1<=((c:Int)).toNat;simp;omega) ?_;show ((c:Int)).toNat<_;apply Decidable.byContradiction;intro t;rw[Du f.2.1 (by simp at t;omega)] at g;cases g
 exact m L 0 (vF p) v
def xL{t}{gen}(g:∀k∈kinds,cq (aG p) k=true):∀x∈eK p t gen kinds,(0<=x.1/\x.1<p.methods.length/\(p.methods.getD x.1.toNat default).gen=gen)/\x.2.length=kinds.length/\∀k∈x.2,cq (aG p) k=true:=λx l=>by
 obtain⟨m,o,h⟩:=List.mem_filterMap.1 l;split at h
 ·rename_i j;cases h;have:=List.mem_range.1 o;refine⟨⟨aT,by simpa using this,j.1⟩,by simp[hl],λk a=>?_⟩;obtain⟨i,f,rfl⟩:=List.mem_map.1 a;exact hW.2 ⟨rfl,adZ g (List.mem_range.1 f) λl c=>(List.mem_filter.1 c).1⟩
 ·cases h
def ad0{g}(h:bf p g.t)(m){got}(a:∀k∈got,cq (aG p) k=true):bf p (nL m got g).t:=hX _ h λg k _ h=>h.im m k (mq a k)
def Jg{g}(h:bf p g.t)(n){x}(c:∀k∈x.2,cq (aG p) k=true):bf p (m0 p n g x).t:=by
 unfold m0;have a:=ad0 (h.reach x.1.toNat) x.1.toNat c;simp only;split
 ·exact a.bX _ (mq a.nb _)
 ·exact a
def Jh{g}(h:bf p g.t)(n)(gen){kinds}(a:∀k∈kinds,cq (aG p) k=true):bf p (sH p n gen kinds g).t:=hX _ h λg x c h=>Jg h n (xL a x c).2.2
def mr{c}[Decidable c]{a b:GT}(j:c->bf p a.t)(g: ¬c->bf p b.t):bf p (if c then a else b).t:=by
 by_cases h:c
 ·rw[if_pos h];exact j h
 ·rw[if_neg h];exact g h
def ad1{g}(h:bf p g.t)(ah){y}(n){env}(m){r}{s}(hy:fW p y s)(v:∀k∈env,cq (aG p) k=true)(q:∀k∈r,cq (aG p) k=true):bf p (eI p ah y n env m r g).t:=by
 have w:=DW p;have f:=λi=>mq q i;have j:y.op=6\/y.op=8->3<=y.n/\y.n.toNat<aG p:=λbb=>by
  rw[fW,if_neg aa,if_pos bb] at hy;simp[Bool.and_eq_true,decide_eq_true_eq] at hy;refine⟨hy.1,?_⟩;unfold aG;omega
 unfold eI;refine mr (λ_=>h.bX _ (kv (p:=p) (c:=1) c8 aa)) λ_=>?_;refine mr (λ_=>h.bX _ (kv (p:=p) (c:=2) c8 aa)) λ_=>?_;refine mr (λ_=>h.bX _ (mq v _)) λ_=>?_;refine mr (λ_=>mr (λ_=>h.bX _ (mq h.fg _)) λ_=>h) λ_=>?_;refine mr (λbb=>adX h n (by have:=j (.inl bb);omega) (j (.inl bb)).2) λ_=>?_;refine mr (λ_=>mr (λ_=>(h.bX n (f 1)).eN _ (f 1)) λ_=>h.bX n (f 1)) λ_=>?_;refine mr (λbb=>Je h n (by have:=j (.inr bb);omega) (j (.inr bb)).2 _) λ_=>?_;refine mr (λ_=>h.bX _ (f 1)) λ_=>?_;refine mr (λ_=>h.bX _ (xK (f 1) (f 2))) λ_=>?_;refine mr (λ_=>h.bX _ (f 0)) λ_=>?_;refine mr (λ_=>Jh h n _ q) λ_=>?_;exact mr (λ_=>mr (λ_=>h) λ_=>Jf h ah n _) λ_=>h
def DY{t}(h:bf p t){y:gR}(c:∀k∈y.kids,0<=k/\k<p.nodes.length):∀k∈mo t y,cq (aG p) k=true:=λk a=>by
 obtain⟨x,f,rfl⟩:=List.mem_map.1 a;have:=c x f;exact h.nb _ (bH (by rw[h.nl];omega))
def xM{t}(h:bf p t){k:Int}(a:0<=k/\k<p.nodes.length):cq (aG p) (t.nodes.getD k.toNat default)=true:=h.nb _ (bH (by rw[h.nl];omega))
def Ru{run}{y:gR}{env}(hy:∀k∈y.kids,0<=k/\k<p.nodes.length)(c:∀k∈env,cq (aG p) k=true):∀(l:al) (i:Nat) {g:GT},(∀k∈l,k∈y.kids)->bf p g.t->
  (∀j,j<l.length->∀(e:al) (g:GT),(∀k∈e,cq (aG p) k=true)->(e.length=env.length+(if y.op=9/\i+j=1 then 1 else 0))->bf p g.t->bf p (run (l.getD j default) e g).t)->bf p (j0 run y env i l g).t
 | [],i,g,_,h,_=>h
 | k::r,i,g,m,h,o=>by
  rw[j0];refine Ru hy c r (i+1) (λx f=>m x (.tail _ f)) ?_ λj w e g v q s=>?_
  ·refine o 0 aT _ g ?_ ?_ h
   ·split
    ·intro x f;rcases List.mem_append.1 f with a | a
     ·exact c x a
     ·rw[List.mem_singleton.1 a];refine xM h (hy _ (bH ?_));have:=List.length_pos_of_mem (m k dB);omega
    ·exact c
   ·rw[Nat.add_zero];split
    ·rw[List.length_append];rfl
    ·rfl
  ·have:=o (j+1) (by simpa using w) e g v (by rw[q,show i+1+j=i+(j+1) by omega]) s;exact this
theorem Az{ah}{m}{next}:∀(f:Nat) {n:Int} {a:al} {g:GT},h9 p next f n a.length->(∀k∈a,cq (aG p) k=true)->bf p g.t->bf p (fQ p ah m f n a g).t
 | 0,n,a,g,l,_,_=>l.elim
 | f+1,n,a,g,l,s,h=>by
  rw[fQ];have c:=Au l;have o:bf p (j0 (fQ p ah m f) (ji p n) a 0 (ji p n).kids g).t:=by
   refine Ru c s _ 0 (λx x=>x) h λj w e g o r v=>?_;have:=l.2.2 j w;refine Az f (next:=next) (by
    rw[Nat.zero_add] at r;rw[r];split at this
    ·rename_i q;rw[if_pos q];simpa using this
    ·rename_i q;rw[if_neg q];simpa using this) o v
  exact ad1 o ah _ m (xG l).1 s (DY o c)
end
abbrev tY(k:Int)(c:Nat):Prop:=k.toNat.testBit c=true
def lr(a b:al):Prop:=∀i c,tY (a.getD i default) c->tY (b.getD i default) c
structure oD(a b:cv):Prop where
 r:∀i,a.bC.getD i default=true->b.bC.getD i default=true
 p:∀m,lr (a.params.getD m default) (b.params.getD m default)
 n:lr a.nodes b.nodes
 s:lr a.aw b.aw
def lr.refl(a):lr a a:=λ_ _ h=>h
def lr.trans{a b c}(h:lr a b)(f:lr b c):lr a c:=λi x y=>f i x (h i x y)
def oD.refl(a):oD a a:=⟨λ_ h=>h,λ_=>.refl _,.refl _,.refl _⟩
def oD.trans{a b c}(h:oD a b)(f:oD b c):oD a c:=⟨λi x=>f.r i (h.r i x),λm=>(h.p m).trans (f.p m),h.n.trans f.n,h.s.trans f.s⟩
def qd[Inhabited α]{a b:List α}(j:a.length=b.length)(h:∀i,i<a.length->a.getD i default=b.getD i default):a=b:=by
 refine List.ext_getElem j λi f g=>?_;have:=h i f;rwa [List.getD_eq_getElem?_getD,List.getD_eq_getElem?_getD,List.getElem?_eq_getElem f,List.getElem?_eq_getElem g] at this
def lr.antisymm(g:a.length=b.length)(l:∀k∈a,cq m k=true)(q:∀k∈b,cq m k=true)(h:lr a b)(f:lr b a):a=b:=by
 refine qd g λi j=>?_;have r:=(hW.1 (l _ (bH j))).1;have o:=(hW.1 (q _ (bH (by omega:i<b.length)))).1;rw[r,o];refine congrArg _ (Nat.eq_of_testBit_eq λc=>?_);have:=h i c;have:=f i c;rw[Bool.eq_iff_iff];exact⟨h i c,f i c⟩
section
variable{p:Prog}
def oD.antisymm{a b}(c:bf p a)(f:bf p b)(h:oD a b)(j:oD b a):a=b:=by
 have l:a.bC=b.bC:=qd (by rw[c.hp,f.hp]) λi _=>by
  rw[Bool.eq_iff_iff];exact⟨h.r i,j.r i⟩
 have t:a.params=b.params:=qd (by rw[c.pl,f.pl]) λi q=>by
  have g:i<p.methods.length:=by rw[<-c.pl];exact q
  refine lr.antisymm (m:=aG p) ?_ (c.ks _ (bH q)) (f.ks _ (bH (by rw[f.pl];exact g))) (h.p i) (j.p i);have:=c.jW i g;have:=f.jW i g;omega
 have v:a.nodes=b.nodes:=lr.antisymm (by rw[c.nl,f.nl]) c.nb f.nb h.n j.n;have o:a.aw=b.aw:=lr.antisymm (by have:=c.aj;have:=f.aj;omega) c.fg f.fg h.s j.s;cases a;cases b;simp only at l t v o;subst l;subst t;subst v;subst o;rfl
structure Grow(p:Prog)(g n2:GT):Prop where
 hz:bf p g.t
 fx:bf p n2.t
 le:oD g.t n2.t
 ch:n2.ch=true↔g.ch=true\/n2.t≠g.t
def Grow.refl{g}(h:bf p g.t):Grow p g g:=⟨h,h,.refl _,⟨.inl,λx=>x.elim id λx=>absurd rfl x⟩⟩
def Grow.trans{a b c}(h:Grow p a b)(f:Grow p b c):Grow p a c:=by
 refine⟨h.hz,f.fx,h.le.trans f.le,f.ch.trans ?_⟩;rw[h.ch];constructor
 ·rintro ((x | x) | x)
  ·exact .inl x
  ·exact .inr λe=>x (oD.antisymm f.hz h.hz (by rw[<-e];exact f.le) h.le)
  ·exact .inr λe=>x (oD.antisymm f.fx f.hz (by rw[e];exact h.le) f.le)
 ·rintro (x | x)
  ·exact .inl (.inl x)
  ·by_cases e:b.t=a.t
   ·exact .inr (by rw[e];exact x)
   ·exact .inl (.inr e)
theorem rp{j:Type}{f}:∀(L:List j) {g:GT},bf p g.t->(∀g,∀x∈L,bf p g.t->Grow p g (f g x))->Grow p g (L.foldl f g)
 | [],g,h,_=>.refl h
 | x::r,g,h,a=>(a g x dB h).trans (rp r (a g x dB h).fx λg y c=>a g y (.tail _ c))
def u0:tY (pr k x) c↔tY k c\/x.testBit c=true:=by
 show ((k.toNat ||| x:Nat):Int).toNat.testBit c=true↔_;rw[Int.toNat_natCast,Nat.testBit_or,Bool.or_eq_true]
def ad2{i x j c}:tY ((hf l i x).getD j default) c↔tY (l.getD j default) c\/(i=j/\j<l.length/\x.testBit c=true):=by
 unfold hf;rw[nM];by_cases h:i=j/\j<l.length
 ·rw[if_pos h,u0,h.1];exact⟨λx=>x.imp id λy=>⟨rfl,h.2,y⟩,λx=>x.imp id λy=>y.2.2⟩
 ·rw[if_neg h];exact⟨.inl,λx=>x.elim id λy=>absurd ⟨y.1,y.2.1⟩ h⟩
def Ji(l)(i x):lr l (hf l i x):=λj c h=>ad2.2 (.inl h)
def Jj{i x}(c:i<l.length\/x=0)(j:∀k∈l,k=(k.toNat:Int)):kU l i x=true↔hf l i x≠l:=by
 unfold kU hf;rw[bne_iff_ne];by_cases h:i<l.length
 ·constructor
  ·intro a e;have:=congrArg (λl=>l.getD i default) e;simp only[nM,h,and_self,if_true] at this;exact a this
  ·intro a e;rw[e] at a;apply a;refine qd List.length_set λj m=>?_;rw[nM];split
   ·rename_i f;rw[f.1]
   ·rfl
 ·rw[List.set_eq_of_length_le aa];have g:x=0:=c.resolve_left h;subst g;constructor
  ·intro a;exfalso;apply a;rw[List.getD_eq_getElem?_getD,List.getElem?_eq_none aa];rfl
  ·intro a;exact absurd rfl a
def Jk(h:∀k∈l,cq m k=true):∀k∈l,k=(k.toNat:Int):=λk a=>(hW.1 (h k a)).1
def xN{g}(h:bf p g.t){i}(c:i<p.nodes.length){x}(f:fp p x):Grow p g (g.bX i x):=by
 refine⟨h,h.bX i f,⟨λ_ h=>h,λ_=>.refl _,Ji _ _ _,.refl _⟩,?_⟩;have:=Jj (l:=g.t.nodes) (i:=i) (x:=x) (.inl (by rw[h.nl];exact c)) (Jk h.nb);show (g.ch || kU g.t.nodes i x)=true↔_;rw[Bool.or_eq_true,this];refine or_congr .rfl (not_congr ⟨λe=>?_,λe=>congrArg cv.nodes e⟩);show ({g.t with nodes:=hf g.t.nodes i x}:cv)=g.t;rw[e]
def Jl{g}(h:bf p g.t){i:Nat}(c:(i:Int)<p.aw){x}(a:fp p x):Grow p g (g.eN i x):=by
 refine⟨h,h.eN i a,⟨λ_ h=>h,λ_=>.refl _,.refl _,Ji _ _ _⟩,?_⟩;have:=Jj (l:=g.t.aw) (i:=i) (x:=x) (.inl (by have:=h.aj;omega)) (Jk h.fg);show (g.ch || kU g.t.aw i x)=true↔_;rw[Bool.or_eq_true,this];refine or_congr .rfl (not_congr ⟨λe=>?_,λe=>congrArg cv.aw e⟩);show ({g.t with aw:=hf g.t.aw i x}:cv)=g.t;rw[e]
def qe[Inhabited α]{l:List α}{m}{x:α}(hm:m<l.length):l.set m x=l↔x=l.getD m default:=by
 constructor
 ·intro e;have:=congrArg (λl=>l.getD m default) e;simp only[nM,hm,and_self,if_true] at this;exact this
 ·intro e;subst e;refine qd List.length_set λj g=>?_;rw[nM];split
  ·rename_i f;rw[f.1]
  ·rfl
def Rv{g}(h:bf p g.t){m i}(hm:m<p.methods.length)(o:i<(g.t.params.getD m default).length){x}(q:fp p x):Grow p g (g.im m i x):=by
 have f:m<g.t.params.length:=by rw[h.pl];exact hm
 refine⟨h,h.im m i q,⟨λ_ h=>h,λj=>?_,.refl _,.refl _⟩,?_⟩
 ·show lr _ ((g.t.params.set m _).getD j default);rw[nM];split
  ·rename_i e;rw[<-e.1];exact Ji _ _ _
  ·exact .refl _
 have:=Jj (l:=g.t.params.getD m default) (i:=i) (x:=x) (.inl o) (Jk (h.ks _ (bH f)));show (g.ch || kU (g.t.params.getD m default) i x)=true↔_;rw[Bool.or_eq_true,this];refine or_congr .rfl (not_congr ⟨λe=>?_,λe=>(qe f).1 (congrArg cv.params e)⟩);show ({g.t with params:=g.t.params.set m (hf (g.t.params.getD m default) i x)}:cv)=g.t;rw[(qe f).2 e]
def ad3{g}(h:bf p g.t){m}(hm:m<p.methods.length):Grow p g (g.reach m):=by
 have c:m<g.t.bC.length:=by rw[h.hp];exact hm
 refine⟨h,h.reach m,⟨λj o=>?_,λ_=>.refl _,.refl _,.refl _⟩,?_⟩
 ·show (g.t.bC.set m true).getD j default=true;rw[nM];split
  ·rfl
  ·exact o
 show (g.ch || !g.t.bC.getD m default)=true↔_;rw[Bool.or_eq_true,Bool.not_eq_true'];refine or_congr .rfl ?_;constructor
 ·intro e l;have:=(qe c).1 (congrArg cv.bC l);rw[e] at this;cases this
 ·intro f;cases e:g.t.bC.getD m default with
  | false=>rfl
  | true=>
   exfalso;apply f;show ({g.t with bC:=g.t.bC.set m true}:cv)=g.t;rw[(qe c).2 e.symm]
end
end Go.Eng.dO

namespace Go.Proofs.YtodccgailpkgeaaGreat
open Go.Proofs.Tryz
open Go.Eng
open Go.Eng.Fc
open Go.Eng.dO
variable{l:al}{i x c:Nat}{α:Type}{ah:Nat->Nat->Bool}{Hx:aC}
instance:CH prog 89 (198,4):=⟨ax,Go.Maps.Keyed.of_law (deep_law_laid laidOut (m:=3) aa (of_decide_eq_true ax) ax ax),ax⟩
structure gB where
 bz:Nat
 dh:Value
 vs:dj
 cZ:Value
 cV:Value
 dU:Nat
 m1:Nat
 ms:List (Nat×List (Int×ab))
def db(v:Value)(l:al):aC:=if l= [] then [] else [.row 3 1 v l.length (l.map ab.i)]
def fH(v:Value)(l:cY):aC:=if l= [] then [] else [.row 4 1 v l.length (l.map ab.b)]
def iD(vs:dj)(ls:List al):aC:=(List.range ls.length).flatMap λi=>db (vs.getD i default) (ls.getD i default)
def AB(m n:Nat):dj:=[.int .i64 m,.int .i64 n]
def kX(ah:Nat->Nat->Bool):Value->ab
 | .agg a=>match a.toList with
  | [.int _ m,.int _ n]=>.b (ah m.toNat n.toNat)
  | _=>.any
 | _=>.any
def oE:List (Int×ab):=[(1,.fn (.func 59) [] []),(12,.fn (.func 59) [] []),(13,.fn (.func 59) [] []),(14,.fn (.func 59) [] []),(15,.fn (.func 59) [] []),(16,.fn (.func 59) [] []),(2,.fn (.func 60) [] []),(3,.fn (.func 61) [] []),(4,.fn (.func 62) [] []),(6,.fn (.func 63) [] []),(7,.fn (.func 64) [] []),(8,.fn (.func 65) [] []),(9,.fn (.func 66) [] []),(11,.fn (.func 66) [] []),(10,.fn (.func 67) [] []),(17,.fn (.func 68) [] []),(5,.fn (.func 69) [] []),(18,.fn (.func 70) [] [])]
abbrev xO(ah:Nat->Nat->Bool)(q:gB):br:=.gn q.dU (ev prog 198) (kX ah)
def eh(ah:Nat->Nat->Bool)(q:gB)(t:cv):aC:=xO ah q::dV q.m1 oE::(gA q.ms++(fH q.dh t.bC++(db q.cZ t.nodes++(db q.cV t.aw++iD q.vs t.params))))
abbrev ad4(p:Prog)(q:gB)(ch:Bool):bl:=[.val q.dh,.aj 1 (q.vs.map λv=>[.val v]),.val q.cZ,.val q.cV]++cH p++cB (bR p)++[ab.gz (e8 p),ab.bp (fh p),.aj 1 (q.ms.map hJ),.val (.map (some q.dU)),.val (.map (some q.m1)),.b ch]
abbrev eo(p:Prog)(q:gB)(ch:Bool):br:=.au q.bz 92 (ad4 p q ch)
abbrev bO(p:Prog)(ah:Nat->Nat->Bool)(q:gB)(g:GT)(Hx:aC):aC:=eo p q g.ch::(eh ah q g.t++Hx)
def DZ{j}(h:j<l.length)(v)(more):(l.map .i++more).take j++cJ (.i v)++(l.map ab.i++more).drop (j+1)=(l.set j v).map .i++more:=by
 rw[List.take_append_of_le_length cF,List.drop_append_of_le_length cF,List.set_eq_take_append_cons_drop,if_pos h,List.map_append,List.map_take,List.map_cons,List.map_drop];simp[cJ]
def UW{j}(h:j<l.length)(more):(l.map ab.i++more)[j]? =some (.i (l.getD j default)):=by
 rw[List.getElem?_append_left gU,List.getElem?_map,List.getD_eq_getElem?_getD,List.getElem?_eq_getElem h];rfl
def Rw(h:kU l i x=false):hf l i x=l:=by
 have a:pr (l.getD i default) x=l.getD i default:=by
  unfold kU at h;simpa using h
 unfold hf;rw[a];by_cases c:i<l.length
 ·exact (qe c).2 rfl
 ·exact List.set_eq_of_length_le aa
def Rx{p}{q}{ch}{i x b:Nat}{more:bl}{H:aC}{H':br->aC}(hu:∀e,bG H (.au b 3 (l.map ab.i++more)) e (H' e))(aN:i<l.length)(c:l.getD i default=((l.getD i default).toNat:Int))(h:(l.getD i default).toNat<2^62)(j:x<2^62):
  bP prog 106 [.p q.bz 0,.p b i,.i x] (eo p q ch::H) (λy g=>y= .bj []/\g=eo p q (ch || kU l i x)::H' (.au b 3 ((hf l i x).map ab.i++more))) (λ_ _=>False):=by
 refine aM (n:=24) func106 λB I m=>?_;refine aR ?_;refine b0 8 24 ?_;refine aQ ?_;refine bh (ad.le E1 (aq.b6 c)) ?_;refine aR ?_;refine bh (ad.bits rfl rfl rfl rfl rfl (kt _ _ aa aa)) ?_;refine aQ ?_;refine bh (ad.le E1 (aq.b6 c)) ?_;refine aS ?_;refine bc (λaf=>?_) (λaf=>?_)
 ·have a:kU l i x=true:=by
   unfold kU pr;rw[c] at af ⊢;exact af
  refine aV ?_;refine ag (ad.le E1 (aq.b6 c)) ?_;refine aR ?_;refine ag (ad.bits rfl rfl rfl rfl rfl (kt _ _ aa aa)) ?_;refine aR ?_;apply ai.gb (ds:=(hf l i x).map ab.i++more) rfl rfl rfl rfl rfl rfl rfl rfl rfl rfl
  (case hu=>exact .tail _ _ _ _ _ (hu _));(case hfit=>exact Nat.ble_eq_true_of_le cF);(case hds=>exact DZ aN _ more)
  refine aJ ?_;refine gQ [] (eo p q true::H' (.au b 3 ((hf l i x).map ab.i++more))) ?_;exact⟨rfl,by rw[a,Bool.or_true]⟩
 ·have a:kU l i x=false:=by
   unfold kU pr;rw[c] at af ⊢;exact af
  refine aR ?_;refine gQ [] (eo p q ch::H) ?_;exact⟨rfl,by rw[a,Bool.or_false,Rw a,(hu _).same]⟩
def Jm{p}{q}{ch}{v}{A C}(c:i<l.length)(g:∀k∈l,cq (aG p) k=true)(hm:aG p<=13)(f:x<2^62):
  bP prog 106 [.p q.bz 0,.val (ki v i 1),.i x] (eo p q ch::(A++.row 3 1 v l.length (l.map .i)::C)) (λy j=>y= .bj []/\j=eo p q (ch || kU l i x)::(A++.row 3 1 v l.length ((hf l i x).map .i)::C)) (λ_ _=>False):=by
 have a:=hW.1 (g _ (bH c));have r:2^aG p<=2^13:=Nat.pow_le_pow_right c8 hm;refine .row (t:=3) (n:=l.length) (cs:=l.map .i) (ds:=(hf l i x).map .i) (pre:=[.p q.bz 0]) (post:=[.i x]) (H:=A++.row 3 1 v l.length (l.map .i)::C) (H':=λe=>A++e::C) (F:=λH=>eo p q ch::H) (G:=λH=>eo p q (ch || kU l i x)::H) (λ_ _ _ _ h=>.tail _ _ _ _ _ h) c (by simp[kW]) (λe=>.under A) (λ_ _ _ _ h=>.tail _ _ _ _ _ h) (λb m more _=>?_) (λe o=>.under A) (Rx (p:=p) (q:=q) (ch:=ch) (x:=x) (b:=0) (more:=[]) (H:=[.au 0 3 (l.map .i++[])]) (H':=λe=>[e]) (λe=>.head _ _ _) c a.1 aa f).1;exact Rx (λe=>.under A) c a.1 aa f
def Ry(ah)(q)(t:cv)(Hx):∃A C,∀l,l≠ []->eh ah q {t with nodes:=l}++Hx=A++.row 3 1 q.cZ l.length (l.map .i)::C:=
 ⟨xO ah q::dV q.m1 oE::(gA q.ms++fH q.dh t.bC),db q.cV t.aw++iD q.vs t.params++Hx,λl h=>by simp[eh,db,h]⟩
def Rz(ah)(q)(t:cv)(Hx):∃A C,∀l,l≠ []->eh ah q {t with aw:=l}++Hx=A++.row 3 1 q.cV l.length (l.map .i)::C:=
 ⟨xO ah q::dV q.m1 oE::(gA q.ms++(fH q.dh t.bC++db q.cZ t.nodes)),iD q.vs t.params++Hx,λl h=>by simp[eh,db,h]⟩
def RA(ah)(q)(t:cv)(Hx):∃A C,∀l,l≠ []->eh ah q {t with bC:=l}++Hx=A++.row 4 1 q.dh l.length (l.map .b)::C:=
 ⟨xO ah q::dV q.m1 oE::gA q.ms,db q.cZ t.nodes++(db q.cV t.aw++iD q.vs t.params)++Hx,λl h=>by simp[eh,fH,h]⟩
def Jn{a c:Type}{l:List a}{f g:a->List c}(h:∀x∈l,f x=g x):l.flatMap f=l.flatMap g:=by
 rw[List.flatMap_def,List.flatMap_def,List.map_congr_left h]
def RB(vs){ls:List al}{k}(f:k<ls.length):∃A C,∀l,iD vs (ls.set k l)=A++(db (vs.getD k default) l++C):=by
 have e:List.range ls.length=List.range k++k::(List.range' (k+1) (ls.length - k - 1)):=by
  have c:List.range' 0 k++List.range' (0+k) (ls.length - k)=List.range' 0 (k+(ls.length - k)):=List.range'_append_1;obtain⟨d,g⟩:∃d,ls.length - k=d+1:=⟨ls.length - k - 1,aa⟩;rw[show k+(ls.length - k)=ls.length by omega,Nat.zero_add,g,List.range'_succ] at c;rw[List.range_eq_range',List.range_eq_range', <-c,show ls.length - k - 1=d by omega]
 refine⟨(List.range k).flatMap λi=>db (vs.getD i default) (ls.getD i default),(List.range' (k+1) (ls.length - k - 1)).flatMap λi=>db (vs.getD i default) (ls.getD i default),λl=>?_⟩;unfold iD;rw[List.length_set,e,List.flatMap_append,List.flatMap_cons];have c:∀i,i≠k->(ls.set k l).getD i default=ls.getD i default:=λi a=>by rw[nM,if_neg (λh=>a h.1.symm)]
 have j:(ls.set k l).getD k default=l:=by rw[nM,if_pos ⟨rfl,f⟩]
 rw[j];congr 1
 ·exact Jn λi a=>by rw[c i (by have:=List.mem_range.1 a;omega)]
 ·congr 1;exact Jn λi a=>by rw[c i (by have:=List.mem_range'_1.1 a;omega)]
def RC(ah)(q:gB)(t:cv)(Hx){k}(g:k<t.params.length):∃A C,∀l,l≠ []->eh ah q {t with params:=t.params.set k l}++Hx=A++.row 3 1 (q.vs.getD k default) l.length (l.map .i)::C:=by
 obtain⟨A,C,h⟩:=RB q.vs g;exact⟨xO ah q::dV q.m1 oE::(gA q.ms++(fH q.dh t.bC++(db q.cZ t.nodes++(db q.cV t.aw++A)))),C++Hx,λl j=>by simp[eh,h,db,j]⟩
def ne_of_lt{l:List α}(h:i<l.length):l≠ []:=λe=>by rw[e] at h;simp at h
section
variable{p:Prog}{ah:Nat->Nat->Bool}{q:gB}{g:GT}{Hx:aC}
def nN(h:i<g.t.nodes.length):.row 3 1 q.cZ g.t.nodes.length (g.t.nodes.map .i)∈bO p ah q g Hx:=by
 obtain⟨A,C,e⟩:=Ry ah q g.t Hx;have:=e g.t.nodes (ne_of_lt h);show _∈_::(eh ah q {g.t with nodes:=g.t.nodes}++Hx);rw[this];simp
def tZ(h:i<g.t.aw.length):.row 3 1 q.cV g.t.aw.length (g.t.aw.map .i)∈bO p ah q g Hx:=by
 obtain⟨A,C,e⟩:=Rz ah q g.t Hx;have:=e g.t.aw (ne_of_lt h);show _∈_::(eh ah q {g.t with aw:=g.t.aw}++Hx);rw[this];simp
def sK(h:i<g.t.bC.length):.row 4 1 q.dh g.t.bC.length (g.t.bC.map .b)∈bO p ah q g Hx:=by
 obtain⟨A,C,e⟩:=RA ah q g.t Hx;have:=e g.t.bC (ne_of_lt h);show _∈_::(eh ah q {g.t with bC:=g.t.bC}++Hx);rw[this];simp
def Jo{k i}(c:k<g.t.params.length)(h:i<(g.t.params.getD k default).length):.row 3 1 (q.vs.getD k default) (g.t.params.getD k default).length ((g.t.params.getD k default).map .i)∈bO p ah q g Hx:=by
 obtain⟨A,C,e⟩:=RC ah q g.t Hx c;have:=e (g.t.params.getD k default) (ne_of_lt h);rw[(qe c).2 rfl] at this;show _∈_::(eh ah q {g.t with params:=g.t.params}++Hx);rw[this];simp
def RD(h:bf p g.t)(hm:aG p<=13){i x}(j:i<p.nodes.length)(c:fp p x):bP prog 106 [.p q.bz 0,.val (ki q.cZ i 1),.i x] (bO p ah q g Hx) (λy m=>y= .bj []/\m=bO p ah q (g.bX i x) Hx) (λ_ _=>False):=by
 obtain⟨A,C,e⟩:=Ry ah q g.t Hx;have a:i<g.t.nodes.length:=by rw[h.nl];exact j
 have o:2^aG p<=2^13:=Nat.pow_le_pow_right c8 hm;have f:bO p ah q g Hx=_:=congrArg (eo p q g.ch::·) (e g.t.nodes (ne_of_lt a));have l:bO p ah q (g.bX i x) Hx=_:=congrArg (eo p q (g.bX i x).ch::·) (e (hf g.t.nodes i x) (ne_of_lt (i:=i) (by rw[kW];exact a)));rw[f,l];have:=Jm (p:=p) (q:=q) (ch:=g.ch) (v:=q.cZ) (A:=A) (C:=C) a h.nb hm (x:=x) (by have:=c.1;omega);rw[kW];exact this
def D0(h:bf p g.t)(hm:aG p<=13){i x:Nat}(m:(i:Int)<p.aw)(c:fp p x):bP prog 106 [.p q.bz 0,.val (ki q.cV i 1),.i x] (bO p ah q g Hx) (λy l=>y= .bj []/\l=bO p ah q (g.eN i x) Hx) (λ_ _=>False):=by
 obtain⟨A,C,e⟩:=Rz ah q g.t Hx;have a:i<g.t.aw.length:=by have:=h.aj;omega
 have o:2^aG p<=2^13:=Nat.pow_le_pow_right c8 hm;have f:bO p ah q g Hx=_:=congrArg (eo p q g.ch::·) (e g.t.aw (ne_of_lt a));have j:bO p ah q (g.eN i x) Hx=_:=congrArg (eo p q (g.eN i x).ch::·) (e (hf g.t.aw i x) (ne_of_lt (i:=i) (by rw[kW];exact a)));rw[f,j];have:=Jm (p:=p) (q:=q) (ch:=g.ch) (v:=q.cV) (A:=A) (C:=C) a h.fg hm (x:=x) (by have:=c.1;omega);rw[kW];exact this
def RE(h:bf p g.t)(hm:aG p<=13){k i x}(f:k<p.methods.length)(c:i<(g.t.params.getD k default).length)(j:fp p x):bP prog 106 [.p q.bz 0,.val (ki (q.vs.getD k default) i 1),.i x] (bO p ah q g Hx) (λy o=>y= .bj []/\o=bO p ah q (g.im k i x) Hx) (λ_ _=>False):=by
 have a:k<g.t.params.length:=by rw[h.pl];exact f
 obtain⟨A,C,e⟩:=RC ah q g.t Hx a;have r:2^aG p<=2^13:=Nat.pow_le_pow_right c8 hm;have fm:=e (g.t.params.getD k default) (ne_of_lt c);rw[(qe a).2 rfl] at fm;have l:bO p ah q g Hx=_:=congrArg (eo p q g.ch::·) fm;have m:bO p ah q (g.im k i x) Hx=_:=congrArg (eo p q (g.im k i x).ch::·) (e (hf (g.t.params.getD k default) i x) (ne_of_lt (i:=i) (by rw[kW];exact c)));rw[l,m];have:=Jm (p:=p) (q:=q) (ch:=g.ch) (v:=q.vs.getD k default) (A:=A) (C:=C) c (h.ks _ (bH a)) hm (x:=x) (by have:=j.1;omega);rw[kW];exact this
end
structure fB(p:Prog)(q:gB):Prop where
 aD:(bu p).isSome=true
 ins:p8 p q.ms (aG p)
 oQ:q.vs.length=p.methods.length
 rq:p.methods.length=0->∃a c,q.dh= .slice a 0 c
 qf:p.aw=0->∃a c,q.cV= .slice a 0 c
 rr:q.dh.oneCell'=true
 sL:∀v∈q.vs,v.oneCell'=true
 oF:q.cZ.oneCell'=true
 m2:q.cV.oneCell'=true
def fB.many{p}{q}(h:fB p q):aG p<=13:=mm h.aD
def AD{p}(a:(bu p).isSome):1<=p.nodes.length:=by
 have:=tW (sC a).2.1;omega
def ua{p}(a:(bu p).isSome){t}(h:bf p t){k}(c:k<p.methods.length):t.params.getD k default≠ []:=λe=>by
 have f:=h.jW k c;rw[e] at f;have j:=tV a c;obtain⟨o,g⟩:=Option.isSome_iff_exists.1 a;have:=(sj (jf g).2.2.1 (bH (l:=p.c2) (k:=(p.methods.getD k default).gen.toNat) aa)).1;have m:(0:Int)=p.c2.getD (p.methods.getD k default).gen.toNat default:=f;omega
abbrev kY(w:World):cr:=λb o=>∃c,w.cell? ⟨b,o,none⟩=some c
def Jp{B}{I}{w}(l:bY B I w){t}{v}{cs}(h:br.ok B I w (.row t 1 v cs.length cs)):Rel (kY w) w (.aj 1 (cs.map λx=>[x])) v:=by
 have e:∀cs:bl,(cs.map λx=>[x]).flatten=cs:=λcs=>by
  induction cs with
  | nil=>rfl
  | cons x r g=>rw[List.map_cons,List.flatten_cons,g];rfl
 obtain⟨J,q,_,c,f⟩:=za (els:=cs.map λx=>[x]) (by rw[List.length_map,e cs];exact h) (λx m=>by obtain⟨y,_,rfl⟩:=List.mem_map.1 m;rfl);exact f.bw ⟨λb o j=>(c b o j).elim (l.there b o) id,λ_ _ _=>rfl⟩
def Jq{B}{I}{w}(j:bY B I w){v}{l}(g:l= []->∃a c,v= .slice a 0 c)(h:l≠ []->br.ok B I w (.row 3 1 v l.length (l.map .i))):Rel (kY w) w (.ints l) v:=by
 by_cases f:l= []
 ·obtain⟨a,c,rfl⟩:=g f;subst f;exact .dQ _ _ _
 ·have:=Jp j (t:=3) (v:=v) (cs:=l.map .i) (by rw[List.length_map];exact h f);rw[List.map_map] at this;exact this
section
variable{p:Prog}{ah:Nat->Nat->Bool}{q:gB}{g:GT}{Hx:aC}
def Jr{k}(c:k<g.t.params.length)(a:g.t.params.getD k default≠ []):.row 3 1 (q.vs.getD k default) (g.t.params.getD k default).length ((g.t.params.getD k default).map .i)∈bO p ah q g Hx:=
 Jo c (i:=0) (List.length_pos_iff.2 a)
def fq.ew(a1:fB p q)(h:bf p g.t){pre post}:fq (bO p ah q g Hx) (pre++.p q.bz 0::post) (pre++ab.ew p g.t::post):=by
 intro B I w ni s J aW b4 bK;have hr:er I w (kY w) w:=⟨λb o M=>J.there b o M,λ_ _ _=>rfl⟩;refine⟨kY w,λ_ _ h=>h,?_⟩;obtain⟨us,ga,rfl,aB,fN⟩:=bK.qP;cases fN with
 | cons _ u _ ga A ht=>
  have:=bZ A;subst this;refine (aB.bw hr).append (.cons _ _ _ _ ?_ (ht.bw hr));have m:=λe he=>aW.ok e (b4 e he);obtain⟨eD,s,M,f,_⟩:=m _ dB;have f:=f.bw hr;obtain⟨X,L,fm,a0,f⟩:∃X L,s.toList=X::L/\X=q.dh/\bU (kY w) w _ L:=by
   cases bd:s.toList with
   | nil=>rw[bd] at f;cases f
   | cons a r=>rw[bd] at f;cases f with | cons _ _ _ _ F E=>exact⟨a,r,rfl,bZ F,E⟩
  obtain⟨O,P,bM,W,f⟩:∃O P,L=O::P/\Rel (kY w) w (.aj 1 (q.vs.map λv=>[.val v])) O/\bU (kY w) w _ P:=by
   cases f with | cons _ a _ r F E=>exact⟨a,r,rfl,F,E⟩
  obtain⟨Y,N,bJ,S,f⟩:∃Y N,P=Y::N/\Y=q.cZ/\bU (kY w) w _ N:=by
   cases f with | cons _ a _ r F E=>exact⟨a,r,rfl,bZ F,E⟩
  obtain⟨U,V,e6,Z,f⟩:∃U V,N=U::V/\U=q.cV/\bU (kY w) w (cH p++cB (bR p)++[ab.gz (e8 p),.bp (fh p),.aj 1 (q.ms.map hJ),.val (.map (some q.dU)),.val (.map (some q.m1)),.b g.ch]) V:=by
   cases f with | cons _ a _ r F E=>exact⟨a,r,rfl,bZ F,E⟩
  have hR:Rel (kY w) w (ab.dy g.t.bC) q.dh:=by
   by_cases G:g.t.bC= []
   ·obtain⟨a,c,e⟩:=a1.rq (by rw[<-h.hp,G];rfl);rw[e,G];exact .dQ _ _ _
   ·have:=Jp J (t:=4) (v:=q.dh) (cs:=g.t.bC.map .b) (by rw[List.length_map];exact m _ (sK (i:=0) (List.length_pos_iff.2 G)));rw[List.map_map] at this;exact this
  have ad5:Rel (kY w) w (.ints g.t.nodes) q.cZ:=Jq J (λe=>by have:=h.nl;rw[e] at this;have:=AD a1.aD;simp at*;omega) λhx=>m _ (nN (i:=0) (List.length_pos_iff.2 hx));have jN:Rel (kY w) w (.ints g.t.aw) q.cV:=Jq J (λe=>a1.qf (by have:=h.aj;rw[e] at this;simpa using this.symm)) λhx=>m _ (tZ (i:=0) (List.length_pos_iff.2 hx));have IB:Rel (kY w) w (.bp g.t.params) O:=by
   refine W.CG Fb λi x y A H=>?_;rw[List.getElem?_map] at A H;cases aN:g.t.params[i]? with
   | none=>rw[aN] at H;cases H
   | some l=>
    have K:=(List.getElem?_eq_some_iff.1 aN).1;have G:g.t.params.getD i default=l:=by rw[List.getD_eq_getElem?_getD,aN];rfl
    cases bd:q.vs[i]? with
    | none=>rw[bd] at A;cases A
    | some v=>
     have R:q.vs.getD i default=v:=by rw[List.getD_eq_getElem?_getD,bd];rfl
     rw[aN] at H;rw[bd] at A;cases A;cases H;refine⟨rfl,λb o Q=>?_⟩;cases Q with
     | cons _ _ _ c _ gJ jq A ht=>
      refine .cons _ _ _ c _ gJ jq ?_ (by cases ht;exact .nil _ _);rw[bZ A];have hx:=ua a1.aD h (k:=i) (by rw[<-h.pl];exact K);refine Jq J (λe=>absurd (G.trans e) hx) λ_=>?_;have:=m _ (Jr (p:=p) (ah:=ah) (q:=q) (g:=g) (Hx:=Hx) K hx);rw[G,R] at this;exact this
  have C:bU (kY w) w (QC p g.t) s.toList:=by
   rw[fm,bM,bJ,e6,a0,S,Z];refine .cons _ _ _ _ hR (.cons _ _ _ _ IB (.cons _ _ _ _ ad5 (.cons _ _ _ _ jN ?_)));obtain⟨us,ga,rfl,gu,cx⟩:=bU.qP f;refine gu.append ?_;cases cx with | cons _ _ _ _ bI cx=>cases cx with | cons _ _ _ _ a2 cx=>cases cx with | cons _ _ _ _ a3 cx=>cases cx with | cons _ _ _ _ a4 cx=>cases cx with | cons _ _ _ _ a5 cx=>cases cx with | cons _ _ _ _ fw cx=>
    cases cx;exact .cons _ _ _ _ bI (.cons _ _ _ _ a2 (.cons _ _ _ _ (.any _) (.cons _ _ _ _ (.any _) (.cons _ _ _ _ (.any _) (.cons _ _ _ _ (.any _) .nil)))))
  exact .ptr _ _ _ (uG M _ _ 0 C (λj u hu=>by simpa using hu) (λj cp=>by
   have D:=C.length;rw[Array.length_toList] at D;have T:j<s.size:=by rw[D];exact cp
   exact⟨s[j],by rw[jK M,Nat.zero_add];exact Array.getElem?_eq_getElem T⟩))
end
abbrev fI(n:Int)(y:gR)(cO env:al)(m:Int):bl:=[.i n]++hU y++[.i (cO.getD 0 default),.i (cO.getD 1 default),.i (cO.getD 2 default)]++[ab.ints env,.i m]
abbrev ab.m3(n:Int)(y:gR)(cO env:al)(m:Int):ab:=.agg (fI n y cO env m)
def Js(p):fp p 2:=kv (p:=p) (c:=1) c8 (by have:=DW p;omega)
def Jt(p):fp p 4:=kv (p:=p) (c:=2) c8 (by have:=DW p;omega)
def pt{p}{q}{g}(a:fB p q)(h:bf p g.t){n x}(hn:n<p.nodes.length)(s:fp p x)(y)(m env)(v):bP prog 103 [.p q.bz 0,ab.m3 (n:Int) y m env v,.i (x:Int)] (bO p ah q g Hx) (λr f=>r= .bj []/\f=bO p ah q (g.bX n x) Hx) (λ_ _=>False):=by
 refine aM func103 λB I z=>?_;have w:=a.many;have j:=h.nl;have c:=h.aj;have o:=h.pl;have l:=h.hp;refine aS ?_;refine b0 10 17 ?_;refine aJ ?_;refine bh (ad.dX rfl rfl rfl rfl rfl (nN (i:=n) aa) ⟨aa,aa⟩) ?_;refine aH ?_;refine cI .k ((RD h w hn s).b) ?_;rintro _ _ ⟨rfl,rfl⟩;refine aR ?_;refine gQ [] (bO p ah q (g.bX n x) Hx) ?_;exact⟨rfl,rfl⟩
def qg{p}{c}(a:∀k∈c,cq (aG p) k=true)(i):c.getD i default=(dD c i:Int)/\fp p (dD c i):=by
 refine⟨?_,mq a i⟩;by_cases f:i<c.length
 ·exact (hW.1 (a _ (bH f))).1
 ·unfold dD;rw[List.getD_eq_getElem?_getD,List.getElem?_eq_none aa];rfl
def jB{p}(hm:aG p<=13){x}(h:fp p x):x<2^13:=Nat.lt_of_lt_of_le h.1 (Nat.pow_le_pow_right c8 hm)
def ad6{p}{q}{g}(a:fB p q)(h:bf p g.t){n}(hn:n<p.nodes.length){y}{c env}{f}  :bP prog 59 [.p q.bz 0,ab.m3 n y c env f] (bO p ah q g Hx) (λr l=>r= .bj []/\l=bO p ah q (g.bX n 2) Hx) (λ_ _=>False):=by
 refine aM (n:=7) func59 λB I v=>?_;have w:=a.many;have m:=h.nl;have j:=h.aj;have s:=h.pl;have o:=h.hp;refine aJ ?_;refine cI .k ((pt a h hn (Js p) y c env f).b) ?_;rintro _ _ ⟨rfl,rfl⟩;refine aR ?_;refine gQ [] (bO p ah q (g.bX n 2) Hx) ?_;exact⟨rfl,rfl⟩
def ad7{p}{q}{g}(a:fB p q)(h:bf p g.t){n}(hn:n<p.nodes.length){y}{c env}{f}  :bP prog 60 [.p q.bz 0,ab.m3 n y c env f] (bO p ah q g Hx) (λr l=>r= .bj []/\l=bO p ah q (g.bX n 4) Hx) (λ_ _=>False):=by
 refine aM (n:=7) func60 λB I v=>?_;have w:=a.many;have m:=h.nl;have j:=h.aj;have s:=h.pl;have o:=h.hp;refine aJ ?_;refine cI .k ((pt a h hn (Jt p) y c env f).b) ?_;rintro _ _ ⟨rfl,rfl⟩;refine aR ?_;refine gQ [] (bO p ah q (g.bX n 4) Hx) ?_;exact⟨rfl,rfl⟩
def ad8{p}{q}{g}(c:fB p q)(h:bf p g.t){n}(hn:n<p.nodes.length){y}{f env}{j}(hy:0<=y.n/\y.n<env.length)(m:∀k∈env,cq (aG p) k=true):bP prog 61 [.p q.bz 0,ab.m3 n y f env j] (bO p ah q g Hx) (λr l=>r= .bj []/\l=bO p ah q (g.bX n (env.getD y.n.toNat default).toNat) Hx) (λ_ _=>False):=by
 refine aM func61 λB I o=>?_;have s:=c.many;have a:=hW.1 (m _ (bH (k:=y.n.toNat) aa));refine aS ?_;refine b0 9 14 ?_;refine aP ?_;refine bh (k1) ?_;refine bh (ad.le (ad.cE rfl rfl rfl rfl) (aq.b6 a.1)) ?_;refine aQ ?_;refine cI .k ((pt c h hn (a.2) y f env j).b) ?_;rintro _ _ ⟨rfl,rfl⟩;refine aR ?_;refine gQ [] (bO p ah q (g.bX n (env.getD y.n.toNat default).toNat) Hx) ?_;exact⟨rfl,rfl⟩
def ad9{p}{q}{g}(l:fB p q)(h:bf p g.t){n}(hn:n<p.nodes.length){y}{a env}{m}(f:∀k∈a,cq (aG p) k=true):bP prog 66 [.p q.bz 0,ab.m3 n y a env m] (bO p ah q g Hx) (λr o=>r= .bj []/\o=bO p ah q (g.bX n (dD a 1)) Hx) (λ_ _=>False):=by
 refine aM func66 λB I s=>?_;have v:=l.many;obtain⟨j,c⟩:=qg f 1;refine bQ ?_;refine ag (.le uX (aq.b6 j)) ?_;refine cI .k ((pt l h hn (c) y a env m).b) ?_;rintro _ _ ⟨rfl,rfl⟩;refine aR ?_;refine gQ [] (bO p ah q (g.bX n (dD a 1)) Hx) ?_;exact⟨rfl,rfl⟩
def aea{p}{q}{g}(l:fB p q)(h:bf p g.t){n}(hn:n<p.nodes.length){y}{a env}{m}(f:∀k∈a,cq (aG p) k=true):bP prog 68 [.p q.bz 0,ab.m3 n y a env m] (bO p ah q g Hx) (λr o=>r= .bj []/\o=bO p ah q (g.bX n (dD a 0)) Hx) (λ_ _=>False):=by
 refine aM func68 λB I s=>?_;have v:=l.many;obtain⟨j,c⟩:=qg f 0;refine bQ ?_;refine ag (.le uX (aq.b6 j)) ?_;refine cI .k ((pt l h hn (c) y a env m).b) ?_;rintro _ _ ⟨rfl,rfl⟩;refine aR ?_;refine gQ [] (bO p ah q (g.bX n (dD a 0)) Hx) ?_;exact⟨rfl,rfl⟩
def aeb{p}{q}{g}(o:fB p q)(h:bf p g.t){n}(hn:n<p.nodes.length){y}{a env}{s}(j:∀k∈a,cq (aG p) k=true):bP prog 67 [.p q.bz 0,ab.m3 n y a env s] (bO p ah q g Hx) (λr w=>r= .bj []/\w=bO p ah q (g.bX n (dD a 1 ||| dD a 2)) Hx) (λ_ _=>False):=by
 refine aM func67 λB I A=>?_;have v:=o.many;obtain⟨l,f⟩:=qg j 1;obtain⟨m,c⟩:=qg j 2;have z:=jB v f;have x:=jB v c;refine bQ ?_;refine ag (.le uX (.b6 l)) ?_;refine aQ ?_;refine ag (.le (ad.cE rfl rfl rfl rfl) (aq.b6 m)) ?_;refine ag (ad.bits rfl rfl rfl rfl rfl (kt _ _ aa aa)) ?_;refine cI .k ((pt o h hn (xK f c) y a env s).b) ?_;rintro _ _ ⟨rfl,rfl⟩;refine aR ?_;refine gQ [] (bO p ah q (g.bX n (dD a 1 ||| dD a 2)) Hx) ?_;exact⟨rfl,rfl⟩
def RF{p:Prog}(t:cv)(aD:(bu p).isSome){k:Nat}(C:k<2^aG p)(s:Int):aI prog 104 [ab.ew p t,.i k,.i s] (.b (sF p k s)):=by
 intro H;refine bP.qK func104 rfl ax rfl rfl (λB I N=>?_);have K:=oA aD;refine aV ?_;refine bT (λdg=>?_);refine ay ?_;refine ag (ad.call .k ((zD _))) ?_;refine aH ?_;refine aA.weaken (st':=⟨[(9,.fn (.func 76) [] [.ptr [.i k]]),(3,.ptr [ab.ew p t]),(5,.ptr [.i s]),(6,.p dg 0)],[.au dg 4 [.b false]]++(gY []++H)⟩) h1 gE ?_;refine aA.q3 [] (λ_ (c:Nat)=>.i c) (λ_ _=>[]) (fP k) (λpre H=>H= [.au dg 4 [.b false]]/\pre.any (λc=>dK p c s)=false) (λcode _ H=>code= .ret/\H= [.au dg 4 [.b true]]/\sF p k s=true) ([.au dg 4 [.b false]]) (H) (λ_ x=>[(7,.i x),(10,.i x),(3,.ptr [ab.ew p t]),(5,.ptr [.i s]),(6,.p dg 0)]) rfl rfl rfl rfl ((vx _ aa).b) (⟨rfl,rfl⟩) ?_ ?_ ?_ ?_
 ·intro F G E D x J;refine aH ?_;exact λa w s=>⟨_,rfl,s.weaken (lZ h1) (List.Sublist.refl _)⟩
 ·intro F l M pre D x z J G E f r;obtain⟨rfl,m⟩:=r;have j:x∈fP k:=f.subset aT;have L:x<aG p:=tT C j;refine ay ?_;refine ag (ad.call .k (Ao t aD L s)) ?_;refine aQ ?_;refine bc (λaf=>?_) (λaf=>?_)
  ·have af:dK p x s=true:=by simpa using af
   refine aP ?_;exact aZ.FB (H:=[.au dg 4 [.b true]]) kD ⟨rfl,rfl,List.any_eq_true.2 ⟨x,j,af⟩⟩
  ·have af:dK p x s=false:=by simpa using af
   refine aQ ?_;exact aZ.mH (H:=[.au dg 4 [.b false]]) kD ⟨rfl,by rw[List.any_append,m,List.any_cons,af];rfl⟩
 ·intro l z r;obtain⟨rfl,m⟩:=r;refine aJ ?_;refine aZ.ld (l::[]) ([.au dg 4 [.b false]]) H (rs:=[.cell 6 4]) (H':=H) rfl gE (s5) (c5.refl _) bE ?_;exact⟨bn m.symm,rfl⟩
 ·intro l q pre z f v;obtain⟨rfl,rfl,o⟩:=v
  ·refine aH ?_;refine aZ.ld (l::[]) ([.au dg 4 [.b true]]) H (rs:=[.cell 6 4]) (H':=H) rfl gE (s5) (c5.refl _) bE ?_;exact⟨bn o.symm,rfl⟩
section
variable{p:Prog}{ah:Nat->Nat->Bool}{q:gB}{g:GT}{Hx:aC}
def aec(h:c<q.ms.length):dV (q.ms.getD c default).1 (q.ms.getD c default).2∈bO p ah q g Hx:=by
 have a:dV (q.ms.getD c default).1 (q.ms.getD c default).2∈gA q.ms:=List.mem_map.2 ⟨_,bH h,rfl⟩;show _∈_::(eh ah q g.t++Hx);simp only[eh,List.mem_cons,List.mem_append];simp only[a,true_or,or_true]
end
def aed{p}{q}(f:fB p q){c}(h:c<aG p)(s):(hA (q.ms.getD c default).2 s).getD (.val (.bool false))= .b (((if eJ p c then nH p c else []).map (·.1)).contains s):=by
 rw[(f.ins.2 c h).get s];by_cases a:((if eJ p c then nH p c else []).map (·.1)).contains s=true
 ·rw[if_pos a,a];rfl
 ·rw[if_neg a,Bool.eq_false_iff.2 a];rfl
def RG{p}{q}{g}(f:fB p q)(h:bf p g.t){c}(a:c<aG p){s}(B:0<=s/\s<p.aw)(j:fX s):bP prog 105 [.p q.bz 0,.i (c:Int),.i s] (bO p ah q g Hx) (λr z=>r= .bj []/\z=bO p ah q (GT.begin p c g s) Hx) (λ_ _=>False):=by
 refine aM func105 λB I C=>?_;have m:=f.many;have w:=h.nl;have x:=h.aj;have v:=h.pl;have o:=h.hp;refine di ?_;refine ag ((by first | exact .fC rfl rfl rfl rfl rfl (by rw[f.ins.1];exact a) | exact .ep rfl rfl rfl rfl rfl (by rw[f.ins.1];exact a))) ?_;refine aQ ?_;refine ag (.eq (.tw rfl rfl rfl rfl rfl (aec (by rw[f.ins.1];exact a)) (f.ins.2 c a).ok j) (aed f a s)) ?_;refine aQ ?_;refine bc (λaf=>?_) λaf=>?_
 ·have l:qc p c s=2:=if_pos af;refine aV ?_;refine .le 6 (y:=.i (qc p c s:Int)) rfl (.b6 (by rw[l];rfl)) ?_;refine aJ ?_;refine ag (.dX rfl rfl rfl rfl rfl (tZ (i:=s.toNat) aa) ⟨aa,aa⟩) ?_;refine aR ?_;refine cI .k ((D0 h m aa (DX c s)).b) ?_;rintro _ _ ⟨rfl,rfl⟩;refine aR ?_;refine gQ [] (bO p ah q (GT.begin p c g s) Hx) ?_;exact⟨rfl,rfl⟩
 ·have l:qc p c s=4:=if_neg (by rw[af];decide);refine aQ ?_;refine aA.le 6 (y:=.i (qc p c s:Int)) rfl (aq.b6 (by rw[l];rfl)) ?_;refine aJ ?_;refine ag (ad.dX rfl rfl rfl rfl rfl (tZ (i:=s.toNat) aa) ⟨aa,aa⟩) ?_;refine aR ?_;refine cI .k ((D0 h m aa (DX c s)).b) ?_;rintro _ _ ⟨rfl,rfl⟩;refine aR ?_;refine gQ [] (bO p ah q (GT.begin p c g s) Hx) ?_;exact⟨rfl,rfl⟩
def D1{p}{t}(h:bf p t){s}(a:0<=s/\s<p.aw):t.aw.getD s.toNat default=((t.aw.getD s.toNat default).toNat:Int)/\fp p (t.aw.getD s.toNat default).toNat:=by
 have:=h.aj;exact hW.1 (h.fg _ nA)
def hN(h:i<l.length):(l.map ab.i)[i]? =some (.i (l.getD i default)):=by
 rw[List.getElem?_map,List.getD_eq_getElem?_getD,List.getElem?_eq_getElem h];rfl
def aee{p}{q}{g}(c:fB p q)(h:bf p g.t){n}(hn:n<p.nodes.length){y}{a env}{s}(m:∀k∈a,cq (aG p) k=true)(hy:0<=y.n/\y.n<p.aw):bP prog 62 [.p q.bz 0,ab.m3 n y a env s] (bO p ah q g Hx) (λr w=>r= .bj []/\w=bO p ah q (if sF p (dD a 0) y.n then g.bX n (g.t.aw.getD y.n.toNat default).toNat else g) Hx) (λ_ _=>False):=by
 refine aM func62 λB I z=>?_;have A:=c.many;have v:=h.aj;obtain⟨j,l⟩:=qg m 0;obtain⟨f,o⟩:=D1 h hy;refine bQ ?_;refine ag (.le uX (.b6 j)) ?_;refine aH ?_;refine ag (ad.qO .k (fq.ew c h (pre:=[]) (post:=[.i (dD a 0:Int),.i y.n])) (RF _ c.aD l.1 y.n)) ?_;refine aQ ?_;refine az (λaf=>?_) λaf=>?_
 ·refine b0 12 25 ?_;refine bQ ?_;refine bh (ad.dX rfl rfl rfl rfl rfl (tZ (i:=y.n.toNat) aa) ⟨aa,aa⟩) ?_;refine bh (ad.le (ad.gm rfl rfl rfl (tZ (i:=y.n.toNat) aa) (hN aa)) (aq.b6 f)) ?_;refine aQ ?_;refine cI .k ((pt c h hn (o) y a env s).b) ?_;rintro _ _ ⟨rfl,rfl⟩;refine aR ?_;refine gQ [] (bO p ah q (g.bX n (g.t.aw.getD y.n.toNat default).toNat) Hx) ?_;exact⟨rfl,by rw[if_pos af]⟩
 ·refine aR ?_;refine gQ [] (bO p ah q g Hx) ?_;exact⟨rfl,by rw[if_neg (by rw[af];decide)]⟩
def aef{p}{q}{g}(l:fB p q)(h:bf p g.t){n}(hn:n<p.nodes.length){y}{a env}{w:Int}(j:∀k∈a,cq (aG p) k=true)(hy:0<=y.n/\y.n<p.aw):bP prog 64 [.p q.bz 0,ab.m3 n y a env w] (bO p ah q g Hx) (λr z=>r= .bj []/\z=bO p ah q (tX p n y.n (dD a 0) (dD a 1) g) Hx) (λ_ _=>False):=by
 refine aM (n:=32) func64 λB I C=>?_;have B:=l.many;have x:=h.aj;obtain⟨s,m⟩:=qg j 0;obtain⟨f,c⟩:=qg j 1;have o:=h.bX n c;have v:=o.aj;refine bA ?_;refine ag (ad.le (ad.cE rfl rfl rfl rfl) (aq.b6 f)) ?_;refine cI .k ((pt l h hn (c) y a env w).b) ?_;rintro _ _ ⟨rfl,rfl⟩;refine aP ?_;refine ag (ad.le (ad.cE rfl rfl rfl rfl) (aq.b6 s)) ?_;refine aH ?_;refine ag (ad.qO .k (fq.ew l o (pre:=[]) (post:=[.i (dD a 0:Int),.i y.n])) (RF _ l.aD m.1 y.n)) ?_;refine aQ ?_;refine az (λaf=>?_) λaf=>?_
 ·refine b0 13 32 ?_;refine a8 ?_;refine bh (ad.dX rfl rfl rfl rfl rfl (tZ (i:=y.n.toNat) aa) ⟨aa,aa⟩) ?_;refine aQ ?_;refine bh (ad.le (ad.cE rfl rfl rfl rfl) (aq.b6 f)) ?_;refine aQ ?_;refine cI .k ((D0 o B aa c).b) ?_;rintro _ _ ⟨rfl,rfl⟩;refine aR ?_;refine gQ [] (bO p ah q ((g.bX n (dD a 1)).eN y.n.toNat (dD a 1)) Hx) ?_;exact⟨rfl,by rw[tX,if_pos af]⟩
 ·refine aR ?_;refine gQ [] (bO p ah q (g.bX n (dD a 1)) Hx) ?_;exact⟨rfl,by rw[tX,if_neg (by rw[af];decide)]⟩
theorem RH:∀(l:al) (n:Nat),iL l n=true->∀x∈l,(n:Int)<=x/\x<n+l.length
 | [],n,_,x,a=>by cases a
 | y::r,n,h,x,a=>by
  simp[iL,Bool.and_eq_true,beq_iff_eq,decide_eq_true_eq] at h;rw[List.length_cons];rcases List.mem_cons.1 a with rfl | a
  ·omega
  ·have:=RH r _ h.2 x a;omega
theorem RI:∀(l:List ih) (n:Nat),jz l n=true->∀c∈l,∀x∈c.aw,0<=x/\x<n+ek l
 | [],n,_,c,a=>by cases a
 | y::r,n,h,c,a=>by
  simp[jz,Bool.and_eq_true,decide_eq_true_eq] at h;have e:ek (y::r)=y.aw.length+ek r:=by simp[ek]
  rcases List.mem_cons.1 a with rfl | a
  ·exact λx f=>by have:=RH _ _ h.1.2 x f;omega
  ·exact λx f=>by have:=RI r _ h.2 c a x f;omega
def Ju{p}{c}(g:eJ p c){s}(h:s∈cw p c):(0<=s/\s<p.aw)/\fX s:=by
 obtain⟨_,f⟩:=vf g;have a:=f;simp[fO,Bool.and_eq_true,decide_eq_true_eq,beq_iff_eq] at a;obtain⟨⟨⟨q,l⟩,j,t⟩,r⟩:=a;obtain⟨k,o,m⟩:=G7 h;have v:=RI _ _ l k o _ m;refine⟨aa,?_⟩;exact (pk g).has s h
def D2{p}:∀s∈fG p c,(0<=s/\s<p.aw)/\fX s:=λs a=>by
 unfold fG at a;cases bb:eJ p c with
 | true=>rw[bb,if_pos rfl] at a;exact Ju bb a
 | false=>rw[bb,if_neg c8] at a;cases a
def RJ(p)(c):(fG p c).length<=20000:=by
 unfold fG;cases bb:eJ p c with
 | true=>rw[if_pos rfl];exact (pk bb).bq
 | false=>rw[if_neg c8];exact Nat.zero_le _
def RK{p}(h:c<aG p):(fh p).getD c default=fG p c:=by rw[fh,po _ h];rfl
def xP{c j:Type}[Inhabited c]{f}{l:List c}{i:Nat}(h:i<l.length)(g:j):(l.take (i+1)).foldl f g=f ((l.take i).foldl f g) (l.getD i default):=by rw[<-c3 h,List.foldl_append];rfl
def xQ{vs:dj}(h:∀v∈vs,v.oneCell'=true):(vs.map λv=>[.val v]).all dG=true:=List.all_eq_true.2 (by
 rintro _ c;obtain⟨v,a,rfl⟩:=List.mem_map.1 c;exact Cr (h v a))
def aeg{vs:dj}(f:vs.length<=1000000)(a:∀v∈vs,v.oneCell'=true):qX prog 107 [.aj 1 (vs.map λv=>[ab.val v])] 23 1 (.aj 1 (vs.map λv=>[.val v])):=by
 intro H;refine aM func107 λB I h=>?_;refine a8 ?_;refine .uQ rfl rfl rfl rfl rfl rfl rfl gx rfl rfl λxt c=>?_;refine aQ ?_;refine az (λaf=>?_) λaf=>?_
 ·refine aP ?_;refine .oY 2 23 1 rfl ?_;refine aB 2 _ ?_;exact⟨_,congrArg (λx=>ab.as x _) (show ab.aj 1 []=ab.aj 1 _ by rw[c af]),rfl⟩
 ·refine aV ?_;refine .y2 rfl rfl rfl rfl λv5=>?_;refine aR ?_;refine .dJ rfl rfl rfl rfl rfl rfl rfl rfl (aq.refl _) (xQ a) (λ_=>dt) cF cF λAE=>?_;refine aV ?_;refine aB 2 _ ?_;exact⟨_,rfl,rfl⟩
def aeh(l:al):(l.map λx=>[.i x]).all dG=true:=List.all_eq_true.2 K4
def aei(l:al):(l.map λx=>[ab.i x]).flatten=l.map ab.i:=by
 induction l with
 | nil=>rfl
 | cons x r a=>rw[List.map_cons,List.flatten_cons,a];rfl
def RL(l)(a:l≠ [])(f:l.length<=1000000)(H):bP prog 21 [.aj 1 (l.map λx=>[.i x])] H (λy H'=>∃v,y= .val v/\H'= .row 3 1 v l.length (l.map .i)::H) (λ_ _=>False):=by
 refine aM func21 λB I j=>?_;refine a8 ?_;refine .uQ rfl rfl rfl rfl rfl rfl rfl gx rfl rfl λxt c=>?_;refine aQ ?_;refine bc (λaf=>?_) λaf=>?_
 ·exact absurd (c af) (by simpa using a)
 ·refine aV ?_;refine .y2 rfl rfl rfl rfl λv5=>?_;refine aR ?_;refine .Mv (d:=5) rfl CM ?_;refine .Cp (news:=l.map λx=>[.i x]) rfl rfl rfl rfl rfl rfl rfl rfl gx (by simpa using a) (aeh l) (λv=>.head _ _ _) cF cF λAE=>?_;refine aV ?_;refine .cl (rs:=[.tmp 2]) (H':=_) rfl eR cL kD ?_;exact⟨AE,rfl,by rw[aei];simp⟩
def aej:aI prog 21 [.aj 1 []] (.aj 1 []):=by
 intro H;refine aM func21 λB I c=>?_;refine a8 ?_;refine .uQ rfl rfl rfl rfl rfl rfl rfl gx rfl rfl λxt a=>?_;refine aQ ?_;refine az (λaf=>?_) λaf=>?_
 ·refine aP ?_;refine .cl (rs:=[.tmp 2]) (H':=H) rfl eR tA bE ?_;exact⟨cM,rfl⟩
 ·refine ay ?_;refine ag (ad.B0 rfl rfl rfl (aq.refl _) rfl rfl (aq.refl _) rfl BM BM) ?_;refine aV ?_;refine aB 2 (H) ?_;exact⟨cM,rfl⟩
def aek(l)(g:l.length<=1000000)(H):bP prog 21 [.aj 1 (l.map λx=>[.i x])] H (λy f=>∃v,y= .val v/\f=db v l++H/\(l= []->∃a c,v= .slice a 0 c)/\v.oneCell'=true) (λ_ _=>False):=by
 by_cases h:l= []
 ·subst h;exact (aI.M7 (k:=1) aej H).w8 λy f _ ⟨a,c,bM,bJ⟩=>⟨_,bM,bJ,λ_=>⟨a,c,rfl⟩,rfl⟩
 ·exact (RL l h g H).w8 λy f ⟨B,I,w,aW⟩ ⟨v,bM,bJ⟩=>⟨v,bM,by rw[bJ,db,if_neg h];rfl,λe=>absurd e h,by subst bJ;exact br.row_one (aW.ok _ dB)⟩
def ael(l:cY):(l.map λx=>[.b x]).all dG=true:=List.all_eq_true.2 K4
def aem(l:cY):(l.map λx=>[ab.b x]).flatten=l.map ab.b:=by
 induction l with
 | nil=>rfl
 | cons x r a=>rw[List.map_cons,List.flatten_cons,a];rfl
def aen(l)(a:l≠ [])(f:l.length<=1000000)(H):bP prog 20 [.aj 1 (l.map λx=>[.b x])] H (λy H'=>∃v,y= .val v/\H'= .row 4 1 v l.length (l.map .b)::H) (λ_ _=>False):=by
 refine aM func20 λB I j=>?_;refine a8 ?_;refine .uQ rfl rfl rfl rfl rfl rfl rfl gx rfl rfl λxt c=>?_;refine aQ ?_;refine bc (λaf=>?_) λaf=>?_
 ·exact absurd (c af) (by simpa using a)
 ·refine aV ?_;refine .y2 rfl rfl rfl rfl λv5=>?_;refine aR ?_;refine .Mv (d:=5) rfl CM ?_;refine .Cp (news:=l.map λx=>[.b x]) rfl rfl rfl rfl rfl rfl rfl rfl gx (by simpa using a) (ael l) (λv=>.head _ _ _) cF cF λAE=>?_;refine aV ?_;refine .cl (rs:=[.tmp 2]) (H':=_) rfl eR cL kD ?_;exact⟨AE,rfl,by rw[aem];simp⟩
def aeo:aI prog 20 [.aj 1 []] (.aj 1 []):=by
 intro H;refine aM func20 λB I c=>?_;refine a8 ?_;refine .uQ rfl rfl rfl rfl rfl rfl rfl gx rfl rfl λxt a=>?_;refine aQ ?_;refine az (λaf=>?_) λaf=>?_
 ·refine aP ?_;refine .cl (rs:=[.tmp 2]) (H':=H) rfl eR tA bE ?_;exact⟨cM,rfl⟩
 ·refine ay ?_;refine ag (ad.B0 rfl rfl rfl (aq.refl _) rfl rfl (aq.refl _) rfl BM BM) ?_;refine aV ?_;refine aB 2 (H) ?_;exact⟨cM,rfl⟩
def aep(l)(g:l.length<=1000000)(H):bP prog 20 [.aj 1 (l.map λx=>[.b x])] H (λy f=>∃v,y= .val v/\f=fH v l++H/\(l= []->∃a c,v= .slice a 0 c)/\v.oneCell'=true) (λ_ _=>False):=by
 by_cases h:l= []
 ·subst h;exact (aI.M7 (k:=1) aeo H).w8 λy f _ ⟨a,c,bM,bJ⟩=>⟨_,bM,bJ,λ_=>⟨a,c,rfl⟩,rfl⟩
 ·exact (aen l h g H).w8 λy f ⟨B,I,w,aW⟩ ⟨v,bM,bJ⟩=>⟨v,bM,by rw[bJ,fH,if_neg h];rfl,λe=>absurd e h,by subst bJ;exact br.row_one (aW.ok _ dB)⟩
def aeq{p}{q}{g}(C:fB p q)(h:bf p g.t){n}(hn:n<p.nodes.length){y:gR}{z env:al}{D:Int}{c:Nat}(o:y.n=(c:Int))(v:1<=c)(a:c<aG p):bP prog 63 [.p q.bz 0,ab.m3 n y z env D] (bO p ah q g Hx) (λr G=>r= .bj []/\G=bO p ah q (vE p n c g) Hx) (λ_ _=>False):=by
 refine aM (n:=34) func63 λB I J=>?_;have K:=C.many;have E:=RJ p c;have j:=s6 p;have B:=h.bX n (kv v a);have A:∀i,bf p (((fG p c).take i).foldl (GT.begin p c) (g.bX n (2^c))).t:=λi=>hX _ B λg s _ h=>vG h c s;refine ay ?_;refine b0 6 34 ?_;refine aV ?_;refine bh (ad.le (ad.cE rfl rfl rfl rfl) (aq.b6 o)) ?_;refine bh (ad.shift rfl rfl rfl rfl rfl aa (ml c ⟨aa,aa⟩)) ?_;refine aQ ?_;refine cI .k ((pt C h hn (kv v a) y z env D).b) ?_;rintro _ _ ⟨rfl,rfl⟩;refine aH ?_;refine b0 11 34 ?_;refine ay ?_;refine bh (ad.le (ad.cE rfl rfl rfl rfl) (aq.b6 o)) ?_;refine bh ((by first | exact ad.fC rfl rfl rfl rfl rfl (by rw[j];exact a) | exact ad.ep rfl rfl rfl rfl rfl (by rw[j];exact a))) ?_;refine bh (ad.le (ad.cE rfl rfl rfl rfl) (by rw[RK a];exact aq.refl _)) ?_;refine aH ?_;refine bW.done rfl ?_;refine aQ ?_;refine bm (λm F=>∃i:Nat,F=⟨[(23,.i i),(22,.i (fG p c).length),(21,ab.ints (fG p c)),(3,.ptr (fI n y z env D)),(0,.p q.bz 0)],bO p ah q (((fG p c).take i).foldl (GT.begin p c) (g.bX n (2^c))) Hx⟩/\m=(fG p c).length - i/\i<=(fG p c).length) (⟨0,rfl,rfl,aa⟩) ?_;rintro m _ ⟨i,rfl,rfl,H⟩;refine ay ?_;refine az (λaf=>?_) λaf=>?_
 ·have l:i<(fG p c).length:=by omega
  have w:=D2 _ (bH l);have x:=xP (f:=GT.begin p c) l (g.bX n (2^c));refine dW ?_;refine ag (ad.le (ad.cE rfl rfl rfl rfl) (aq.b6 o)) ?_;refine aR ?_;refine cI .k ((RG C (A i) a w.1 w.2).b) ?_;rintro _ _ ⟨rfl,rfl⟩;refine aP ?_;exact aU (⟨i+1,by rw[x],rfl,l⟩)
 ·obtain rfl:i=(fG p c).length:=by omega
  refine aV ?_;rw[List.take_length];refine gQ [] (bO p ah q (vE p n c g) Hx) ?_;exact⟨rfl,rfl⟩
end Go.Proofs.YtodccgailpkgeaaGreat

