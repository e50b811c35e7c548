/- Part 17 of the proof: contracts of functions of the program and what they need. No condition beyond those that each theorem names. -/
import Derived.Test.YtodccgailpkgeaaGreatKindLeastP16
set_option maxHeartbeats 1000000
set_option linter.unusedVariables false
set_option linter.unusedSimpArgs false
set_option maxRecDepth 10000
namespace Go.Eng.ei
open Go.Eng.Fc
variable{m x c:Nat}{k:Int}{l kinds a b:List Int}{α:Type}
instance:Inhabited bG:=⟨⟨[],[],[],[]⟩⟩
structure GT where
 t:bG
 ch:Bool
def w9(k:Int)(more:Nat):Int:=((k.toNat ||| more:Nat):Int)
def hW(l:List Int)(i:Nat)(more:Nat):List Int:=l.set i (w9 (l.getD i default) more)
def mJ(l:List Int)(i:Nat)(more:Nat):Bool:=w9 (l.getD i default) more !=l.getD i default
def GT.cz(g:GT)(i:Nat)(more:Nat):GT:=⟨{g.t with nodes:=hW g.t.nodes i more},g.ch || mJ g.t.nodes i more⟩
def GT.fu(g:GT)(i:Nat)(more:Nat):GT:=⟨{g.t with aJ:=hW g.t.aJ i more},g.ch || mJ g.t.aJ i more⟩
def GT.kp(g:GT)(m i:Nat)(more:Nat):GT:=⟨{g.t with params:=g.t.params.set m (hW (g.t.params.getD m default) i more)},g.ch || mJ (g.t.params.getD m default) i more⟩
def GT.reach(g:GT)(m:Nat):GT:=⟨{g.t with bP:=g.t.bP.set m true},g.ch || !g.t.bP.getD m default⟩
def hC(p:Prog)(c:Nat):List Int:=if gK p c then ez p c else []
def xa(p:Prog)(c:Nat)(s:Int):Nat:=if((if gK p c then pz p c else []).map (·.1)).contains s then 2 else 4
def GT.begin(p:Prog)(c:Nat)(g:GT)(s:Int):GT:=g.fu s.toNat (xa p c s)
def tq(p:Prog)(k:Nat)(s:Int):Bool:=(hV k).any λc=>fT p c s
def xb(p:Prog)(n c:Nat)(g:GT):GT:=(hC p c).foldl (GT.begin p c) (g.cz n (2^c))
def fB(t:bG)(i:Nat):List Int:=if i<t.params.length then t.params.getD i default else if i=t.params.length then t.nodes else t.aJ
def GT.qj(g:GT)(i j x:Nat):GT:=if i<g.t.params.length then g.kp i j x else if i=g.t.params.length then g.cz j x else g.fu j x
def oH(c to i:Nat)(g:GT)(j:Nat):GT:=if((fB g.t i).getD j default).toNat.testBit c then g.qj i j (2^to) else g
def nk(c to:Nat)(g:GT)(i:Nat):GT:=(List.range (fB g.t i).length).foldl (oH c to i) g
def GT.oI(c to:Nat)(g:GT):GT:=(List.range (g.t.params.length+2)).foldl (nk c to) g
def pE(p:Prog)(n to:Nat)(g:GT)(c:Nat):GT:=if c<3 then g else (hC p to).foldl (λg s=>if fT p c s then g else GT.begin p to g s) (GT.oI c to (g.cz n (2^to)))
def tr(p:Prog)(n to:Nat)(k:Nat)(g:GT):GT:=(hV k).foldl (pE p n to) g
def uU(M:iz):Bool:=M.kind==1 || M.kind==4
def re(m:Nat)(got:List Int)(g:GT):GT:=(List.range got.length).foldl (λg k=>g.kp m k (got.getD k default).toNat) g
def pF(p:Prog)(n:Nat)(g:GT)(x:Int×List Int):GT:=
 let g1:=re x.1.toNat x.2 (g.reach x.1.toNat)
 let M:=p.methods.getD x.1.toNat default
 if uU M then g1.cz n (g1.t.nodes.getD M.node.toNat default).toNat else g1
def BQ(p:Prog)(n:Nat)(gen:Int)(kinds:List Int)(g:GT):GT:=(hj p g.t gen kinds).foldl (pF p n) g
def nY(p:Prog)(ah:Nat->Nat->Bool)(n m:Nat)(g:GT)(o:Nat):GT:=
 let M:=p.methods.getD m default;let N:=p.methods.getD o default
 if g.t.bP.getD o default && N.gen==M.gen && ((N.kind==M.kind && ah m o) || (M.kind==4 && N.kind==1)) then g.cz n (g.t.nodes.getD N.node.toNat default).toNat else g
def xc(p:Prog)(ah:Nat->Nat->Bool)(n m:Nat)(g:GT):GT:=(List.range p.methods.length).foldl (nY p ah n m) g
def e8(bc:List Int)(i:Nat):Nat:=(bc.getD i default).toNat
def yS(p:Prog)(n:Nat)(s:Int)(jJ lI:Nat)(g:GT):GT:=if tq p jJ s then (g.cz n lI).fu s.toNat lI else g.cz n lI
def kq(p:Prog)(ah:Nat->Nat->Bool)(y:ew)(n:Nat)(env:List Int)(m:Int)(bc:List Int)(g:GT):GT:=
 if y.op=1\/(12<=y.op/\y.op<=16) then g.cz n 2
 else if y.op=2 then g.cz n 4
 else if y.op=3 then g.cz n (env.getD y.n.toNat default).toNat
 else if y.op=4 then if tq p (e8 bc 0) y.n then g.cz n (g.t.aJ.getD y.n.toNat default).toNat else g
 else if y.op=6 then xb p n y.n.toNat g
 else if y.op=7 then yS p n y.n (e8 bc 0) (e8 bc 1) g
 else if y.op=8 then tr p n y.n.toNat (e8 bc 0) g
 else if y.op=9\/y.op=11 then g.cz n (e8 bc 1)
 else if y.op=10 then g.cz n (e8 bc 1 ||| e8 bc 2)
 else if y.op=17 then g.cz n (e8 bc 0)
 else if y.op=5 then BQ p n y.n bc g
 else if y.op=18 then if m<0 then g else xc p ah n m.toNat g
 else g
def lp(run:Int->List Int->GT->GT)(y:ew)(env:List Int):Nat->List Int->GT->GT
 | _,[],g=>g
 | i,k::r,g=>lp run y env (i+1) r (run k (if y.op=9/\i=1 then env++[g.t.nodes.getD (y.kids.getD 0 default).toNat default] else env) g)
def lV(t:bG)(y:ew):List Int:=y.kids.map λk=>t.nodes.getD k.toNat default
def hX(p:Prog)(ah:Nat->Nat->Bool)(m:Int):Nat->Int->List Int->GT->GT
 | 0,_,_,g=>g
 | f+1,n,env,g=>let y:=hl p n;let g1:=lp (hX p ah m f) y env 0 y.kids g;kq p ah y n.toNat env m (lV g1.t y) g1
def nm(p:Prog)(ah:Nat->Nat->Bool)(g:GT)(m:Nat):GT:=if g.t.bP.getD m default then hX p ah m 13 (p.methods.getD m default).node (g.t.params.getD m default) g else g
def gg(p:Prog)(ah:Nat->Nat->Bool)(t:bG):GT:=hX p ah (-1) 13 p.main [] ((List.range p.methods.length).foldl (nm p ah) ⟨t,false⟩)
def nZ(p:Prog)(ah:Nat->Nat->Bool):Nat->bG->bG
 | 0,t=>t
 | k+1,t=>if(gg p ah t).ch then nZ p ah k (gg p ah t).t else t
def fj(p:Prog)(x:Nat):Prop:=x<2^a7 p/\x.testBit 0=false
structure bA(p:Prog)(t:bG):Prop where
 jm:t.bP.length=p.methods.length
 pl:t.params.length=p.methods.length
 nl:t.nodes.length=p.nodes.length
 aF:(t.aJ.length:Int)=p.aJ
 gT:∀i,i<p.methods.length->((t.params.getD i default).length:Int)=p.du.getD (p.methods.getD i default).gen.toNat default
 kH:∀l∈t.params,∀k∈l,cr (a7 p) k=true
 nb:∀k∈t.nodes,cr (a7 p) k=true
 fh:∀k∈t.aJ,cr (a7 p) k=true
theorem ts{p:Prog}{t:bG}:jG p t=true↔bA p t:=by
 simp only[jG,Bool.and_eq_true,decide_eq_true_eq,List.all_eq_true,List.mem_range,q2,beq_iff_eq];constructor
 ·rintro⟨⟨⟨⟨⟨⟨ab,ae⟩,aD⟩,aV⟩,bl⟩,cP⟩,di⟩;refine⟨ab,ae,aD,aV,λi av=>(bl i ad).1,λl ax k ao=>?_,cP,di⟩;obtain⟨i,av,rfl⟩:=List.getElem_of_mem ax;have:=(bl i av).2;rw[List.getD_eq_getElem?_getD,List.getElem?_eq_getElem av] at this;exact this k ao
 ·rintro⟨ab,ae,aD,aV,bl,cP,di,eW⟩;exact⟨⟨⟨⟨⟨⟨ab,ae⟩,aD⟩,aV⟩,λi av=>⟨bl i ad,λk ao=>cP _ (cp av) k ao⟩⟩,di⟩,eW⟩
theorem k6:cr m k=true↔k=(k.toNat:Int)/\k.toNat<2^m/\k.toNat.testBit 0=false:=by
 refine⟨wR,λ⟨ab,ae,aD⟩=>?_⟩;simp only[cr,Bool.and_eq_true,decide_eq_true_eq];rw[Nat.testBit_zero] at aD;simp at aD;refine⟨⟨ad,ad⟩,?_⟩;rw[ab];exact_mod_cast ae
theorem SB{p:Prog}(h:cr (a7 p) k=true):fj p k.toNat:=(k6.1 h).2
theorem SC(p:Prog):fj p 0:=⟨Nat.pow_pos e3,rfl⟩
theorem yT{p:Prog}{x y:Nat}(ag:fj p x)(hy:fj p y):fj p (x ||| y):=⟨Nat.or_lt_two_pow ag.1 hy.1,by rw[Nat.testBit_or,ag.2,hy.2];rfl⟩
theorem kI{p:Prog}(ab:1<=c)(ae:c<a7 p):fj p (2^c):=⟨Nat.pow_lt_pow_right e3 ae,by rw[Nat.testBit_two_pow];simp;omega⟩
theorem aef{p:Prog}(ao:cr (a7 p) k=true)(ag:fj p x):cr (a7 p) (w9 k x)=true:=k6.2 ⟨rfl,yT (SB ao) ag⟩
theorem iN{p:Prog}(h:∀k∈l,cr (a7 p) k=true)(i:Nat):fj p (l.getD i default).toNat:=by
 by_cases av:i<l.length
 ·exact SB (h _ (cp av))
 ·rw[List.getD_eq_getElem?_getD,List.getElem?_eq_none ad];exact SC p
theorem r6(l:List Int)(i x:Nat):(hW l i x).length=l.length:=List.length_set
theorem Ke{p:Prog}(h:∀k∈l,cr (a7 p) k=true){i x:Nat}(ag:fj p x):∀k∈hW l i x,cr (a7 p) k=true:=λk ao=>by
 unfold hW at ao;by_cases av:i<l.length
 ·rcases List.mem_or_eq_of_mem_set ao with ab | rfl
  ·exact h k ab
  ·exact aef (h _ (cp av)) ag
 ·rw[List.set_eq_of_length_le ad] at ao;exact h k ao
section
variable{p:Prog}{g:GT}
theorem bA.cz(h:bA p g.t)(i:Nat){x:Nat}(ag:fj p x):bA p (g.cz i x).t:=⟨h.jm,h.pl,(r6 _ _ _).trans h.nl,h.aF,h.gT,h.kH,Ke h.nb ag,h.fh⟩
theorem bA.fu(h:bA p g.t)(i:Nat){x:Nat}(ag:fj p x):bA p (g.fu i x).t:=⟨h.jm,h.pl,h.nl,by rw[<-h.aF];exact congrArg _ (r6 _ _ _),h.gT,h.kH,h.nb,Ke h.fh ag⟩
theorem pG[Inhabited α](l:List α)(m i:Nat)(x:α):(l.set m x).getD i default=if m=i/\i<l.length then x else l.getD i default:=by
 rw[List.getD_eq_getElem?_getD,List.getElem?_set];by_cases e:m=i
 ·subst e;by_cases h:m<l.length
  ·rw[if_pos rfl,if_pos h,if_pos ⟨rfl,h⟩];rfl
  ·rw[if_pos rfl,if_neg h,if_neg (λae=>h ae.2),List.getD_eq_getElem?_getD,List.getElem?_eq_none ad]
 ·rw[if_neg e,if_neg (λh=>e h.1),List.getD_eq_getElem?_getD]
theorem bA.kp(h:bA p g.t)(m i:Nat){x:Nat}(ag:fj p x):bA p (g.kp m i x).t:=by
 refine⟨h.jm,(List.length_set).trans h.pl,h.nl,h.aF,λj aU=>?_,λl ax=>?_,h.nb,h.fh⟩
 ·show (((g.t.params.set m _).getD j default).length:Int)=_;rw[pG];split
  ·rename_i e;obtain⟨rfl,e⟩:=e;rw[r6];exact h.gT _ aU
  ·exact h.gT j aU
 ·have ax:l∈g.t.params.set m (hW (g.t.params.getD m default) i x):=ax;by_cases hm:m<g.t.params.length
  ·rcases List.mem_or_eq_of_mem_set ax with ab | rfl
   ·exact h.kH l ab
   ·exact Ke (h.kH _ (cp hm)) ag
  ·rw[List.set_eq_of_length_le ad] at ax;exact h.kH l ax
theorem bA.reach(h:bA p g.t)(m:Nat):bA p (g.reach m).t:=⟨(List.length_set).trans h.jm,h.pl,h.nl,h.aF,h.gT,h.kH,h.nb,h.fh⟩
theorem lW{α:Type}{f:GT->α->GT}:∀(L:List α) {g:GT},bA p g.t->(∀g,∀x∈L,bA p g.t->bA p (f g x).t)->bA p (L.foldl f g).t
 | [],g,h,_=>h
 | x::r,g,h,aP=>lW r (aP g x (.head _) h) λg y hy=>aP g y (.tail _ hy)
end
section
variable{p:Prog}
theorem EU(p:Prog):3<=a7 p:=by unfold a7;omega
theorem BR(c:Nat)(s:Int):fj p (xa p c s):=by
 have:=EU p;have ab:fj p 2:=kI (p:=p) (c:=1) e3 ad;have ae:fj p 4:=kI (p:=p) (c:=2) e3 ad;unfold xa;by_cases h:((if gK p c then pz p c else []).map (·.1)).contains s=true
 ·rw[if_pos h];exact ab
 ·rw[if_neg h];exact ae
theorem EV{g:GT}(h:bA p g.t)(c:Nat)(s:Int):bA p (GT.begin p c g s).t:=h.fu _ (BR c s)
theorem aeg{g:GT}(h:bA p g.t)(n:Nat){c:Nat}(ab:1<=c)(ae:c<a7 p):bA p (xb p n c g).t:=lW _ (h.cz _ (kI ab ae)) λg s _ h=>EV h c s
theorem aeh{g:GT}(h:bA p g.t)(i j:Nat){x:Nat}(ag:fj p x):bA p (g.qj i j x).t:=by
 unfold GT.qj;split
 ·exact h.kp i j ag
 split
 ·exact h.cz j ag
 ·exact h.fu j ag
theorem Kf{g:GT}(h:bA p g.t)(c i j:Nat){to:Nat}(ab:1<=to)(ae:to<a7 p):bA p (oH c to i g j).t:=by
 unfold oH;split
 ·exact aeh h i j (kI ab ae)
 ·exact h
theorem SD{g:GT}(h:bA p g.t)(c:Nat){to:Nat}(ab:1<=to)(ae:to<a7 p):bA p (GT.oI c to g).t:=
 lW _ h λg i _ h=>lW _ h λg j _ h=>Kf h c i j ab ae
theorem SE{g:GT}(h:bA p g.t)(n:Nat){to:Nat}(ab:1<=to)(ae:to<a7 p)(c:Nat):bA p (pE p n to g c).t:=by
 unfold pE;split
 ·exact h
 ·refine lW _ (SD (h.cz _ (kI ab ae)) c ab ae) λg s _ h=>?_;split
  ·exact h
  ·exact EV h to s
theorem aei{g:GT}(h:bA p g.t)(n:Nat){to:Nat}(ab:1<=to)(ae:to<a7 p)(k:Nat):bA p (tr p n to k g).t:=lW _ h λg c _ h=>SE h n ab ae c
theorem aej{g:GT}(h:bA p g.t)(ah:Nat->Nat->Bool)(n m:Nat):bA p (xc p ah n m g).t:=lW _ h λg o _ h=>by
 unfold nY;simp only;split
 ·exact h.cz _ (iN h.nb _)
 ·exact h
theorem SF:∀{kinds x:List Int},x∈fU kinds->x.length=kinds.length/\∀i,i<kinds.length->∃c:Nat,x.getD i default=c/\c<62/\(kinds.getD i default).toNat.testBit c=true
 | [],x,h=>by
  simp only[fU,List.mem_singleton] at h;subst h;exact⟨rfl,λi av=>by simp at av⟩
 | k::r,x,h=>by
  simp only[fU,List.mem_flatMap,List.mem_map] at h;obtain⟨c,ak,l,ax,rfl⟩:=h;obtain⟨ab,ae⟩:=SF ax;refine⟨tL,λi av=>?_⟩;cases i with
  | zero=>exact⟨c,rfl,(qf.1 ak).1,(qf.1 ak).2⟩
  | succ i=>exact ae i rr
theorem aek(ao:∀k∈kinds,cr (a7 p) k=true){i:Nat}(av:i<kinds.length){L:List (List Int)}(df:∀l∈L,l∈fU kinds):fj p (mn L i):=by
 have key:∀(L:List (List Int)) (a:Nat),fj p a->(∀l∈L,l∈fU kinds)->fj p (L.foldl (λa l=>a ||| 2^(l.getD i default).toNat) a):=by
  intro L
  induction L with
  | nil=>intro a bN _;exact bN
  | cons x r bm=>
   intro a bN h;refine bm _ (yT bN ?_) λl ax=>h l (.tail _ ax);obtain⟨c,ak,aln,aw⟩:=(SF (h x (.head _))).2 i av;have lf:=k6.1 (ao _ (cp av));rw[ak];have alo:c≠0:=λe=>by rw[e,lf.2.2] at aw;cases aw
   refine kI (by show 1<=((c:Int)).toNat;simp;omega) ?_;show ((c:Int)).toNat<_;apply Decidable.byContradiction;intro ae;rw[Ew lf.2.1 (by simp at ae;omega)] at aw;cases aw
 exact key L 0 (SC p) df
theorem xd{t:bG}{gen:Int}(ao:∀k∈kinds,cr (a7 p) k=true):∀x∈hj p t gen kinds,(0<=x.1/\x.1<p.methods.length/\(p.methods.getD x.1.toNat default).gen=gen)/\x.2.length=kinds.length/\∀k∈x.2,cr (a7 p) k=true:=λx ag=>by
 obtain⟨m,hm,h⟩:=List.mem_filterMap.1 ag;split at h
 ·rename_i ak;cases h;have:=List.mem_range.1 hm;refine⟨⟨bj,by simpa using this,ak.1⟩,by simp[iL],λk gD=>?_⟩;obtain⟨i,av,rfl⟩:=List.mem_map.1 gD;exact k6.2 ⟨rfl,aek ao (List.mem_range.1 av) λl ax=>(List.mem_filter.1 ax).1⟩
 ·cases h
theorem ael{g:GT}(h:bA p g.t)(m:Nat){got:List Int}(al:∀k∈got,cr (a7 p) k=true):bA p (re m got g).t:=lW _ h λg k _ h=>h.kp m k (iN al k)
theorem SG{g:GT}(h:bA p g.t)(n:Nat){x:Int×List Int}(al:∀k∈x.2,cr (a7 p) k=true):bA p (pF p n g x).t:=by
 unfold pF;have ab:=ael (h.reach x.1.toNat) x.1.toNat al;simp only;split
 ·exact ab.cz _ (iN ab.nb _)
 ·exact ab
theorem aem{g:GT}(h:bA p g.t)(n:Nat)(gen:Int){kinds:List Int}(ao:∀k∈kinds,cr (a7 p) k=true):bA p (BQ p n gen kinds g).t:=lW _ h λg x ag h=>SG h n (xd ao x ag).2.2
theorem n0{c:Prop}[Decidable c]{a b:GT}(ab:c->bA p a.t)(ae: ¬c->bA p b.t):bA p (if c then a else b).t:=by
 by_cases h:c
 ·rw[if_pos h];exact ab h
 ·rw[if_neg h];exact ae h
theorem aen{g:GT}(h:bA p g.t)(ah:Nat->Nat->Bool){y:ew}(n:Nat){env:List Int}(m:Int){bc:List Int}{bx:Int}(hy:hI p y bx=true)(he:∀k∈env,cr (a7 p) k=true)(ao:∀k∈bc,cr (a7 p) k=true):bA p (kq p ah y n env m bc g).t:=by
 have aD:=EU p;have h6:=λi=>iN ao i;have uQ:y.op=6\/y.op=8->3<=y.n/\y.n.toNat<a7 p:=λaA=>by
  rw[hI,if_neg ad,if_pos aA] at hy;simp only[Bool.and_eq_true,decide_eq_true_eq] at hy;refine⟨hy.1,?_⟩;unfold a7;omega
 unfold kq;refine n0 (λ_=>h.cz _ (kI (p:=p) (c:=1) e3 ad)) λ_=>?_;refine n0 (λ_=>h.cz _ (kI (p:=p) (c:=2) e3 ad)) λ_=>?_;refine n0 (λ_=>h.cz _ (iN he _)) λ_=>?_;refine n0 (λ_=>n0 (λ_=>h.cz _ (iN h.fh _)) λ_=>h) λ_=>?_;refine n0 (λaA=>aeg h n (by have:=uQ (.inl aA);omega) (uQ (.inl aA)).2) λ_=>?_;refine n0 (λ_=>n0 (λ_=>(h.cz n (h6 1)).fu _ (h6 1)) λ_=>h.cz n (h6 1)) λ_=>?_;refine n0 (λaA=>aei h n (by have:=uQ (.inr aA);omega) (uQ (.inr aA)).2 _) λ_=>?_;refine n0 (λ_=>h.cz _ (h6 1)) λ_=>?_;refine n0 (λ_=>h.cz _ (yT (h6 1) (h6 2))) λ_=>?_;refine n0 (λ_=>h.cz _ (h6 0)) λ_=>?_;refine n0 (λ_=>aem h n _ ao) λ_=>?_;exact n0 (λ_=>n0 (λ_=>h) λ_=>aej h ah n _) λ_=>h
theorem yU{t:bG}(h:bA p t){y:ew}(ao:∀k∈y.kids,0<=k/\k<p.nodes.length):∀k∈lV t y,cr (a7 p) k=true:=λk gD=>by
 obtain⟨x,ag,rfl⟩:=List.mem_map.1 gD;have:=ao x ag;exact h.nb _ (cp (by rw[h.nl];omega))
theorem BS{t:bG}(h:bA p t){k:Int}(ao:0<=k/\k<p.nodes.length):cr (a7 p) (t.nodes.getD k.toNat default)=true:=h.nb _ (cp (by rw[h.nl];omega))
theorem SH{run:Int->List Int->GT->GT}{y:ew}{env:List Int}(hy:∀k∈y.kids,0<=k/\k<p.nodes.length)(he:∀k∈env,cr (a7 p) k=true):∀(l:List Int) (i:Nat) {g:GT},(∀k∈l,k∈y.kids)->bA p g.t->
  (∀j,j<l.length->∀(e:List Int) (g:GT),(∀k∈e,cr (a7 p) k=true)->(e.length=env.length+(if y.op=9/\i+j=1 then 1 else 0))->bA p g.t->bA p (run (l.getD j default) e g).t)->bA p (lp run y env i l g).t
 | [],i,g,_,h,_=>h
 | k::r,i,g,ax,h,aK=>by
  rw[lp];refine SH hy he r (i+1) (λx ag=>ax x (.tail _ ag)) ?_ λj aU e g ab ae aD=>?_
  ·refine aK 0 bj _ g ?_ ?_ h
   ·split
    ·intro x ag;rcases List.mem_append.1 ag with aV | aV
     ·exact he x aV
     ·rw[List.mem_singleton.1 aV];refine BS h (hy _ (cp ?_));have:=List.length_pos_of_mem (ax k (.head _));omega
    ·exact he
   ·rw[Nat.add_zero];split
    ·rw[List.length_append];rfl
    ·rfl
  ·have:=aK (j+1) (by simpa using aU) e g ab (by rw[ae,show i+1+j=i+(j+1) by omega]) aD;exact this
theorem EW{ah:Nat->Nat->Bool}{m:Int}{next:Bool}:∀(f:Nat) {n:Int} {env:List Int} {g:GT},jI p next f n env.length->(∀k∈env,cr (a7 p) k=true)->bA p g.t->bA p (hX p ah m f n env g).t
 | 0,n,env,g,bX,_,_=>bX.elim
 | f+1,n,env,g,bX,he,h=>by
  rw[hX];have mK:=BN bX;have ab:bA p (lp (hX p ah m f) (hl p n) env 0 (hl p n).kids g).t:=by
   refine SH mK he _ 0 (λx ag=>ag) h λj aU e g ab ae aD=>?_;have:=bX.2.2 j aU;refine EW f (next:=next) (by
    rw[Nat.zero_add] at ae;rw[ae];split at this
    ·rename_i ak;rw[if_pos ak];simpa using this
    ·rename_i ak;rw[if_neg ak];simpa using this) ab aD
  exact aen ab ah _ m (BO bX).1 he (yU ab mK)
end
abbrev jK(k:Int)(c:Nat):Prop:=k.toNat.testBit c=true
def fK(a b:List Int):Prop:=∀i c,jK (a.getD i default) c->jK (b.getD i default) c
structure mL(a b:bG):Prop where
 r:∀i,a.bP.getD i default=true->b.bP.getD i default=true
 p:∀m,fK (a.params.getD m default) (b.params.getD m default)
 n:fK a.nodes b.nodes
 s:fK a.aJ b.aJ
theorem fK.refl(a:List Int):fK a a:=λ_ _ h=>h
theorem fK.trans{a b c:List Int}(h:fK a b)(ae:fK b c):fK a c:=λi x y=>ae i x (h i x y)
theorem mL.refl(a:bG):mL a a:=⟨λ_ h=>h,λ_=>.refl _,.refl _,.refl _⟩
theorem mL.trans{a b c:bG}(h:mL a b)(ae:mL b c):mL a c:=⟨λi x=>ae.r i (h.r i x),λm=>(h.p m).trans (ae.p m),h.n.trans ae.n,h.s.trans ae.s⟩
theorem uV[Inhabited α]{a b:List α}(ax:a.length=b.length)(h:∀i,i<a.length->a.getD i default=b.getD i default):a=b:=by
 refine List.ext_getElem ax λi ab ae=>?_;have:=h i ab;rwa [List.getD_eq_getElem?_getD,List.getD_eq_getElem?_getD,List.getElem?_eq_getElem ab,List.getElem?_eq_getElem ae] at this
theorem fK.antisymm(ax:a.length=b.length)(bN:∀k∈a,cr m k=true)(aw:∀k∈b,cr m k=true)(h:fK a b)(ae:fK b a):a=b:=by
 refine uV ax λi av=>?_;have a6:=(k6.1 (bN _ (cp av))).1;have aW:=(k6.1 (aw _ (cp (by omega:i<b.length)))).1;rw[a6,aW];refine congrArg _ (Nat.eq_of_testBit_eq λc=>?_);have:=h i c;have:=ae i c;rw[Bool.eq_iff_iff];exact⟨h i c,ae i c⟩
section
variable{p:Prog}
theorem mL.antisymm{a b:bG}(bN:bA p a)(aw:bA p b)(h:mL a b)(ae:mL b a):a=b:=by
 have a6:a.bP=b.bP:=uV (by rw[bN.jm,aw.jm]) λi _=>by
  rw[Bool.eq_iff_iff];exact⟨h.r i,ae.r i⟩
 have aW:a.params=b.params:=uV (by rw[bN.pl,aw.pl]) λi av=>by
  have k3:i<p.methods.length:=by rw[<-bN.pl];exact av
  refine fK.antisymm (m:=a7 p) ?_ (bN.kH _ (cp av)) (aw.kH _ (cp (by rw[aw.pl];exact k3))) (h.p i) (ae.p i);have:=bN.gT i k3;have:=aw.gT i k3;omega
 have cN:a.nodes=b.nodes:=fK.antisymm (by rw[bN.nl,aw.nl]) bN.nb aw.nb h.n ae.n;have gO:a.aJ=b.aJ:=fK.antisymm (by have:=bN.aF;have:=aw.aF;omega) bN.fh aw.fh h.s ae.s;cases a;cases b;simp only at a6 aW cN gO;subst a6;subst aW;subst cN;subst gO;rfl
structure Grow(p:Prog)(g jb:GT):Prop where
 cV:bA p g.t
 c7:bA p jb.t
 le:mL g.t jb.t
 ch:jb.ch=true↔g.ch=true\/jb.t≠g.t
theorem Grow.refl{g:GT}(h:bA p g.t):Grow p g g:=⟨h,h,.refl _,⟨.inl,λx=>x.elim id λx=>absurd rfl x⟩⟩
theorem Grow.trans{a b c:GT}(h:Grow p a b)(ae:Grow p b c):Grow p a c:=by
 refine⟨h.cV,ae.c7,h.le.trans ae.le,ae.ch.trans ?_⟩;rw[h.ch];constructor
 ·rintro ((x | x) | x)
  ·exact .inl x
  ·exact .inr λe=>x (mL.antisymm ae.cV h.cV (by rw[<-e];exact ae.le) h.le)
  ·exact .inr λe=>x (mL.antisymm ae.c7 ae.cV (by rw[e];exact h.le) ae.le)
 ·rintro (x | x)
  ·exact .inl (.inl x)
  ·by_cases e:b.t=a.t
   ·exact .inr (by rw[e];exact x)
   ·exact .inl (.inr e)
theorem Grow.fix{g jb:GT}(h:Grow p g jb)(e:jb.t=g.t):jb=g:=by
 have ak:jb.ch=g.ch:=by
  rw[Bool.eq_iff_iff,h.ch];exact⟨λx=>x.elim id λx=>absurd e x,.inl⟩
 cases g;cases jb;simp only at e ak;subst e;subst ak;rfl
theorem Grow.aeo{a b:GT}(h:Grow p a b)(ae:Grow p b a):b=a:=h.fix (mL.antisymm h.c7 h.cV ae.le h.le)
theorem Grow.r7{a b c:GT}(h:Grow p a b)(ae:Grow p b c)(e:c=a):b=a/\c=b:=by
 subst e;have:=h.aeo ae;exact⟨this,this.symm⟩
theorem pH{α:Type}{f:GT->α->GT}:∀(L:List α) {g:GT},bA p g.t->(∀g,∀x∈L,bA p g.t->Grow p g (f g x))->Grow p g (L.foldl f g)
 | [],g,h,_=>.refl h
 | x::r,g,h,aP=>(aP g x (.head _) h).trans (pH r (aP g x (.head _) h).c7 λg y hy=>aP g y (.tail _ hy))
theorem r8{α:Type}{f:GT->α->GT}:∀(L:List α) {g:GT},bA p g.t->(∀g,∀x∈L,bA p g.t->Grow p g (f g x))->L.foldl f g=g->∀x∈L,f g x=g
 | [],g,h,_,_,x,ag=>by cases ag
 | y::r,g,h,aP,e,x,ag=>by
  have ab:=aP g y (.head _) h;have ae:=pH r ab.c7 λg z an=>aP g z (.tail _ an);obtain⟨a6,aW⟩:=ab.r7 ae e;rcases List.mem_cons.1 ag with rfl | ag
  ·exact a6
  ·rw[List.foldl_cons,a6] at e;exact r8 r h (λg z an=>aP g z (.tail _ an)) e x ag
theorem vV:jK (w9 k x) c↔jK k c\/x.testBit c=true:=by
 show ((k.toNat ||| x:Nat):Int).toNat.testBit c=true↔_;rw[Int.toNat_natCast,Nat.testBit_or,Bool.or_eq_true]
theorem xe{i x j c:Nat}:jK ((hW l i x).getD j default) c↔jK (l.getD j default) c\/(i=j/\j<l.length/\x.testBit c=true):=by
 unfold hW;rw[pG];by_cases h:i=j/\j<l.length
 ·rw[if_pos h,vV,h.1];exact⟨λx=>x.imp id λy=>⟨rfl,h.2,y⟩,λx=>x.imp id λy=>y.2.2⟩
 ·rw[if_neg h];exact⟨.inl,λx=>x.elim id λy=>absurd ⟨y.1,y.2.1⟩ h⟩
theorem Kg(l:List Int)(i x:Nat):fK l (hW l i x):=λj c h=>xe.2 (.inl h)
theorem Kh{i x:Nat}(av:i<l.length\/x=0)(ao:∀k∈l,k=(k.toNat:Int)):mJ l i x=true↔hW l i x≠l:=by
 unfold mJ hW;rw[bne_iff_ne];by_cases h:i<l.length
 ·constructor
  ·intro bq e;have:=congrArg (λl=>l.getD i default) e;simp only[pG,h,and_self,if_true] at this;exact bq this
  ·intro bq e;rw[e] at bq;apply bq;refine uV List.length_set λj aU=>?_;rw[pG];split
   ·rename_i ae;rw[ae.1]
   ·rfl
 ·rw[List.set_eq_of_length_le ad];have ag:x=0:=av.resolve_left h;subst ag;constructor
  ·intro bq;exfalso;apply bq;rw[List.getD_eq_getElem?_getD,List.getElem?_eq_none ad];rfl
  ·intro bq;exact absurd rfl bq
theorem Ki(h:∀k∈l,cr m k=true):∀k∈l,k=(k.toNat:Int):=λk ao=>(k6.1 (h k ao)).1
theorem rf{g:GT}(h:bA p g.t){i:Nat}(av:i<p.nodes.length){x:Nat}(ag:fj p x):Grow p g (g.cz i x):=by
 refine⟨h,h.cz i ag,⟨λ_ h=>h,λ_=>.refl _,Kg _ _ _,.refl _⟩,?_⟩;have:=Kh (l:=g.t.nodes) (i:=i) (x:=x) (.inl (by rw[h.nl];exact av)) (Ki h.nb);show (g.ch || mJ g.t.nodes i x)=true↔_;rw[Bool.or_eq_true,this];refine or_congr .rfl (not_congr ⟨λe=>?_,λe=>congrArg bG.nodes e⟩);show ({g.t with nodes:=hW g.t.nodes i x}:bG)=g.t;rw[e]
theorem EX{g:GT}(h:bA p g.t){i:Nat}(av:(i:Int)<p.aJ){x:Nat}(ag:fj p x):Grow p g (g.fu i x):=by
 refine⟨h,h.fu i ag,⟨λ_ h=>h,λ_=>.refl _,.refl _,Kg _ _ _⟩,?_⟩;have:=Kh (l:=g.t.aJ) (i:=i) (x:=x) (.inl (by have:=h.aF;omega)) (Ki h.fh);show (g.ch || mJ g.t.aJ i x)=true↔_;rw[Bool.or_eq_true,this];refine or_congr .rfl (not_congr ⟨λe=>?_,λe=>congrArg bG.aJ e⟩);show ({g.t with aJ:=hW g.t.aJ i x}:bG)=g.t;rw[e]
theorem r9[Inhabited α]{l:List α}{m:Nat}{x:α}(hm:m<l.length):l.set m x=l↔x=l.getD m default:=by
 constructor
 ·intro e;have:=congrArg (λl=>l.getD m default) e;simp only[pG,hm,and_self,if_true] at this;exact this
 ·intro e;subst e;refine uV List.length_set λj aU=>?_;rw[pG];split
  ·rename_i ae;rw[ae.1]
  ·rfl
theorem Kj{g:GT}(h:bA p g.t){m i:Nat}(hm:m<p.methods.length)(av:i<(g.t.params.getD m default).length){x:Nat}(ag:fj p x):Grow p g (g.kp m i x):=by
 have en:m<g.t.params.length:=by rw[h.pl];exact hm
 refine⟨h,h.kp m i ag,⟨λ_ h=>h,λj=>?_,.refl _,.refl _⟩,?_⟩
 ·show fK _ ((g.t.params.set m _).getD j default);rw[pG];split
  ·rename_i e;rw[<-e.1];exact Kg _ _ _
  ·exact .refl _
 have:=Kh (l:=g.t.params.getD m default) (i:=i) (x:=x) (.inl av) (Ki (h.kH _ (cp en)));show (g.ch || mJ (g.t.params.getD m default) i x)=true↔_;rw[Bool.or_eq_true,this];refine or_congr .rfl (not_congr ⟨λe=>?_,λe=>(r9 en).1 (congrArg bG.params e)⟩);show ({g.t with params:=g.t.params.set m (hW (g.t.params.getD m default) i x)}:bG)=g.t;rw[(r9 en).2 e]
theorem SI{g:GT}(h:bA p g.t){m:Nat}(hm:m<p.methods.length):Grow p g (g.reach m):=by
 have en:m<g.t.bP.length:=by rw[h.jm];exact hm
 refine⟨h,h.reach m,⟨λj aU=>?_,λ_=>.refl _,.refl _,.refl _⟩,?_⟩
 ·show (g.t.bP.set m true).getD j default=true;rw[pG];split
  ·rfl
  ·exact aU
 show (g.ch || !g.t.bP.getD m default)=true↔_;rw[Bool.or_eq_true,Bool.not_eq_true'];refine or_congr .rfl ?_;constructor
 ·intro e aW;have:=(r9 en).1 (congrArg bG.bP aW);rw[e] at this;cases this
 ·intro bq;cases e:g.t.bP.getD m default with
  | false=>rfl
  | true=>
   exfalso;apply bq;show ({g.t with bP:=g.t.bP.set m true}:bG)=g.t;rw[(r9 en).2 e.symm]
end
end Go.Eng.ei

namespace Go.Proofs.YtodccgailpkgeaaGreat
open Go.Eng
open Go.Eng.Fc
open Go.Eng.ei
variable{l:List Int}{i x c:Nat}{α:Type}{ah:Nat->Nat->Bool}{Hx:List aj}
instance:DC Tryz.prog 89 (198,4):=⟨aM,Go.Maps.Keyed.of_law (deep_law_laid laidOut (m:=3) ad (of_decide_eq_true aM) aM aM),aM⟩
structure fa where
 b3:Nat
 hD:Value
 vs:List Value
 gk:Value
 fP:Value
 fO:Nat
 n1:Nat
 ms:List (Nat×List (Int×aa))
def ec(v:Value)(l:List Int):List aj:=if l= [] then [] else [.row 3 1 v l.length (l.map aa.i)]
def jX(v:Value)(l:List Bool):List aj:=if l= [] then [] else [.row 4 1 v l.length (l.map aa.b)]
def n2(vs:List Value)(ls:List (List Int)):List aj:=(List.range ls.length).flatMap λi=>ec (vs.getD i default) (ls.getD i default)
def BT(m n:Nat):List Value:=[.int .i64 m,.int .i64 n]
def lX(ah:Nat->Nat->Bool):Value->aa
 | .agg a=>match a.toList with
  | [.int _ m,.int _ n]=>.b (ah m.toNat n.toNat)
  | _=>.any
 | _=>.any
def pI:List (Int×aa):=[(1,.fn (.func 59) [] []),(12,.fn (.func 59) [] []),(13,.fn (.func 59) [] []),(14,.fn (.func 59) [] []),(15,.fn (.func 59) [] []),(16,.fn (.func 59) [] []),(2,.fn (.func 60) [] []),(3,.fn (.func 61) [] []),(4,.fn (.func 62) [] []),(6,.fn (.func 63) [] []),(7,.fn (.func 64) [] []),(8,.fn (.func 65) [] []),(9,.fn (.func 66) [] []),(11,.fn (.func 66) [] []),(10,.fn (.func 67) [] []),(17,.fn (.func 68) [] []),(5,.fn (.func 69) [] []),(18,.fn (.func 70) [] [])]
abbrev yV(ah:Nat->Nat->Bool)(q:fa):aj:=.gX q.fO (e0 Tryz.prog 198) (lX ah)
def eL(ah:Nat->Nat->Bool)(q:fa)(t:bG):List aj:=yV ah q::eu q.n1 pI::(hk q.ms++(jX q.hD t.bP++(ec q.gk t.nodes++(ec q.fP t.aJ++n2 q.vs t.params))))
abbrev aep(p:Prog)(q:fa)(ch:Bool):List aa:=[.val q.hD,.aF 1 (q.vs.map λv=>[.val v]),.val q.gk,.val q.fP]++dF p++dH (cH p)++[aa.iE (fJ p),aa.bD (fV p),.aF 1 (q.ms.map iF),.val (.map (some q.fO)),.val (.map (some q.n1)),.b ch]
abbrev eU(p:Prog)(q:fa)(ch:Bool):aj:=.aI q.b3 92 (aep p q ch)
abbrev b5(p:Prog)(ah:Nat->Nat->Bool)(q:fa)(g:GT)(Hx:List aj):List aj:=eU p q g.ch::(eL ah q g.t++Hx)
theorem Kk{j:Nat}(h:j<l.length)(v:Int)(more:List aa):(l.map aa.i++more).take j++dq (.i v)++(l.map aa.i++more).drop (j+1)=(l.set j v).map aa.i++more:=by
 rw[List.take_append_of_le_length dj,List.drop_append_of_le_length dj,List.set_eq_take_append_cons_drop,if_pos h,List.map_append,List.map_take,List.map_cons,List.map_drop];simp[dq]
theorem Vv{j:Nat}(h:j<l.length)(more:List aa):(l.map aa.i++more)[j]? =some (.i (l.getD j default)):=by
 rw[List.getElem?_append_left h3,List.getElem?_map,List.getD_eq_getElem?_getD,List.getElem?_eq_getElem h];rfl
theorem aeq(h:mJ l i x=false):hW l i x=l:=by
 have ae:w9 (l.getD i default) x=l.getD i default:=by
  unfold mJ at h;simpa using h
 unfold hW;rw[ae];by_cases av:i<l.length
 ·exact (r9 av).2 rfl
 ·exact List.set_eq_of_length_le ad
theorem SJ{p:Prog}{q:fa}{ch:Bool}{i x b:Nat}{more:List aa}{H:List aj}{H':aj->List aj}(hu:∀e,bu H (.aI b 3 (l.map aa.i++more)) e (H' e))(av:i<l.length)(ao:l.getD i default=((l.getD i default).toNat:Int))(eD:(l.getD i default).toNat<2^62)(ag:x<2^62):
  b1 Tryz.prog 106 [.p q.b3 0,.p b i,.i x] (eU p q ch::H) (λy H1=>y= .bJ []/\H1=eU p q (ch || mJ l i x)::H' (.aI b 3 ((hW l i x).map aa.i++more))) (λ_ _=>False):=by
 refine bh (n:=24) Tryz.func106 λB I aO=>?_;refine bt ?_;refine aq.bL mixed ?_;refine bk.b7 0 8 24 rfl ay rfl rfl ay ?_;refine bC ?_;refine bU.bB rfl rfl rfl (af.le FY (aL.dx ao)) ?_;refine bt ?_;refine bU.bB rfl rfl rfl (af.bits rfl rfl rfl rfl rfl (wO _ _ ad ad)) ?_;refine bC ?_;refine bU.bB rfl rfl rfl (af.le FY (aL.dx ao)) ?_;refine bz ?_;refine aq.cond rfl (λai=>?_) (λai=>?_)
 ·have EY:mJ l i x=true:=by
   unfold mJ w9;rw[ao] at ai ⊢;exact ai
  refine bI ?_;refine aG (af.le FY (aL.dx ao)) ?_;refine bt ?_;refine aG (af.bits rfl rfl rfl rfl rfl (wO _ _ ad ad)) ?_;refine bt ?_;apply au.j9 (ds:=(hW l i x).map aa.i++more) rfl rfl rfl rfl rfl rfl rfl rfl rfl rfl
  (case hu=>exact .tail _ _ _ _ _ (hu _));(case hfit=>exact Nat.ble_eq_true_of_le dj);(case hds=>exact Kk av _ more)
  refine bs ?_;refine jj [] (eU p q true::H' (.aI b 3 ((hW l i x).map aa.i++more))) ?_;exact⟨rfl,by rw[EY,Bool.or_true]⟩
 ·have EY:mJ l i x=false:=by
   unfold mJ w9;rw[ao] at ai ⊢;exact ai
  refine bt ?_;refine jj [] (eU p q ch::H) ?_;exact⟨rfl,by rw[EY,Bool.or_false,aeq EY,(hu _).same]⟩
theorem Kl{p:Prog}{q:fa}{ch:Bool}{v:Value}{A C:List aj}(av:i<l.length)(ao:∀k∈l,cr (a7 p) k=true)(hm:a7 p<=13)(ag:x<2^62):
  b1 Tryz.prog 106 [.p q.b3 0,.val (nM v i 1),.i x] (eU p q ch::(A++.row 3 1 v l.length (l.map aa.i)::C)) (λy H1=>y= .bJ []/\H1=eU p q (ch || mJ l i x)::(A++.row 3 1 v l.length ((hW l i x).map aa.i)::C)) (λ_ _=>False):=by
 have lf:=k6.1 (ao _ (cp av));have aB:2^a7 p<=2^13:=Nat.pow_le_pow_right e3 hm;refine b1.row (t:=3) (n:=l.length) (cs:=l.map aa.i) (ds:=(hW l i x).map aa.i) (pre:=[.p q.b3 0]) (post:=[.i x]) (H:=A++.row 3 1 v l.length (l.map aa.i)::C) (H':=λe=>A++e::C) (F:=λH=>eU p q ch::H) (G:=λH=>eU p q (ch || mJ l i x)::H) (λ_ _ _ _ h=>.tail _ _ _ _ _ h) av (by simp[r6]) (λe=>bu.under A) (λ_ _ _ _ h=>.tail _ _ _ _ _ h) (λb cap more _=>?_) (λe e'=>bu.under A) (SJ (p:=p) (q:=q) (ch:=ch) (x:=x) (b:=0) (more:=[]) (H:=[.aI 0 3 (l.map aa.i++[])]) (H':=λe=>[e]) (λe=>.head _ _ _) av lf.1 ad ag).1;exact SJ (λe=>bu.under A) av lf.1 ad ag
theorem SK(ah:Nat->Nat->Bool)(q:fa)(t:bG)(Hx:List aj):∃A C,∀l,l≠ []->eL ah q {t with nodes:=l}++Hx=A++.row 3 1 q.gk l.length (l.map aa.i)::C:=
 ⟨yV ah q::eu q.n1 pI::(hk q.ms++jX q.hD t.bP),ec q.fP t.aJ++n2 q.vs t.params++Hx,λl h=>by simp[eL,ec,h]⟩
theorem SL(ah:Nat->Nat->Bool)(q:fa)(t:bG)(Hx:List aj):∃A C,∀l,l≠ []->eL ah q {t with aJ:=l}++Hx=A++.row 3 1 q.fP l.length (l.map aa.i)::C:=
 ⟨yV ah q::eu q.n1 pI::(hk q.ms++(jX q.hD t.bP++ec q.gk t.nodes)),n2 q.vs t.params++Hx,λl h=>by simp[eL,ec,h]⟩
theorem SM(ah:Nat->Nat->Bool)(q:fa)(t:bG)(Hx:List aj):∃A C,∀l,l≠ []->eL ah q {t with bP:=l}++Hx=A++.row 4 1 q.hD l.length (l.map aa.b)::C:=
 ⟨yV ah q::eu q.n1 pI::hk q.ms,ec q.gk t.nodes++(ec q.fP t.aJ++n2 q.vs t.params)++Hx,λl h=>by simp[eL,jX,h]⟩
theorem Km{α β:Type}{l:List α}{f g:α->List β}(h:∀x∈l,f x=g x):l.flatMap f=l.flatMap g:=by
 rw[List.flatMap_def,List.flatMap_def,List.map_congr_left h]
theorem aer(vs:List Value){ls:List (List Int)}{k:Nat}(ao:k<ls.length):∃A C,∀l,n2 vs (ls.set k l)=A++(ec (vs.getD k default) l++C):=by
 have e:List.range ls.length=List.range k++k::(List.range' (k+1) (ls.length - k - 1)):=by
  have ab:List.range' 0 k++List.range' (0+k) (ls.length - k)=List.range' 0 (k+(ls.length - k)):=List.range'_append_1;obtain⟨d,aN⟩:∃d,ls.length - k=d+1:=⟨ls.length - k - 1,ad⟩;rw[show k+(ls.length - k)=ls.length by omega,Nat.zero_add,aN,List.range'_succ] at ab;rw[List.range_eq_range',List.range_eq_range', <-ab,show ls.length - k - 1=d by omega]
 refine⟨(List.range k).flatMap λi=>ec (vs.getD i default) (ls.getD i default),(List.range' (k+1) (ls.length - k - 1)).flatMap λi=>ec (vs.getD i default) (ls.getD i default),λl=>?_⟩;unfold n2;rw[List.length_set,e,List.flatMap_append,List.flatMap_cons];have ab:∀i,i≠k->(ls.set k l).getD i default=ls.getD i default:=λi av=>by rw[pG,if_neg (λh=>av h.1.symm)]
 have ae:(ls.set k l).getD k default=l:=by rw[pG,if_pos ⟨rfl,ao⟩]
 rw[ae];congr 1
 ·exact Km λi av=>by rw[ab i (by have:=List.mem_range.1 av;omega)]
 ·congr 1;exact Km λi av=>by rw[ab i (by have:=List.mem_range'_1.1 av;omega)]
theorem SN(ah:Nat->Nat->Bool)(q:fa)(t:bG)(Hx:List aj){k:Nat}(ao:k<t.params.length):∃A C,∀l,l≠ []->eL ah q {t with params:=t.params.set k l}++Hx=A++.row 3 1 (q.vs.getD k default) l.length (l.map aa.i)::C:=by
 obtain⟨A,C,h⟩:=aer q.vs ao;exact⟨yV ah q::eu q.n1 pI::(hk q.ms++(jX q.hD t.bP++(ec q.gk t.nodes++(ec q.fP t.aJ++A)))),C++Hx,λl ax=>by simp[eL,h,ec,ax]⟩
theorem ne_of_lt{l:List α}(h:i<l.length):l≠ []:=λe=>by rw[e] at h;simp at h
section
variable{p:Prog}{ah:Nat->Nat->Bool}{q:fa}{g:GT}{Hx:List aj}
theorem oJ(h:i<g.t.nodes.length):aj.row 3 1 q.gk g.t.nodes.length (g.t.nodes.map aa.i)∈b5 p ah q g Hx:=by
 obtain⟨A,C,e⟩:=SK ah q g.t Hx;have:=e g.t.nodes (ne_of_lt h);show _∈_::(eL ah q {g.t with nodes:=g.t.nodes}++Hx);rw[this];simp
theorem uW(h:i<g.t.aJ.length):aj.row 3 1 q.fP g.t.aJ.length (g.t.aJ.map aa.i)∈b5 p ah q g Hx:=by
 obtain⟨A,C,e⟩:=SL ah q g.t Hx;have:=e g.t.aJ (ne_of_lt h);show _∈_::(eL ah q {g.t with aJ:=g.t.aJ}++Hx);rw[this];simp
theorem tt(h:i<g.t.bP.length):aj.row 4 1 q.hD g.t.bP.length (g.t.bP.map aa.b)∈b5 p ah q g Hx:=by
 obtain⟨A,C,e⟩:=SM ah q g.t Hx;have:=e g.t.bP (ne_of_lt h);show _∈_::(eL ah q {g.t with bP:=g.t.bP}++Hx);rw[this];simp
theorem Kn{k i:Nat}(ao:k<g.t.params.length)(h:i<(g.t.params.getD k default).length):aj.row 3 1 (q.vs.getD k default) (g.t.params.getD k default).length ((g.t.params.getD k default).map aa.i)∈b5 p ah q g Hx:=by
 obtain⟨A,C,e⟩:=SN ah q g.t Hx ao;have:=e (g.t.params.getD k default) (ne_of_lt h);rw[(r9 ao).2 rfl] at this;show _∈_::(eL ah q {g.t with params:=g.t.params}++Hx);rw[this];simp
theorem SO(h:bA p g.t)(hm:a7 p<=13){i x:Nat}(av:i<p.nodes.length)(ag:fj p x):b1 Tryz.prog 106 [.p q.b3 0,.val (nM q.gk i 1),.i x] (b5 p ah q g Hx) (λy H1=>y= .bJ []/\H1=b5 p ah q (g.cz i x) Hx) (λ_ _=>False):=by
 obtain⟨A,C,e⟩:=SK ah q g.t Hx;have ax:i<g.t.nodes.length:=by rw[h.nl];exact av
 have aB:2^a7 p<=2^13:=Nat.pow_le_pow_right e3 hm;have a6:b5 p ah q g Hx=_:=congrArg (eU p q g.ch::·) (e g.t.nodes (ne_of_lt ax));have aW:b5 p ah q (g.cz i x) Hx=_:=congrArg (eU p q (g.cz i x).ch::·) (e (hW g.t.nodes i x) (ne_of_lt (i:=i) (by rw[r6];exact ax)));rw[a6,aW];have:=Kl (p:=p) (q:=q) (ch:=g.ch) (v:=q.gk) (A:=A) (C:=C) ax h.nb hm (x:=x) (by have:=ag.1;omega);rw[r6];exact this
theorem EZ(h:bA p g.t)(hm:a7 p<=13){i x:Nat}(av:(i:Int)<p.aJ)(ag:fj p x):b1 Tryz.prog 106 [.p q.b3 0,.val (nM q.fP i 1),.i x] (b5 p ah q g Hx) (λy H1=>y= .bJ []/\H1=b5 p ah q (g.fu i x) Hx) (λ_ _=>False):=by
 obtain⟨A,C,e⟩:=SL ah q g.t Hx;have ax:i<g.t.aJ.length:=by have:=h.aF;omega
 have aB:2^a7 p<=2^13:=Nat.pow_le_pow_right e3 hm;have a6:b5 p ah q g Hx=_:=congrArg (eU p q g.ch::·) (e g.t.aJ (ne_of_lt ax));have aW:b5 p ah q (g.fu i x) Hx=_:=congrArg (eU p q (g.fu i x).ch::·) (e (hW g.t.aJ i x) (ne_of_lt (i:=i) (by rw[r6];exact ax)));rw[a6,aW];have:=Kl (p:=p) (q:=q) (ch:=g.ch) (v:=q.fP) (A:=A) (C:=C) ax h.fh hm (x:=x) (by have:=ag.1;omega);rw[r6];exact this
theorem SP(h:bA p g.t)(hm:a7 p<=13){k i x:Nat}(ao:k<p.methods.length)(av:i<(g.t.params.getD k default).length)(ag:fj p x):b1 Tryz.prog 106 [.p q.b3 0,.val (nM (q.vs.getD k default) i 1),.i x] (b5 p ah q g Hx) (λy H1=>y= .bJ []/\H1=b5 p ah q (g.kp k i x) Hx) (λ_ _=>False):=by
 have dP:k<g.t.params.length:=by rw[h.pl];exact ao
 obtain⟨A,C,e⟩:=SN ah q g.t Hx dP;have aB:2^a7 p<=2^13:=Nat.pow_le_pow_right e3 hm;have gF:=e (g.t.params.getD k default) (ne_of_lt av);rw[(r9 dP).2 rfl] at gF;have a6:b5 p ah q g Hx=_:=congrArg (eU p q g.ch::·) gF;have aW:b5 p ah q (g.kp k i x) Hx=_:=congrArg (eU p q (g.kp k i x).ch::·) (e (hW (g.t.params.getD k default) i x) (ne_of_lt (i:=i) (by rw[r6];exact av)));rw[a6,aW];have:=Kl (p:=p) (q:=q) (ch:=g.ch) (v:=q.vs.getD k default) (A:=A) (C:=C) av (h.kH _ (cp dP)) hm (x:=x) (by have:=ag.1;omega);rw[r6];exact this
end
structure gC(p:Prog)(q:fa):Prop where
 an:(bK p).isSome=true
 ins:q9 p q.ms (a7 p)
 qq:q.vs.length=p.methods.length
 uX:p.methods.length=0->∃a c,q.hD= .slice a 0 c
 sa:p.aJ=0->∃a c,q.fP= .slice a 0 c
 yW:q.hD.oneCell'=true
 BU:∀v∈q.vs,v.oneCell'=true
 n3:q.gk.oneCell'=true
 rh:q.fP.oneCell'=true
theorem gC.many{p:Prog}{q:fa}(h:gC p q):a7 p<=13:=qg h.an
theorem E0{p:Prog}(an:(bK p).isSome=true):1<=p.nodes.length:=by
 have:=w7 (tm an).2.1;omega
theorem BV{p:Prog}(an:(bK p).isSome=true){t:bG}(h:bA p t){k:Nat}(ao:k<p.methods.length):t.params.getD k default≠ []:=λe=>by
 have ab:=h.gT k ao;rw[e] at ab;have al:=w0 an ao;obtain⟨o,aA⟩:=Option.isSome_iff_exists.1 an;have:=(uE (kF aA).2.2.1 (cp (l:=p.du) (k:=(p.methods.getD k default).gen.toNat) ad)).1;have ae:(0:Int)=p.du.getD (p.methods.getD k default).gen.toNat default:=ab;omega
abbrev mM(w:World):a8:=λb o=>∃c,w.cell? ⟨b,o,none⟩=some c
theorem SQ{B:Nat}{I:a8}{w:World}(hw:ck B I w){t:Nat}{v:Value}{cs:List aa}(h:aj.ok B I w (.row t 1 v cs.length cs)):Rel (mM w) w (.aF 1 (cs.map λx=>[x])) v:=by
 have e:∀cs:List aa,(cs.map λx=>[x]).flatten=cs:=λcs=>by
  induction cs with
  | nil=>rfl
  | cons x r bm=>rw[List.map_cons,List.flatten_cons,bm];rfl
 obtain⟨J,ab,_,aD,aV⟩:=Df (els:=cs.map λx=>[x]) (by rw[List.length_map,e cs];exact h) (λx ag=>by obtain⟨y,_,rfl⟩:=List.mem_map.1 ag;rfl);exact aV.bQ ⟨λb o aw=>(aD b o aw).elim (hw.there b o) id,λ_ _ _=>rfl⟩
theorem Ko{B:Nat}{I:a8}{w:World}(hw:ck B I w){v:Value}{l:List Int}(he:l= []->∃a c,v= .slice a 0 c)(h:l≠ []->aj.ok B I w (.row 3 1 v l.length (l.map aa.i))):Rel (mM w) w (aa.ints l) v:=by
 by_cases ax:l= []
 ·obtain⟨a,c,rfl⟩:=he ax;subst ax;exact .eP _ _ _
 ·have:=SQ hw (t:=3) (v:=v) (cs:=l.map aa.i) (by rw[List.length_map];exact h ax);rw[List.map_map] at this;exact this
section
variable{p:Prog}{ah:Nat->Nat->Bool}{q:fa}{g:GT}{Hx:List aj}
theorem Kp{k:Nat}(ao:k<g.t.params.length)(bq:g.t.params.getD k default≠ []):aj.row 3 1 (q.vs.getD k default) (g.t.params.getD k default).length ((g.t.params.getD k default).map aa.i)∈b5 p ah q g Hx:=
 Kn ao (i:=0) (List.length_pos_iff.2 bq)
theorem gb.e2(ak:gC p q)(h:bA p g.t){pre post:List aa}:gb (b5 p ah q g Hx) (pre++.p q.b3 0::post) (pre++aa.e2 p g.t::post):=by
 intro B I w eo vs hw az aH aK;have dV:fb I w (mM w) w:=⟨λb o aw=>hw.there b o aw,λ_ _ _=>rfl⟩;refine⟨mM w,λ_ _ h=>h,?_⟩;obtain⟨us,bY,rfl,aS,ee⟩:=aK.sS;cases ee with
 | cons _ u _ bY ag ht=>
  have:=ct ag;subst this;refine (aS.bQ dV).append (.cons _ _ _ _ ?_ (ht.bQ dV));have cA:=λe he=>az.ok e (aH e he);obtain⟨bE,vs,aw,ed,_⟩:=cA _ (.head _);have ed:=ed.bQ dV;obtain⟨v0,eJ,gF,Hd,ed⟩:∃v0 eJ,vs.toList=v0::eJ/\v0=q.hD/\bZ (mM w) w _ eJ:=by
   cases aC:vs.toList with
   | nil=>rw[aC] at ed;cases ed
   | cons a r=>rw[aC] at ed;cases ed with | cons _ _ _ _ ab ae=>exact⟨a,r,rfl,ct ab,ae⟩
  obtain⟨v1,po,a6,JS,ed⟩:∃v1 po,eJ=v1::po/\Rel (mM w) w (.aF 1 (q.vs.map λv=>[.val v])) v1/\bZ (mM w) w _ po:=by
   cases ed with | cons _ a _ r ab ae=>exact⟨a,r,rfl,ab,ae⟩
  obtain⟨v2,pA,aW,w1,ed⟩:∃v2 pA,po=v2::pA/\v2=q.gk/\bZ (mM w) w _ pA:=by
   cases ed with | cons _ a _ r ab ae=>exact⟨a,r,rfl,ct ab,ae⟩
  obtain⟨v3,Kq,cN,JT,ed⟩:∃v3 Kq,pA=v3::Kq/\v3=q.fP/\bZ (mM w) w (dF p++dH (cH p)++[aa.iE (fJ p),aa.bD (fV p),.aF 1 (q.ms.map iF),.val (.map (some q.fO)),.val (.map (some q.n1)),.b g.ch]) Kq:=by
   cases ed with | cons _ a _ r ab ae=>exact⟨a,r,rfl,ct ab,ae⟩
  have hR:Rel (mM w) w (aa.da g.t.bP) q.hD:=by
   by_cases ax:g.t.bP= []
   ·obtain⟨a,c,e⟩:=ak.uX (by rw[<-h.jm,ax];rfl);rw[e,ax];exact .eP _ _ _
   ·have:=SQ hw (t:=4) (v:=q.hD) (cs:=g.t.bP.map aa.b) (by rw[List.length_map];exact cA _ (tt (i:=0) (List.length_pos_iff.2 ax)));rw[List.map_map] at this;exact this
  have lT:Rel (mM w) w (aa.ints g.t.nodes) q.gk:=Ko hw (λe=>by have:=h.nl;rw[e] at this;have:=E0 ak.an;simp at*;omega) λbq=>cA _ (oJ (i:=0) (List.length_pos_iff.2 bq));have h9:Rel (mM w) w (aa.ints g.t.aJ) q.fP:=Ko hw (λe=>ak.sa (by have:=h.aF;rw[e] at this;simpa using this.symm)) λbq=>cA _ (uW (i:=0) (List.length_pos_iff.2 bq));have iG:Rel (mM w) w (aa.bD g.t.params) v1:=by
   refine JS.Oj Mn λi x y ag hy=>?_;rw[List.getElem?_map] at ag hy;cases av:g.t.params[i]? with
   | none=>rw[av] at hy;cases hy
   | some l=>
    have a1:=(List.getElem?_eq_some_iff.1 av).1;have ax:g.t.params.getD i default=l:=by rw[List.getD_eq_getElem?_getD,av];rfl
    cases aC:q.vs[i]? with
    | none=>rw[aC] at ag;cases ag
    | some v=>
     have qG:q.vs.getD i default=v:=by rw[List.getD_eq_getElem?_getD,aC];rfl
     rw[av] at hy;rw[aC] at ag;cases ag;cases hy;refine⟨rfl,λb o dp=>?_⟩;cases dp with
     | cons _ _ _ c _ nN b4 ag ht=>
      refine .cons _ _ _ c _ nN b4 ?_ (by cases ht;exact .nil _ _);rw[ct ag];have bq:=BV ak.an h (k:=i) (by rw[<-h.pl];exact a1);refine Ko hw (λe=>absurd (ax.trans e) bq) λ_=>?_;have:=cA _ (Kp (p:=p) (ah:=ah) (q:=q) (g:=g) (Hx:=Hx) a1 bq);rw[ax,qG] at this;exact this
  have xf:bZ (mM w) w (RU p g.t) vs.toList:=by
   rw[gF,a6,aW,cN,Hd,w1,JT];refine .cons _ _ _ _ hR (.cons _ _ _ _ iG (.cons _ _ _ _ lT (.cons _ _ _ _ h9 ?_)));obtain⟨us,bY,rfl,lI,c1⟩:=bZ.sS ed;refine lI.append ?_;cases c1 with | cons _ _ _ _ cI c1=>cases c1 with | cons _ _ _ _ a2 c1=>cases c1 with | cons _ _ _ _ a3 c1=>cases c1 with | cons _ _ _ _ a4 c1=>cases c1 with | cons _ _ _ _ a5 c1=>cases c1 with | cons _ _ _ _ alp c1=>
    cases c1;exact .cons _ _ _ _ cI (.cons _ _ _ _ a2 (.cons _ _ _ _ (.any _) (.cons _ _ _ _ (.any _) (.cons _ _ _ _ (.any _) (.cons _ _ _ _ (.any _) .nil)))))
  exact .ptr _ _ _ (vy aw _ _ 0 xf (λj u hu=>by simpa using hu) (λj aU=>by
   have hlen:=xf.length;rw[Array.length_toList] at hlen;have eB:j<vs.size:=by rw[hlen];exact aU
   exact⟨vs[j],by rw[kQ aw,Nat.zero_add];exact Array.getElem?_eq_getElem eB⟩))
end
abbrev gE(n:Int)(y:ew)(bc env:List Int)(m:Int):List aa:=[.i n]++lN y++[.i (bc.getD 0 default),.i (bc.getD 1 default),.i (bc.getD 2 default)]++[aa.ints env,.i m]
abbrev aa.n4(n:Int)(y:ew)(bc env:List Int)(m:Int):aa:=.agg (gE n y bc env m)
theorem Kr(p:Prog):fj p 2:=kI (p:=p) (c:=1) e3 (by have:=EU p;omega)
theorem Ks(p:Prog):fj p 4:=kI (p:=p) (c:=2) e3 (by have:=EU p;omega)
theorem qk{p:Prog}{q:fa}{g:GT}(ak:gC p q)(h:bA p g.t){n x:Nat}(hn:n<p.nodes.length)(ag:fj p x)(y:ew)(bc env:List Int)(cj:Int):b1 Tryz.prog 103 [.p q.b3 0,aa.n4 (n:Int) y bc env cj,.i (x:Int)] (b5 p ah q g Hx) (λr H1=>r= .bJ []/\H1=b5 p ah q (g.cz n x) Hx) (λ_ _=>False):=by
 refine bh (n:=17) Tryz.func103 λB I aO=>?_;have hm:=ak.many;have ir:=h.nl;have eZ:=h.aF;have hL:=h.pl;have ja:=h.jm;refine bz ?_;refine aq.bL mixed ?_;refine bk.b7 0 10 17 rfl ay rfl rfl ay ?_;refine bs ?_;refine bU.bB rfl rfl rfl (af.jF rfl rfl rfl rfl rfl (oJ (i:=n) ad) ⟨ad,ad⟩) ?_;refine bg ?_;refine dE .k ((SO h hm hn ag).b) ?_;rintro _ _ ⟨rfl,rfl⟩;refine bt ?_;refine jj [] (b5 p ah q (g.cz n x) Hx) ?_;exact⟨rfl,rfl⟩
theorem uY{p:Prog}{bc:List Int}(eD:∀k∈bc,cr (a7 p) k=true)(i:Nat):bc.getD i default=(e8 bc i:Int)/\fj p (e8 bc i):=by
 refine⟨?_,iN eD i⟩;by_cases av:i<bc.length
 ·exact (k6.1 (eD _ (cp av))).1
 ·unfold e8;rw[List.getD_eq_getElem?_getD,List.getElem?_eq_none ad];rfl
theorem Kt{p:Prog}(hm:a7 p<=13){x:Nat}(h:fj p x):x<2^13:=Nat.lt_of_lt_of_le h.1 (Nat.pow_le_pow_right e3 hm)
theorem aes{p:Prog}{q:fa}{g:GT}(ak:gC p q)(h:bA p g.t){n:Nat}(hn:n<p.nodes.length){y:ew}{bc env:List Int}{cj:Int}  :b1 Tryz.prog 59 [.p q.b3 0,aa.n4 n y bc env cj] (b5 p ah q g Hx) (λr H1=>r= .bJ []/\H1=b5 p ah q (g.cz n 2) Hx) (λ_ _=>False):=by
 refine bh (n:=7) Tryz.func59 λB I aO=>?_;have hm:=ak.many;have ir:=h.nl;have eZ:=h.aF;have hL:=h.pl;have ja:=h.jm;refine bs ?_;refine dE .k ((qk ak h hn (Kr p) y bc env cj).b) ?_;rintro _ _ ⟨rfl,rfl⟩;refine bt ?_;refine jj [] (b5 p ah q (g.cz n 2) Hx) ?_;exact⟨rfl,rfl⟩
theorem aet{p:Prog}{q:fa}{g:GT}(ak:gC p q)(h:bA p g.t){n:Nat}(hn:n<p.nodes.length){y:ew}{bc env:List Int}{cj:Int}  :b1 Tryz.prog 60 [.p q.b3 0,aa.n4 n y bc env cj] (b5 p ah q g Hx) (λr H1=>r= .bJ []/\H1=b5 p ah q (g.cz n 4) Hx) (λ_ _=>False):=by
 refine bh (n:=7) Tryz.func60 λB I aO=>?_;have hm:=ak.many;have ir:=h.nl;have eZ:=h.aF;have hL:=h.pl;have ja:=h.jm;refine bs ?_;refine dE .k ((qk ak h hn (Ks p) y bc env cj).b) ?_;rintro _ _ ⟨rfl,rfl⟩;refine bt ?_;refine jj [] (b5 p ah q (g.cz n 4) Hx) ?_;exact⟨rfl,rfl⟩
theorem aeu{p:Prog}{q:fa}{g:GT}(ak:gC p q)(h:bA p g.t){n:Nat}(hn:n<p.nodes.length){y:ew}{bc env:List Int}{cj:Int}(hy:0<=y.n/\y.n<env.length)(he:∀k∈env,cr (a7 p) k=true):b1 Tryz.prog 61 [.p q.b3 0,aa.n4 n y bc env cj] (b5 p ah q g Hx) (λr H1=>r= .bJ []/\H1=b5 p ah q (g.cz n (env.getD y.n.toNat default).toNat) Hx) (λ_ _=>False):=by
 refine bh (n:=14) Tryz.func61 λB I aO=>?_;have hm:=ak.many;have lf:=k6.1 (he _ (cp (k:=y.n.toNat) ad));refine bz ?_;refine aq.bL mixed ?_;refine bk.b7 0 9 14 rfl ay rfl rfl ay ?_;refine bn ?_;refine bU.bB rfl rfl rfl (ob) ?_;refine bU.bB rfl rfl rfl (af.le (af.eN rfl rfl rfl rfl) (aL.dx lf.1)) ?_;refine bC ?_;refine dE .k ((qk ak h hn (lf.2) y bc env cj).b) ?_;rintro _ _ ⟨rfl,rfl⟩;refine bt ?_;refine jj [] (b5 p ah q (g.cz n (env.getD y.n.toNat default).toNat) Hx) ?_;exact⟨rfl,rfl⟩
theorem aev{p:Prog}{q:fa}{g:GT}(ak:gC p q)(h:bA p g.t){n:Nat}(hn:n<p.nodes.length){y:ew}{bc env:List Int}{cj:Int}(eD:∀k∈bc,cr (a7 p) k=true):b1 Tryz.prog 66 [.p q.b3 0,aa.n4 n y bc env cj] (b5 p ah q g Hx) (λr H1=>r= .bJ []/\H1=b5 p ah q (g.cz n (e8 bc 1)) Hx) (λ_ _=>False):=by
 refine bh (n:=10) Tryz.func66 λB I aO=>?_;have hm:=ak.many;obtain⟨k4,gn⟩:=uY eD 1;refine c6 ?_;refine aG (af.le (af.eN rfl rfl rfl rfl) (aL.dx k4)) ?_;refine dE .k ((qk ak h hn (gn) y bc env cj).b) ?_;rintro _ _ ⟨rfl,rfl⟩;refine bt ?_;refine jj [] (b5 p ah q (g.cz n (e8 bc 1)) Hx) ?_;exact⟨rfl,rfl⟩
theorem aew{p:Prog}{q:fa}{g:GT}(ak:gC p q)(h:bA p g.t){n:Nat}(hn:n<p.nodes.length){y:ew}{bc env:List Int}{cj:Int}(eD:∀k∈bc,cr (a7 p) k=true):b1 Tryz.prog 68 [.p q.b3 0,aa.n4 n y bc env cj] (b5 p ah q g Hx) (λr H1=>r= .bJ []/\H1=b5 p ah q (g.cz n (e8 bc 0)) Hx) (λ_ _=>False):=by
 refine bh (n:=10) Tryz.func68 λB I aO=>?_;have hm:=ak.many;obtain⟨k4,gn⟩:=uY eD 0;refine c6 ?_;refine aG (af.le (af.eN rfl rfl rfl rfl) (aL.dx k4)) ?_;refine dE .k ((qk ak h hn (gn) y bc env cj).b) ?_;rintro _ _ ⟨rfl,rfl⟩;refine bt ?_;refine jj [] (b5 p ah q (g.cz n (e8 bc 0)) Hx) ?_;exact⟨rfl,rfl⟩
theorem aex{p:Prog}{q:fa}{g:GT}(ak:gC p q)(h:bA p g.t){n:Nat}(hn:n<p.nodes.length){y:ew}{bc env:List Int}{cj:Int}(eD:∀k∈bc,cr (a7 p) k=true):b1 Tryz.prog 67 [.p q.b3 0,aa.n4 n y bc env cj] (b5 p ah q g Hx) (λr H1=>r= .bJ []/\H1=b5 p ah q (g.cz n (e8 bc 1 ||| e8 bc 2)) Hx) (λ_ _=>False):=by
 refine bh (n:=14) Tryz.func67 λB I aO=>?_;have hm:=ak.many;obtain⟨k4,gn⟩:=uY eD 1;obtain⟨gD,mU⟩:=uY eD 2;have ab:=Kt hm gn;have ae:=Kt hm mU;refine c6 ?_;refine aG (af.le (af.eN rfl rfl rfl rfl) (aL.dx k4)) ?_;refine bC ?_;refine aG (af.le (af.eN rfl rfl rfl rfl) (aL.dx gD)) ?_;refine aG (af.bits rfl rfl rfl rfl rfl (wO _ _ ad ad)) ?_;refine dE .k ((qk ak h hn (yT gn mU) y bc env cj).b) ?_;rintro _ _ ⟨rfl,rfl⟩;refine bt ?_;refine jj [] (b5 p ah q (g.cz n (e8 bc 1 ||| e8 bc 2)) Hx) ?_;exact⟨rfl,rfl⟩
theorem SR{p:Prog}(t:bG)(an:(bK p).isSome=true){k:Nat}(ao:k<2^a7 p)(s:Int):ba Tryz.prog 104 [aa.e2 p t,.i k,.i s] (.b (tq p k s)):=by
 intro H;refine b1.rF (n:=15) Tryz.func104 rfl aM rfl rfl (λB I aO=>?_);have wY:=qh an;refine bI ?_;refine au.cG rfl rfl rfl rfl (λer=>?_);refine aT ?_;refine aG (af.call .k ((wU _))) ?_;refine bg ?_;refine aq.weaken (st':=⟨[(9,.fn (.func 76) [] [.ptr [.i k]]),(3,.ptr [aa.e2 p t]),(5,.ptr [.i s]),(6,.p er 0)],[.aI er 4 [.b false]]++(hO []++H)⟩) h2 hp ?_;refine aq.rO [] (λ_ (c:Nat)=>.i c) (λ_ _=>[]) (hV k) (λpre H=>H= [.aI er 4 [.b false]]/\pre.any (λc=>fT p c s)=false) (λcode _ H=>code= .ret/\H= [.aI er 4 [.b true]]/\tq p k s=true) ([.aI er 4 [.b false]]) (H) (λ_ x=>[(7,.i x),(10,.i x),(3,.ptr [aa.e2 p t]),(5,.ptr [.i s]),(6,.p er 0)]) rfl rfl rfl rfl ((wX _ ad).b) (⟨rfl,rfl⟩) ?_ ?_ ?_ ?_
 ·intro eJ iY fA iM x c0;refine bg ?_;exact λa w s=>⟨_,rfl,s.weaken (j3 h2) (List.Sublist.refl _)⟩
 ·intro eJ eK dw pre iM x H1 c0 iY fA e9 bF;obtain⟨rfl,cy⟩:=bF;have mz:x∈hV k:=e9.subset bj;have ag:x<a7 p:=wQ ao mz;refine aT ?_;refine aG (af.call .k (BH t an ag s)) ?_;refine bC ?_;refine aq.cond rfl (λai=>?_) (λai=>?_)
  ·have ai:fT p x s=true:=by simpa using ai
   refine bn ?_;exact aR.Gs (H:=[.aI er 4 [.b true]]) lv ⟨rfl,rfl,List.any_eq_true.2 ⟨x,mz,ai⟩⟩
  ·have ai:fT p x s=false:=by simpa using ai
   refine bC ?_;exact aR.nA (H:=[.aI er 4 [.b false]]) lv ⟨rfl,by rw[List.any_append,cy,List.any_cons,ai];rfl⟩
 ·intro eK H1 bF;obtain⟨rfl,cy⟩:=bF;refine bs ?_;refine aR.l9 (eK::[]) ([.aI er 4 [.b false]]) H (rs:=[.cell 6 4]) (H':=H) rfl hp (tC) (bO.refl _) b8 ?_;exact⟨bR cy.symm,rfl⟩
 ·intro eK r2 pre H1 e9 k5;obtain⟨rfl,rfl,eF⟩:=k5
  ·refine bg ?_;refine aR.l9 (eK::[]) ([.aI er 4 [.b true]]) H (rs:=[.cell 6 4]) (H':=H) rfl hp (tC) (bO.refl _) b8 ?_;exact⟨bR eF.symm,rfl⟩
section
variable{p:Prog}{ah:Nat->Nat->Bool}{q:fa}{g:GT}{Hx:List aj}
theorem aey(h:c<q.ms.length):eu (q.ms.getD c default).1 (q.ms.getD c default).2∈b5 p ah q g Hx:=by
 have hm:eu (q.ms.getD c default).1 (q.ms.getD c default).2∈hk q.ms:=List.mem_map.2 ⟨_,cp h,rfl⟩;show _∈_::(eL ah q g.t++Hx);simp only[eL,List.mem_cons,List.mem_append];simp only[hm,true_or,or_true]
end
theorem aez{p:Prog}{q:fa}(ak:gC p q){c:Nat}(h:c<a7 p)(s:Int):(hN (q.ms.getD c default).2 s).getD (.val (.bool false))= .b (((if gK p c then pz p c else []).map (·.1)).contains s):=by
 rw[(ak.ins.2 c h).get s];by_cases ae:((if gK p c then pz p c else []).map (·.1)).contains s=true
 ·rw[if_pos ae,ae];rfl
 ·rw[if_neg ae,Bool.eq_false_iff.2 ae];rfl
theorem SS{p:Prog}{q:fa}{g:GT}(ak:gC p q)(h:bA p g.t){c:Nat}(dp:c<a7 p){s:Int}(aH:0<=s/\s<p.aJ)(aeA:gL s):b1 Tryz.prog 105 [.p q.b3 0,.i (c:Int),.i s] (b5 p ah q g Hx) (λr H1=>r= .bJ []/\H1=b5 p ah q (GT.begin p c g s) Hx) (λ_ _=>False):=by
 refine bh (n:=26) Tryz.func105 λB I aO=>?_;have hm:=ak.many;have ir:=h.nl;have eZ:=h.aF;have hL:=h.pl;have ja:=h.jm;refine ev ?_;refine aG ((by first | exact af.iQ rfl rfl rfl rfl rfl (by rw[ak.ins.1];exact dp) | exact af.h1 rfl rfl rfl rfl rfl (by rw[ak.ins.1];exact dp))) ?_;refine bC ?_;refine aG (af.eq (af.ur rfl rfl rfl rfl rfl (aey (by rw[ak.ins.1];exact dp)) (ak.ins.2 c dp).ok aeA) (aez ak dp s)) ?_;refine bC ?_;refine aq.cond rfl (λai=>?_) (λai=>?_)
 ·have aw:xa p c s=2:=if_pos ai;refine bI ?_;refine aq.le 6 (y:=.i (xa p c s:Int)) rfl (aL.dx (by rw[aw];rfl)) ?_;refine bs ?_;refine aG (af.jF rfl rfl rfl rfl rfl (uW (i:=s.toNat) ad) ⟨ad,ad⟩) ?_;refine bt ?_;refine dE .k ((EZ h hm ad (BR c s)).b) ?_;rintro _ _ ⟨rfl,rfl⟩;refine bt ?_;refine jj [] (b5 p ah q (GT.begin p c g s) Hx) ?_;exact⟨rfl,rfl⟩
 ·have aw:xa p c s=4:=if_neg (by rw[ai];decide);refine bC ?_;refine aq.le 6 (y:=.i (xa p c s:Int)) rfl (aL.dx (by rw[aw];rfl)) ?_;refine bs ?_;refine aG (af.jF rfl rfl rfl rfl rfl (uW (i:=s.toNat) ad) ⟨ad,ad⟩) ?_;refine bt ?_;refine dE .k ((EZ h hm ad (BR c s)).b) ?_;rintro _ _ ⟨rfl,rfl⟩;refine bt ?_;refine jj [] (b5 p ah q (GT.begin p c g s) Hx) ?_;exact⟨rfl,rfl⟩
theorem aeB{p:Prog}{t:bG}(h:bA p t){s:Int}(aH:0<=s/\s<p.aJ):t.aJ.getD s.toNat default=((t.aJ.getD s.toNat default).toNat:Int)/\fj p (t.aJ.getD s.toNat default).toNat:=by
 have:=h.aF;exact k6.1 (h.fh _ (cp ad))
theorem pJ(h:i<l.length):(l.map aa.i)[i]? =some (.i (l.getD i default)):=by
 rw[List.getElem?_map,List.getD_eq_getElem?_getD,List.getElem?_eq_getElem h];rfl
theorem aeC{p:Prog}{q:fa}{g:GT}(ak:gC p q)(h:bA p g.t){n:Nat}(hn:n<p.nodes.length){y:ew}{bc env:List Int}{cj:Int}(eD:∀k∈bc,cr (a7 p) k=true)(hy:0<=y.n/\y.n<p.aJ):b1 Tryz.prog 62 [.p q.b3 0,aa.n4 n y bc env cj] (b5 p ah q g Hx) (λr H1=>r= .bJ []/\H1=b5 p ah q (if tq p (e8 bc 0) y.n then g.cz n (g.t.aJ.getD y.n.toNat default).toNat else g) Hx) (λ_ _=>False):=by
 refine bh (n:=25) Tryz.func62 λB I aO=>?_;have hm:=ak.many;have eZ:=h.aF;obtain⟨k4,gn⟩:=uY eD 0;obtain⟨oE,Ku⟩:=aeB h hy;refine c6 ?_;refine aG (af.le (af.eN rfl rfl rfl rfl) (aL.dx k4)) ?_;refine bg ?_;refine aG (af.sR .k (gb.e2 ak h (pre:=[]) (post:=[.i (e8 bc 0:Int),.i y.n])) (SR _ ak.an gn.1 y.n)) ?_;refine bC ?_;refine aZ (λai=>?_) λai=>?_
 ·refine aq.bL mixed ?_;refine bk.b7 0 12 25 rfl ay rfl rfl ay ?_;refine c6 ?_;refine bU.bB rfl rfl rfl (af.jF rfl rfl rfl rfl rfl (uW (i:=y.n.toNat) ad) ⟨ad,ad⟩) ?_;refine bU.bB rfl rfl rfl (af.le (af.m9 rfl rfl rfl (uW (i:=y.n.toNat) ad) (pJ ad)) (aL.dx oE)) ?_;refine bC ?_;refine dE .k ((qk ak h hn (Ku) y bc env cj).b) ?_;rintro _ _ ⟨rfl,rfl⟩;refine bt ?_;refine jj [] (b5 p ah q (g.cz n (g.t.aJ.getD y.n.toNat default).toNat) Hx) ?_;exact⟨rfl,by rw[if_pos ai]⟩
 ·refine bt ?_;refine jj [] (b5 p ah q g Hx) ?_;exact⟨rfl,by rw[if_neg (by rw[ai];decide)]⟩
theorem aeD{p:Prog}{q:fa}{g:GT}(ak:gC p q)(h:bA p g.t){n:Nat}(hn:n<p.nodes.length){y:ew}{bc env:List Int}{cj:Int}(eD:∀k∈bc,cr (a7 p) k=true)(hy:0<=y.n/\y.n<p.aJ):b1 Tryz.prog 64 [.p q.b3 0,aa.n4 n y bc env cj] (b5 p ah q g Hx) (λr H1=>r= .bJ []/\H1=b5 p ah q (yS p n y.n (e8 bc 0) (e8 bc 1) g) Hx) (λ_ _=>False):=by
 refine bh (n:=32) Tryz.func64 λB I aO=>?_;have hm:=ak.many;have eZ:=h.aF;obtain⟨jw,hg⟩:=uY eD 0;obtain⟨k4,gn⟩:=uY eD 1;have ae:=h.cz n gn;have alq:=ae.aF;refine cw ?_;refine aG (af.le (af.eN rfl rfl rfl rfl) (aL.dx k4)) ?_;refine dE .k ((qk ak h hn (gn) y bc env cj).b) ?_;rintro _ _ ⟨rfl,rfl⟩;refine bn ?_;refine aG (af.le (af.eN rfl rfl rfl rfl) (aL.dx jw)) ?_;refine bg ?_;refine aG (af.sR .k (gb.e2 ak ae (pre:=[]) (post:=[.i (e8 bc 0:Int),.i y.n])) (SR _ ak.an hg.1 y.n)) ?_;refine bC ?_;refine aZ (λai=>?_) λai=>?_
 ·refine aq.bL mixed ?_;refine bk.b7 0 13 32 rfl ay rfl rfl ay ?_;refine bS ?_;refine bU.bB rfl rfl rfl (af.jF rfl rfl rfl rfl rfl (uW (i:=y.n.toNat) ad) ⟨ad,ad⟩) ?_;refine bC ?_;refine bU.bB rfl rfl rfl (af.le (af.eN rfl rfl rfl rfl) (aL.dx k4)) ?_;refine bC ?_;refine dE .k ((EZ ae hm ad gn).b) ?_;rintro _ _ ⟨rfl,rfl⟩;refine bt ?_;refine jj [] (b5 p ah q ((g.cz n (e8 bc 1)).fu y.n.toNat (e8 bc 1)) Hx) ?_;exact⟨rfl,by rw[yS,if_pos ai]⟩
 ·refine bt ?_;refine jj [] (b5 p ah q (g.cz n (e8 bc 1)) Hx) ?_;exact⟨rfl,by rw[yS,if_neg (by rw[ai];decide)]⟩
theorem SU:∀(l:List Int) (n:Nat),jT l n=true->∀x∈l,(n:Int)<=x/\x<n+l.length
 | [],n,_,x,ag=>by cases ag
 | y::r,n,h,x,ag=>by
  simp only[jT,Bool.and_eq_true,beq_iff_eq,decide_eq_true_eq] at h;rw[List.length_cons];rcases List.mem_cons.1 ag with rfl | ag
  ·omega
  ·have:=SU r _ h.2 x ag;omega
theorem SV:∀(l:List hh) (n:Nat),kE l n=true->∀c∈l,∀x∈c.aJ,0<=x/\x<n+eO l
 | [],n,_,c,ak=>by cases ak
 | y::r,n,h,c,ak=>by
  simp only[kE,Bool.and_eq_true,decide_eq_true_eq] at h;have e:eO (y::r)=y.aJ.length+eO r:=by simp[eO]
  rcases List.mem_cons.1 ak with rfl | ak
  ·exact λx ag=>by have:=SU _ _ h.1.2 x ag;omega
  ·exact λx ag=>by have:=SV r _ h.2 c ak x ag;omega
theorem aeE{p:Prog}{c:Int}(aA:gK p c=true){s:Int}(h:s∈ez p c):(0<=s/\s<p.aJ)/\gL s:=by
 obtain⟨_,dp⟩:=It aA;have nX:=dp;simp only[gS,Bool.and_eq_true,decide_eq_true_eq,beq_iff_eq] at nX;obtain⟨⟨⟨fC,cy⟩,AL,al⟩,hR⟩:=nX;obtain⟨k,ab,ae⟩:=Ig h;have aD:=SV _ _ cy k ab _ ae;refine⟨ad,?_⟩;exact (BC aA).has s h
theorem tu{p:Prog}:∀s∈hC p c,(0<=s/\s<p.aJ)/\gL s:=λs aH=>by
 unfold hC at aH;cases aA:gK p c with
 | true=>rw[aA,if_pos rfl] at aH;exact aeE aA aH
 | false=>rw[aA,if_neg e3] at aH;cases aH
theorem SW(p:Prog)(c:Nat):(hC p c).length<=20000:=by
 unfold hC;cases aA:gK p c with
 | true=>rw[if_pos rfl];exact (BC aA).ax
 | false=>rw[if_neg e3];exact Nat.zero_le _
theorem SX{p:Prog}(h:c<a7 p):(fV p).getD c default=hC p c:=by rw[fV,BG _ h];rfl
theorem Kv{α β:Type}[Inhabited α]{f:β->α->β}{l:List α}{i:Nat}(h:i<l.length)(g:β):(l.take (i+1)).foldl f g=f ((l.take i).foldl f g) (l.getD i default):=by rw[<-eE h,List.foldl_append];rfl
theorem Kw{vs:List Value}(h:∀v∈vs,v.oneCell'=true):(vs.map λv=>[aa.val v]).all eG=true:=List.all_eq_true.2 (by
 rintro _ ag;obtain⟨v,aC,rfl⟩:=List.mem_map.1 ag;exact Di (h v aC))
theorem aeF{vs:List Value}(ax:vs.length<=1000000)(qx:∀v∈vs,v.oneCell'=true):Ht Tryz.prog 107 [.aF 1 (vs.map λv=>[aa.val v])] 23 1 (.aF 1 (vs.map λv=>[aa.val v])):=by
 intro H;refine bh (n:=8) Tryz.func107 λB I aO=>?_;refine bS ?_;refine au.tX rfl rfl rfl rfl rfl rfl rfl (aL.refl _) rfl rfl (λwz pt=>?_);refine bC ?_;refine aZ (λai=>?_) λai=>?_
 ·refine bn ?_;refine aR.iq 2 23 1 rfl ?_;refine aS 2 (_) ?_;exact⟨_,congrArg (λx=>aa.as x _) (show aa.aF 1 []=aa.aF 1 _ by rw[pt ai]),rfl⟩
 ·refine bI ?_;refine au.C8 rfl rfl rfl rfl (λv5=>?_);refine bt ?_;refine au.gu rfl rfl rfl rfl rfl rfl rfl rfl (aL.refl _) (Kw qx) (λv=>by repeat (first | exact bu.head _ _ _ | apply bu.tail)) dj dj (λBW=>?_);refine bI ?_;refine aS 2 (_) ?_;exact⟨_,rfl,rfl⟩
theorem aeG(l:List Int):(l.map λx=>[aa.i x]).all eG=true:=List.all_eq_true.2 Ml
theorem aeH(l:List Int):(l.map λx=>[aa.i x]).flatten=l.map aa.i:=by
 induction l with
 | nil=>rfl
 | cons x r bm=>rw[List.map_cons,List.flatten_cons,bm];rfl
theorem SY(l:List Int)(bq:l≠ [])(ax:l.length<=1000000)(H:List aj):b1 Tryz.prog 21 [.aF 1 (l.map λx=>[aa.i x])] H (λy H'=>∃v,y= .val v/\H'= .row 3 1 v l.length (l.map aa.i)::H) (λ_ _=>False):=by
 refine bh (n:=8) Tryz.func21 λB I aO=>?_;refine bS ?_;refine au.tX rfl rfl rfl rfl rfl rfl rfl (aL.refl _) rfl rfl (λwz pt=>?_);refine bC ?_;refine aq.cond rfl (λai=>?_) (λai=>?_)
 ·exact absurd (pt ai) (by simpa using bq)
 ·refine bI ?_;refine au.C8 rfl rfl rfl rfl (λv5=>?_);refine bt ?_;refine au.NH (d:=5) rfl (.head _ _ _) ?_;refine au.Dh (news:=l.map λx=>[aa.i x]) rfl rfl rfl rfl rfl rfl rfl rfl (aL.refl _) (by simpa using bq) (aeG l) (λv=>.head _ _ _) dj dj (λBW=>?_);refine bI ?_;refine aR.c5 (rs:=[.tmp 2]) (H':=_) rfl (.tmp rfl (.nil)) (bO.refl _) lv ?_;exact⟨BW,rfl,by rw[aeH];simp⟩
theorem aeI:ba Tryz.prog 21 [.aF 1 []] (.aF 1 []):=by
 intro H;refine bh (n:=8) Tryz.func21 λB I aO=>?_;refine bS ?_;refine au.tX rfl rfl rfl rfl rfl rfl rfl (aL.refl _) rfl rfl (λwz pt=>?_);refine bC ?_;refine aZ (λai=>?_) λai=>?_
 ·refine bn ?_;refine aR.c5 (rs:=[.tmp 2]) (H':=H) rfl (.tmp rfl (.nil)) (.cons (aL.nil 1) .nil) b8 ?_;exact⟨dJ,rfl⟩
 ·refine aT ?_;refine aG (af.zN rfl rfl rfl (aL.refl _) rfl rfl (aL.refl _) rfl CO CO) ?_;refine bI ?_;refine aS 2 (H) ?_;exact⟨dJ,rfl⟩
theorem aeJ(l:List Int)(ax:l.length<=1000000)(H:List aj):b1 Tryz.prog 21 [.aF 1 (l.map λx=>[aa.i x])] H (λy H'=>∃v,y= .val v/\H'=ec v l++H/\(l= []->∃a c,v= .slice a 0 c)/\v.oneCell'=true) (λ_ _=>False):=by
 by_cases h:l= []
 ·subst h;exact (ba.Ow (k:=1) aeI H).yj λy H' _ ⟨a,c,a6,aW⟩=>⟨_,a6,aW,λ_=>⟨a,c,rfl⟩,rfl⟩
 ·exact (SY l h ax H).yj λy H' ⟨B,I,w,az⟩ ⟨v,a6,aW⟩=>⟨v,a6,by rw[aW,ec,if_neg h];rfl,λe=>absurd e h,by subst aW;exact aj.row_one (az.ok _ (.head _))⟩
theorem aeK(l:List Bool):(l.map λx=>[aa.b x]).all eG=true:=List.all_eq_true.2 Ml
theorem aeL(l:List Bool):(l.map λx=>[aa.b x]).flatten=l.map aa.b:=by
 induction l with
 | nil=>rfl
 | cons x r bm=>rw[List.map_cons,List.flatten_cons,bm];rfl
theorem aeM(l:List Bool)(bq:l≠ [])(ax:l.length<=1000000)(H:List aj):b1 Tryz.prog 20 [.aF 1 (l.map λx=>[aa.b x])] H (λy H'=>∃v,y= .val v/\H'= .row 4 1 v l.length (l.map aa.b)::H) (λ_ _=>False):=by
 refine bh (n:=8) Tryz.func20 λB I aO=>?_;refine bS ?_;refine au.tX rfl rfl rfl rfl rfl rfl rfl (aL.refl _) rfl rfl (λwz pt=>?_);refine bC ?_;refine aq.cond rfl (λai=>?_) (λai=>?_)
 ·exact absurd (pt ai) (by simpa using bq)
 ·refine bI ?_;refine au.C8 rfl rfl rfl rfl (λv5=>?_);refine bt ?_;refine au.NH (d:=5) rfl (.head _ _ _) ?_;refine au.Dh (news:=l.map λx=>[aa.b x]) rfl rfl rfl rfl rfl rfl rfl rfl (aL.refl _) (by simpa using bq) (aeK l) (λv=>.head _ _ _) dj dj (λBW=>?_);refine bI ?_;refine aR.c5 (rs:=[.tmp 2]) (H':=_) rfl (.tmp rfl (.nil)) (bO.refl _) lv ?_;exact⟨BW,rfl,by rw[aeL];simp⟩
theorem aeN:ba Tryz.prog 20 [.aF 1 []] (.aF 1 []):=by
 intro H;refine bh (n:=8) Tryz.func20 λB I aO=>?_;refine bS ?_;refine au.tX rfl rfl rfl rfl rfl rfl rfl (aL.refl _) rfl rfl (λwz pt=>?_);refine bC ?_;refine aZ (λai=>?_) λai=>?_
 ·refine bn ?_;refine aR.c5 (rs:=[.tmp 2]) (H':=H) rfl (.tmp rfl (.nil)) (.cons (aL.nil 1) .nil) b8 ?_;exact⟨dJ,rfl⟩
 ·refine aT ?_;refine aG (af.zN rfl rfl rfl (aL.refl _) rfl rfl (aL.refl _) rfl CO CO) ?_;refine bI ?_;refine aS 2 (H) ?_;exact⟨dJ,rfl⟩
theorem aeO(l:List Bool)(ax:l.length<=1000000)(H:List aj):b1 Tryz.prog 20 [.aF 1 (l.map λx=>[aa.b x])] H (λy H'=>∃v,y= .val v/\H'=jX v l++H/\(l= []->∃a c,v= .slice a 0 c)/\v.oneCell'=true) (λ_ _=>False):=by
 by_cases h:l= []
 ·subst h;exact (ba.Ow (k:=1) aeN H).yj λy H' _ ⟨a,c,a6,aW⟩=>⟨_,a6,aW,λ_=>⟨a,c,rfl⟩,rfl⟩
 ·exact (aeM l h ax H).yj λy H' ⟨B,I,w,az⟩ ⟨v,a6,aW⟩=>⟨v,a6,by rw[aW,jX,if_neg h];rfl,λe=>absurd e h,by subst aW;exact aj.row_one (az.ok _ (.head _))⟩
theorem aeP{p:Prog}{q:fa}{g:GT}(ak:gC p q)(h:bA p g.t){n:Nat}(hn:n<p.nodes.length){y:ew}{bc env:List Int}{cj:Int}{c:Nat}(Kx:y.n=(c:Int))(BX:1<=c)(jx:c<a7 p):b1 Tryz.prog 63 [.p q.b3 0,aa.n4 n y bc env cj] (b5 p ah q g Hx) (λr H1=>r= .bJ []/\H1=b5 p ah q (xb p n c g) Hx) (λ_ _=>False):=by
 refine bh (n:=34) Tryz.func63 λB I aO=>?_;have hm:=ak.many;have aeQ:=SW p c;have BY:=tD p;have aeR:=h.cz n (kI BX jx);have aeS:∀i,bA p (((hC p c).take i).foldl (GT.begin p c) (g.cz n (2^c))).t:=λi=>lW _ aeR λg s _ h=>EV h c s;refine aT ?_;refine aq.bL mixed ?_;refine bk.b7 0 6 34 rfl ay rfl rfl ay ?_;refine bI ?_;refine bU.bB rfl rfl rfl (af.le (af.eN rfl rfl rfl rfl) (aL.dx Kx)) ?_;refine bU.bB rfl rfl rfl (af.shift rfl rfl rfl rfl rfl ad (r1 c ⟨ad,ad⟩)) ?_;refine bC ?_;refine dE .k ((qk ak h hn (kI BX jx) y bc env cj).b) ?_;rintro _ _ ⟨rfl,rfl⟩;refine bg ?_;refine aq.bL mixed ?_;refine bk.b7 0 11 34 rfl ay rfl rfl ay ?_;refine aT ?_;refine bU.bB rfl rfl rfl (af.le (af.eN rfl rfl rfl rfl) (aL.dx Kx)) ?_;refine bU.bB rfl rfl rfl ((by first | exact af.iQ rfl rfl rfl rfl rfl (by rw[BY];exact jx) | exact af.h1 rfl rfl rfl rfl rfl (by rw[BY];exact jx))) ?_;refine bU.bB rfl rfl rfl (af.le (af.eN rfl rfl rfl rfl) (by rw[SX jx];exact aL.refl _)) ?_;refine bg ?_;refine bk.done rfl ?_;refine bC ?_;refine cq (λm st=>∃i:Nat,st=⟨[(23,.i i),(22,.i (hC p c).length),(21,aa.ints (hC p c)),(3,.ptr (gE n y bc env cj)),(0,.p q.b3 0)],b5 p ah q (((hC p c).take i).foldl (GT.begin p c) (g.cz n (2^c))) Hx⟩/\m=(hC p c).length - i/\i<=(hC p c).length) (⟨0,rfl,rfl,ad⟩) ?_;rintro m _ ⟨i,rfl,rfl,av⟩;refine aT ?_;refine aZ (λai=>?_) λai=>?_
 ·have a1:i<(hC p c).length:=by omega
  have o8:=tu _ (cp a1);have eh:=Kv (f:=GT.begin p c) a1 (g.cz n (2^c));refine fk ?_;refine aG (af.le (af.eN rfl rfl rfl rfl) (aL.dx Kx)) ?_;refine bt ?_;refine dE .k ((SS ak (aeS i) jx o8.1 o8.2).b) ?_;rintro _ _ ⟨rfl,rfl⟩;refine bn ?_;exact bV (⟨i+1,by rw[eh],rfl,a1⟩)
 ·obtain rfl:i=(hC p c).length:=by omega
  refine bI ?_;rw[List.take_length];refine jj [] (b5 p ah q (xb p n c g) Hx) ?_;exact⟨rfl,rfl⟩
end Go.Proofs.YtodccgailpkgeaaGreat

