/- A part of the proof. No condition. -/
import Derived.Test.YtodccgailpkgeaaGreatKindClosesP4
import Derived.RecoverIn
set_option linter.defProp false
set_option maxHeartbeats 1000000
set_option linter.unusedVariables false
set_option linter.unusedSimpArgs false
namespace Go.Eng
open Go.RowKit (Below)
structure dn where
 e:Nat
 d:Nat
 t:TypeId
 ga:dj
 s:Nat
 ys:bl
def dn.h3(S:Nat->Bool)(ea:Nat->Nat)(v:dn):Option br:=if S v.e then some (.au (ea v.d) v.t (if S v.s then v.ys else v.ga.map .val)) else none
def dn.gd(S:Nat->Bool)(ea:Nat->Nat)(vs:List dn):aC:=vs.filterMap (dn.h3 S ea)
def qT(H:aC)(vs:List dn)(S:Nat->Bool):Mem:=λB a I w=>
 ∃ea:Nat->Nat,(∀v∈vs,S v.e=true->a.tmps.getD v.d undef= .pointer (some ⟨ea v.d,0,none⟩))/\a7 B I w (dn.gd S ea vs++H)
def wY(l:cg)(vs:List dn)(k m:Nat):Bool:=(vs.all λv=>Nat.ble k v.e && Nat.blt v.e m && Nat.ble k v.s && Nat.blt v.s m && ((hP l []).getD v.s 0).testBit v.e && vs.all λu=>!Nat.beq u.e v.s) && decide (vs.map (·.e)).Nodup && decide (vs.map (·.s)).Nodup && decide (vs.map (·.d)).Nodup
def Cu{j:Type}(f:j->Nat){l pre post}{v u}(h:(l.map f).Nodup)(g:l=pre++v::post)(hu:u∈pre\/u∈post):f u≠f v:=by
 subst g;rw[List.map_append,List.map_cons] at h;have c:=List.nodup_append.1 h;rcases hu with hu | hu
 ·exact λe=>c.2.2 (f u) (List.mem_map_of_mem hu) (f v) aT e
 ·exact λe=>(List.nodup_cons.1 c.2.1).1 (by rw[<-e];exact List.mem_map_of_mem hu)
theorem wZ{S f}{c a}:∀{vs:List dn},(∀v∈vs,dn.h3 S c v=dn.h3 f a v)->dn.gd S c vs=dn.gd f a vs
 | [],_=>rfl
 | v::r,h=>by
  have j:=h v (.head _);have g:=wZ (vs:=r) λu l=>h u (.tail _ l);unfold dn.gd at*;rw[List.filterMap_cons,List.filterMap_cons,j,g]
def Cv{S}{c}{a b}:dn.gd S c (a++b)=dn.gd S c a++dn.gd S c b:=List.filterMap_append
def Cw{S}{a}{v}{r}{e}(h:dn.h3 S a v=some e):dn.gd S a (v::r)=e::dn.gd S a r:=List.filterMap_cons_some h
def Mw{S}{a}{v}{r}(h:dn.h3 S a v=none):dn.gd S a (v::r)=dn.gd S a r:=List.filterMap_cons_none h
theorem bG.under{e e'}{H}:∀(X:aC),bG (X++e::H) e e' (X++e'::H)
 | []=>.head _ _ _
 | f::X=>.tail _ _ _ _ _ (.under X)
section
variable{c:Ctx}{r:Option Nat}{P:Program}{l:cg}{Q:Exit->Act->World->Prop}
theorem Mx{c}{k}:∀{a:List dn},(∀v∈a,Nat.blt v.e k=false)->dn.gd (λi=>Nat.blt i k) c a= []
 | [],_=>rfl
 | v::r,h=>by rw[Mw (by rw[dn.h3,if_neg (by rw[h v (.head _)];simp)]),Mx λu f=>h u (.tail _ f)]
theorem My{c}{m}:∀{a:List dn},(∀v∈a,Nat.blt v.e m=true/\Nat.blt v.s m=true)->dn.gd (λi=>Nat.blt i m) c a=a.map λv=>.au (c v.d) v.t v.ys
 | [],_=>rfl
 | v::r,h=>by
  have:=h v (.head _);rw[Cw (e:=.au (c v.d) v.t v.ys) (by rw[dn.h3,if_pos this.1,if_pos this.2]),My λu f=>h u (.tail _ f)];rfl
theorem fL.vars{I}{w}{a}{env}{j:Nat->Nat}(h:fL I w (aE env) a):∀(f:List dn),(∀v∈f,a.tmps.getD v.d undef= .pointer (some ⟨j v.d,0,none⟩))->fL I w (aE (f.map (λv=>(v.d,ab.p (j v.d) 0))++env)) a
 | [],_=>h
 | v::r,g=>λt x c=>by
  rw[List.map_cons,List.cons_append,k6] at c;split at c
  ·rename_i e;cases c;subst e;rw[g v (.head _)];exact .val _
  ·exact fL.vars h r (λu l=>g u (.tail _ l)) t x c
def bW.Cx{env}{H}(vs)(k m n)(hn:c.n=n)(kK:mJ l k m)(mI:wY l vs k m)(lF:Nat.ble k m)(gk:Nat.ble m l.length)(mF:(l.all λo=>(looks l o).all λt=>Nat.blt t n)=true)
  (h:cN P (qT H vs) l c.n k ((l.drop k).take (m - k)) env λenv=>∀ea:Nat->Nat,bW c r P l Q m ⟨vs.map (λv=>(v.d,.p (ea v.d) 0))++env,vs.map (λv=>.au (ea v.d) v.t v.ys)++H⟩):bW c r P l Q k ⟨env,H⟩:=by
 simp only[wY,Bool.and_eq_true,List.all_eq_true,decide_eq_true_eq,Bool.not_eq_true'] at mI;obtain⟨⟨⟨kb,Wy⟩,wJ⟩,Wz⟩:=mI;refine bW.Ck (M:=qT H vs) kK (Nat.le_of_ble_eq_true lF) (Nat.le_of_ble_eq_true gk) qA (λB a I w aW=>⟨λ_=>0,λv bd b4=>?_,?_⟩) (h.mono λenv a6 a w I gI fF fc jP lb l9=>?_)
 ·have ae:=Nat.le_of_ble_eq_true (kb v bd).1.1.1.1.1;have:Nat.blt v.e k=false:=by rw[Bool.eq_false_iff];intro ba;have:=Nat.lt_of_succ_le BL;omega
  have b4:Nat.blt v.e k=true:=b4;rw[this] at b4;cases b4
 ·rw[Mx λv bd=>by
   have ae:=Nat.le_of_ble_eq_true (kb v bd).1.1.1.1.1;rw[Bool.eq_false_iff];intro ba;have:=Nat.lt_of_succ_le BL;omega]
  exact aW
 ·obtain⟨ea,ba,aW⟩:=lb;have y7:a7 c.B I w (vs.map (λv=>br.au (ea v.d) v.t v.ys)++H):=by rwa [My λv bd=>⟨(kb v bd).1.1.1.1.2,(kb v bd).1.1.2⟩] at aW
  exact a6 ea a w ⟨gI,fF,I,fc,jP,y7,l9.vars vs λv bd=>ba v bd (kb v bd).1.1.1.1.2⟩
end
section
variable{P:Program}{L rest:cg}{vs:List dn}{n i d:Nat}{o:Oper}{env:List (Nat×ab)}{K:List (Nat×ab)->Prop}{x:ab}{H:aC}
def cN.nil{X}{M}(h:K env):jM X P M L n i [] env K:=h
def cN.WA(c:(vs.all λv=>!Nat.beq v.e i && !Nat.beq v.s i && !Nat.beq v.d d)=true)(D:o.guard=none)(a6:o.dst=some d)(hn:Nat.blt d n)(h:ad P H (aE env) o x)(next:cN P (qT H vs) L n (i+1) rest ((d,x)::env) K):cN P (qT H vs) L n i (o::rest) env K:=
 ⟨x,λS _ _ E=>gM.of D (λB I w r a C q t J=>by
  obtain⟨f,F,z⟩:=q;simp[List.all_eq_true,Bool.and_eq_true,Bool.not_eq_true'] at c;have ne:∀{a b:Nat},Nat.beq a b=false->a≠b:=λh e=>by subst e;simp at h
  have j:∀v∈vs,dn.h3 (eN S i) f v=dn.h3 S f v:=λv l=>by
   rw[dn.h3,dn.h3,kI (ne (c v l).1.1),kI (ne (c v l).1.2)]
  refine (h B I w r a _ C z (λe j=>List.mem_append_right _ j) t).mono (λv G ⟨A,bI,a2,a3,a4⟩=>⟨A,bI,a2,⟨f,λu g m=>?_,?_⟩,a4⟩) λ_ _ h=>h
  ·rw[kI (ne (c u g).1.1)] at m;rw[a6,lB (ne (c u g).2)];exact F u g m
  ·rw[wZ j];exact a3),gL a6 hn,fY⟩
def cN.zg(pre post)(v)(c:vs=pre++v::post)(N:∃k m,wY L vs k m=true){D}[aD:gp P v.t D](X:v.ga=D)(C:v.e=i)(av:o.guard=none)(a6:o.dst=some v.d)(hn:Nat.blt v.d n)(h:o.op= .alloc v.t)(e0:Nat.blt v.s L.length)
  (next:cN P (qT H vs) L n (i+1) rest ((v.d,.any)::env) K):cN P (qT H vs) L n i (o::rest) env K:=by
 obtain⟨k,m,N⟩:=N;simp[wY,Bool.and_eq_true,List.all_eq_true,decide_eq_true_eq,Bool.not_eq_true'] at N;obtain⟨⟨⟨A,J⟩,bI⟩,Z⟩:=N;have x:v∈vs:=by rw[c];simp
 have ne:∀{a b:Nat},Nat.beq a b=false->a≠b:=λh e=>by subst e;simp at h
 refine⟨.any,λS Ci _ F=>gM.of av (λB I w r a hw hm bb a0=>?_),gL a6 hn,fY⟩;obtain⟨q,ba,aW⟩:=hm;have l:=aD.h;unfold zeroCells at l;cases rP:P.info? v.t with
 | none=>simp[rP] at l
 | some W=>
  cases hz2:W.zero with
  | none=>simp[rP,hz2] at l
  | some z=>
   simp[rP,hz2] at l;have ae:bU I w (D.map .val) z.cells.toList:=by rw[l];exact lA D
   have R:v.s≠i:=λe=>ne ((A v x).2 v x) (by rw[C,e]);have O:S v.s=false:=by
    rw[Bool.eq_false_iff];intro b4;have T:v.s<L.length:=Nat.lt_of_succ_le (by simpa [Nat.blt] using e0);have:=Ci v.s L[v.s] (List.getElem?_eq_getElem T) b4 v.e (A v x).1.2;rw[C,F] at this;cases this
   let f:Nat->Nat:=λd=>if d=v.d then w.heap.size else q d
   have g:∀u,u∈pre\/u∈post->dn.h3 (eN S i) f u=dn.h3 S q u:=λu j=>by
    have U:u∈vs:=by rw[c];rcases j with j | j <;> simp[j]
    have Q:u.e≠i:=by rw[<-C];exact Cu (·.e) J c j
    have Y:u.d≠v.d:=Cu (·.d) Z c j;have e6:u.s≠i:=λe=>ne ((A u U).2 v x) (by rw[C,e]);rw[dn.h3,dn.h3,kI Q,kI e6,show f u.d=q u.d from if_neg Y]
   have M:dn.h3 (eN S i) f v=some (.au w.heap.size v.t (D.map .val)):=by
    rw[dn.h3,C,wO,if_pos rfl,kI R,O,show f v.d=w.heap.size from if_pos rfl,X];rfl
   have G:dn.h3 S q v=none:=by rw[dn.h3,C,F];rfl
   have Q:dn.gd S q vs=dn.gd S q pre++dn.gd S q post:=by rw[c,Cv,Mw G]
   have Y:dn.gd (eN S i) f vs=dn.gd S q pre++.au w.heap.size v.t (D.map .val)::dn.gd S q post:=by
    rw[c,Cv,Cw M,wZ λu j=>g u (.inl j),wZ λu j=>g u (.inr j)]
   rw[Q] at aW;refine .e4 (v:=.pointer (some ⟨w.heap.size,0,none⟩)) (w':=w.alloc (.cells z.cells v.t)) ck Lu ⟨I,hw.alloc _,jJ hw _,⟨f,λu j b4=>?_,?_⟩,.any _⟩
   ·by_cases e:u.d=v.d
    ·rw[e,a6,pE (a0 v.d a6),show f v.d=w.heap.size from if_pos rfl]
    ·rw[a6,lB e,show f u.d=q u.d from if_neg e];refine ba u j ?_;have V:u∈pre\/u∈post:=by
      rw[c] at j;rcases List.mem_append.1 j with E | E
      ·exact .inl E
      ·rcases List.mem_cons.1 E with E | E
       ·exact absurd (by rw[E]) e
       ·exact .inr E
     have:u.e≠i:=by rw[<-C];exact Cu (·.e) J c V
     rwa [kI this] at b4
   ·rw[Y];have:=a7.new aW hw v.t _ _ ae;exact this.perm (by rw[List.append_assoc,List.append_assoc];exact List.perm_middle.symm)
def cN.zh(pre post)(v)(mI:vs=pre++v::post)(a1:∃k m,wY L vs k m=true)(aN:v.s=i)(av:o.guard=none)(a6:o.dst=none)(h:∀b H' J,bG H' (.au b v.t (v.ga.map .val)) (.au b v.t v.ys) J->qQ P H' J (aE ((v.d,.p b 0)::env)) o)(next:cN P (qT H vs) L n (i+1) rest env K):cN P (qT H vs) L n i (o::rest) env K:=by
 obtain⟨k,m,a1⟩:=a1;simp[wY,Bool.and_eq_true,List.all_eq_true,decide_eq_true_eq,Bool.not_eq_true'] at a1;obtain⟨⟨⟨kb,Wy⟩,wJ⟩,Wz⟩:=a1;have w0:v∈vs:=by rw[mI];simp
 have ne:∀{a b:Nat},Nat.beq a b=false->a≠b:=λh e=>by subst e;simp at h
 refine⟨.any,λS Ci WB Ga=>gM.of av (λB I w r a hw hm bb l0=>?_),by rw[a6];rfl,fY⟩;obtain⟨ea,ba,aW⟩:=hm;have Gm:S v.e=true:=WB _ (by rw[<-aN];exact (kb v w0).1.2);have bV:=ba v w0 Gm;have l8:fo I w (aE ((v.d,.p (ea v.d) 0)::env)) a o:=λx aK y hy=>by
  cases x with
  | tmp t=>
   simp[iU] at hy;rw[k6] at hy;split at hy
   ·rename_i e;subst e;cases hy;show Rel I w (.p (ea v.d) 0) (a.tmps.getD v.d undef);rw[bV];exact .val _
   ·exact bb _ aK y hy
  | const v=>exact bb _ aK y hy
  | global g=>exact bb _ aK y hy
  | func f=>exact bb _ aK y hy
 have Mz:∀u,u∈pre\/u∈post->dn.h3 (eN S i) ea u=dn.h3 S ea u:=λu hu=>by
  have WC:u∈vs:=by rw[mI];rcases hu with hu | hu <;> simp[hu]
  have bM:u.s≠i:=by rw[<-aN];exact Cu (·.s) wJ mI hu
  have e6:u.e≠i:=λe=>ne ((kb v w0).2 u WC) (by rw[aN,e]);rw[dn.h3,dn.h3,kI bM,kI e6]
 have pU:v.e≠i:=λe=>ne ((kb v w0).2 v w0) (by rw[aN,e]);have hold:dn.h3 S ea v=some (.au (ea v.d) v.t (v.ga.map .val)):=by
  rw[dn.h3,if_pos Gm,aN,if_neg (by rw[Ga];simp)]
 have WD:dn.h3 (eN S i) ea v=some (.au (ea v.d) v.t v.ys):=by
  rw[dn.h3,kI pU,if_pos Gm,aN,wO,if_pos rfl]
 have bM:dn.gd S ea vs++H=dn.gd S ea pre++.au (ea v.d) v.t (v.ga.map .val)::(dn.gd S ea post++H):=by rw[mI,Cv,Cw hold,List.append_assoc];rfl
 have bJ:dn.gd (eN S i) ea vs++H=dn.gd S ea pre++.au (ea v.d) v.t v.ys::(dn.gd S ea post++H):=by
  rw[mI,Cv,Cw WD,wZ λu hu=>Mz u (.inl hu),wZ λu hu=>Mz u (.inr hu),List.append_assoc];rfl
 rw[bM] at aW;refine (h (ea v.d) _ _ (.under _) B I w r a hw aW l8).mono (λx w' ⟨c7,bI,a2,a3⟩=>⟨c7,bI,a2,⟨ea,λu hu b4=>?_,by rw[bJ];exact a3⟩,.any _⟩) λ_ _ h=>h;rw[a6];refine ba u hu ?_;have:u.e≠i:=λe=>ne ((kb v w0).2 u hu) (by rw[aN,e]);rwa [kI this] at b4
end
structure b8 where
 i:Nat
 d:Nat
 u:Bool
def b8.inst(es:List b8)(p:cY)(f:Nat->Value):List (Option Value):=List.zipWith (λe b=>if b then some (f e.d) else none) es p
def b8.k8:List b8->cY->(Nat->Value)->List (Nat×ab)
 | e::es,b::p,f=>match b,e.u with
  | true,true=>(e.d,.val (f e.d))::b8.k8 es p f
  | _,_=>b8.k8 es p f
 | _,_,_=>[]
def b8.pat(es:List b8)(S:Nat->Bool):cY:=es.map λe=>S e.i
def w1{G:Type}(gO:G->List (Option Value)->aC)(es:List b8)(S:Nat->Bool):Mem:=λB a I w=>∃g,a7 B I w (gO g (b8.inst es (b8.pat es S) λd=>a.tmps.getD d undef))
def b8.Gn(L:cg)(es:List b8)(i:Nat)(p:cY):Bool:=(es.zip p).all λx=>(!((hP L []).getD i 0).testBit x.1.i || x.2) && (!x.2 || (!((hP L []).getD x.1.i 0).testBit i && !Nat.beq x.1.i i && (es.zip p).all λy=>!((hP L []).getD x.1.i 0).testBit y.1.i || y.2))
def dy:Nat->List cY
 | 0=>[[]]
 | n+1=>(dy n).flatMap λp=>[false::p,true::p]
def b8.fits(L:cg)(es:List b8)(i:Nat)(zi:List cY):Bool:=(es.all λe=>Nat.blt e.i L.length) && (dy es.length).all λp=>!b8.Gn L es i p || zi.contains p
def qU{α:Type}:List α->(α->Prop)->Prop
 | [],_=>True
 | a::r,Q=>Q a/\qU r Q
theorem qU.at{c}{Q}:∀{l:List c},qU l Q->∀a∈l,Q a
 | _::_,⟨h,_⟩,_,.head _=>h
 | _::_,⟨_,h⟩,_,.tail _ f=>qU.at h _ f
theorem MA:∀(p:cY),p∈dy p.length
 | []=>.head _
 | b::p=>List.mem_flatMap.2 ⟨p,MA p,by cases b <;> simp⟩
def qV(es)(S)(f):b8.inst es (b8.pat es S) f=es.map λe=>if S e.i then some (f e.d) else none:=by
 induction es with
 | nil=>rfl
 | cons e r a=>simp[b8.inst,b8.pat,List.map_cons,List.zipWith_cons_cons] at a ⊢;rw[a]
def MB{es:List b8}{S}:∀x∈es.zip (b8.pat es S),x.1∈es/\x.2=S x.1.i:=by
 induction es with
 | nil=>intro x a;cases a
 | cons e r c=>
  intro x a;simp[b8.pat,List.map_cons,List.zip_cons_cons,List.mem_cons] at a;rcases a with rfl | a
  ·exact⟨.head _,rfl⟩
  ·exact⟨.tail _ (c x a).1,(c x a).2⟩
def b8.zj{L}{es}{i}{c}{S}(h:b8.fits L es i c=true)(v:F4 L S)(hm:∀j,((hP L []).getD i 0).testBit j=true->S j=true)(o:S i=false):b8.pat es S∈c:=by
 simp only[b8.fits,Bool.and_eq_true,List.all_eq_true] at h;obtain⟨a,h⟩:=h;have m:∀e∈es,e.i<L.length:=λe z=>Nat.lt_of_succ_le (by simpa [Nat.blt] using a e z);have q:=h (b8.pat es S) (by have:=MA (b8.pat es S);rwa [b8.pat,List.length_map] at this);have l:b8.Gn L es i (b8.pat es S)=true:=by
  rw[b8.Gn,List.all_eq_true];intro x r;obtain⟨t,g⟩:=MB x r;rw[Bool.and_eq_true];refine⟨?_,?_⟩
  ·cases a:((hP L []).getD i 0).testBit x.1.i with
   | false=>rfl
   | true=>rw[g,hm _ a];rfl
  ·cases Gp:x.2 with
   | false=>rfl
   | true=>
    rw[Gp] at g;have f:=v x.1.i _ (List.getElem?_eq_getElem (m _ t)) g.symm;simp only[Bool.not_true,Bool.false_or,Bool.and_eq_true,Bool.not_eq_true',List.all_eq_true];refine⟨⟨?_,?_⟩,λy s=>?_⟩
    ·cases a:((hP L []).getD x.1.i 0).testBit i with
     | false=>rfl
     | true=>rw[f i a] at o;cases o
    ·cases a:Nat.beq x.1.i i with
     | false=>rfl
     | true=>rw[Nat.eq_of_beq_eq_true a,o] at g;cases g
    ·obtain⟨A,w⟩:=MB y s;cases a:((hP L []).getD x.1.i 0).testBit y.1.i with
     | false=>rfl
     | true=>rw[w,f _ a];rfl
 rw[l] at q;simpa using q
theorem Cy{f}{env}{t}{y}:∀(a:List b8) (p:cY),aE (b8.k8 a p f++env) t=some y->y= .val (f t)\/aE env t=some y
 | [],p,h=>.inr h
 | _::_,[],h=>.inr h
 | e::a,b::p,h=>by
  unfold b8.k8 at h;split at h
  ·rw[List.cons_append,k6] at h;split at h
   ·rename_i c;cases h;rw[c];exact .inl rfl
   ·exact Cy a p h
  ·exact Cy a p h
def MC{I}{w}{a}{o}{env}(es)(p)(h:fo I w (aE env) a o):fo I w (aE (b8.k8 es p (λd=>a.tmps.getD d undef)++env)) a o:=λx aK y hy=>by
 cases x with
 | tmp u=>
  simp only[iU] at hy;rcases Cy es p hy with rfl | hy
  ·exact .val _
  ·exact h _ aK y hy
 | const v=>exact h _ aK y hy
 | global g=>exact h _ aK y hy
 | func f=>exact h _ aK y hy
def fL.k8{I}{w}{a}{env}(es)(p)(h:fL I w (aE env) a):fL I w (aE (b8.k8 es p (λd=>a.tmps.getD d undef)++env)) a:=λt x c=>by
 rcases Cy es p c with rfl | c
 ·exact .val _
 ·exact h t x c
def ib{G:Type}(P:Program)(H:aC)(H':G->Value->aC)(ρ:Nat->Option ab)(o:Oper)(x:ab):Prop:=∀(B:Nat) (I:cr) (w:World) (r:Option Nat) (a:Act),bY B I w->a7 B I w H->fo I w ρ a o->
 dw P r o a w (λv w'=>∃c7 g,bY B c7 w'/\Ext B I w c7 w'/\a7 B c7 w' (H' g v)/\Rel c7 w' x v) (λ_ _=>False)
section
variable{c:Ctx}{r:Option Nat}{P:Program}{l:cg}{Q:Exit->Act->World->Prop}{G:Type}
def bW.WE{env}{H}(es)(g0)(gO)(k m n)(hn:c.n=n)(kK:mJ l k m)(pU:(es.all λe=>Nat.ble k e.i && Nat.blt e.i m)=true)(lF:Nat.ble k m)(gk:Nat.ble m l.length)(mF:(l.all λo=>(looks l o).all λt=>Nat.blt t n)=true)
  (af:gO g0 (es.map λ_=>none)=H)
  (h:cN P (w1 gO es) l c.n k ((l.drop k).take (m - k)) env λenv=>∀(g:G) (f:Nat->Value),bW c r P l Q m ⟨b8.k8 es (es.map λ_=>true) f++env,gO g (es.map λe=>some (f e.d))⟩):bW c r P l Q k ⟨env,H⟩:=by
 simp only[List.all_eq_true,Bool.and_eq_true] at pU;have au:∀i,Nat.ble k i=true->Nat.blt i k=false:=λi aN=>by
  have ae:=Nat.le_of_ble_eq_true aN;rw[Bool.eq_false_iff];intro ba;have:=Nat.lt_of_succ_le BL;omega
 refine bW.Ck (M:=w1 gO es) kK (Nat.le_of_ble_eq_true lF) (Nat.le_of_ble_eq_true gk) qA (λB a I w aW=>⟨g0,?_⟩) (h.mono λenv a6 a w I gI fF fc jP lb l9=>?_)
 ·have e:b8.inst es (b8.pat es λi=>Nat.blt i k) (λd=>a.tmps.getD d undef)=es.map λ_=>none:=by
   rw[qV];exact List.map_congr_left λe he=>by rw[au _ (pU e he).1];rfl
  rw[e,af];exact aW
 ·obtain⟨g,aW⟩:=lb;have e:b8.inst es (b8.pat es λi=>Nat.blt i m) (λd=>a.tmps.getD d undef)=es.map λe=>some (a.tmps.getD e.d undef):=by
   rw[qV];exact List.map_congr_left λe he=>by rw[(pU e he).2];rfl
  rw[e] at aW;exact a6 g (λd=>a.tmps.getD d undef) a w ⟨gI,fF,I,fc,jP,aW,l9.k8 es _⟩
end
section
variable{P:Program}{L rest:cg}{es:List b8}{n i d:Nat}{o:Oper}{env:List (Nat×ab)}{K:List (Nat×ab)->Prop}{x:ab}{G:Type}{gO:G->List (Option Value)->aC}
def cN.sc(c)(t:(es.all λe=>!Nat.beq e.i i && !Nat.beq e.d d)=true)(D:b8.fits L es i c=true)(C:o.guard=none)(a6:o.dst=some d)(hn:Nat.blt d n)
  (h:qU c λp=>∀g f,ad P (gO g (b8.inst es p f)) (aE (b8.k8 es p f++env)) o x) (next:cN P (w1 gO es) L n (i+1) rest ((d,x)::env) K):cN P (w1 gO es) L n i (o::rest) env K:=
 ⟨x,λS j l s=>gM.of C (λB I w r a E q z G=>by
  obtain⟨g,q⟩:=q;simp[List.all_eq_true,Bool.and_eq_true,Bool.not_eq_true'] at t;have ne:∀{a b:Nat},Nat.beq a b=false->a≠b:=λh e=>by subst e;simp at h
  refine (h.at _ (b8.zj D j l s) g (λd=>a.tmps.getD d undef) B I w r a _ E q (λe m=>m) (MC es _ z)).mono (λv F ⟨A,bI,a2,a3,a4⟩=>⟨A,bI,a2,⟨g,?_⟩,a4⟩) λ_ _ h=>h;have e:b8.inst es (b8.pat es (eN S i)) (λd=>(a.put o.dst v).tmps.getD d undef)=b8.inst es (b8.pat es S) (λd=>a.tmps.getD d undef):=by
   rw[qV,qV];exact List.map_congr_left λe m=>by rw[kI (ne (t e m).1),a6,lB (ne (t e m).2)]
  rw[e];exact a3),gL a6 hn,fY⟩
def Gq{S}{f f'}{q}{e}{u}(l:es[q]? =some e)(hu:f' e.d=u)(m:∀g a,g≠q->es[g]? =some a->a.i≠e.i/\f' a.d=f a.d):b8.inst es (b8.pat es (eN S e.i)) f'=(b8.inst es (b8.pat es S) f).set q (some u):=by
 rw[qV,qV];refine List.ext_getElem? λj=>?_;rw[List.getElem?_set,List.length_map,List.getElem?_map,List.getElem?_map];have o:=(List.getElem?_eq_some_iff.1 l).1;by_cases c:q=j
 ·subst c;rw[if_pos rfl,if_pos o,l];show some (if eN S e.i e.i=true then some (f' e.d) else none)=_;rw[wO,hu];rfl
 ·rw[if_neg c];cases hje:es[j]? with
  | none=>rfl
  | some a=>
   have:=m j a (λh=>c h.symm) hje;show some (if eN S e.i a.i=true then some (f' a.d) else none)=some (if S a.i=true then some (f a.d) else none);rw[kI this.1,this.2]
def cN.Gf(q)(c){e}(T:es[q]? =some e)(G:e.i=i)(D:((es.take q++es.drop (q+1)).all λe'=>!Nat.beq e'.i i && !Nat.beq e'.d e.d)=true)(N:b8.fits L es i c=true)(Q:o.guard=none)(a6:o.dst=some e.d)(hn:Nat.blt e.d n)
  (h:qU c λp=>∀g f,ib P (gO g (b8.inst es p f)) (λn2 v=>gO n2 ((b8.inst es p f).set q (some v))) (aE (b8.k8 es p f++env)) o x) (next:cN P (w1 gO es) L n (i+1) rest ((e.d,x)::env) K):cN P (w1 gO es) L n i (o::rest) env K:=
 ⟨x,λS l j C=>gM.of Q (λB I w r a R A s M=>by
  obtain⟨g,A⟩:=A;simp only[List.all_eq_true,Bool.and_eq_true,Bool.not_eq_true'] at D;have ne:∀{a b:Nat},Nat.beq a b=false->a≠b:=λh e=>by subst e;simp at h
  refine (h.at _ (b8.zj N l j C) g (λd=>a.tmps.getD d undef) B I w r a R A (MC es _ s)).mono (λv U ⟨O,n2,bI,a2,a3,a4⟩=>⟨O,bI,a2,⟨n2,?_⟩,a4⟩) (λ_ _ h=>h);rw[<-G,Gq (S:=S) (f:=λd=>a.tmps.getD d undef) (f':=λd=>(a.put o.dst v).tmps.getD d undef) (u:=v) T (by rw[a6];exact pE (M _ a6)) (λfs e' J t=>?_)]
  ·exact a3
  ·have m:e'∈es.take q++es.drop (q+1):=by
    rw[List.mem_append];rcases Nat.lt_or_gt_of_ne J with F | F
    ·exact .inl (List.mem_of_getElem? (i:=fs) (by rw[List.getElem?_take,if_pos F];exact t))
    ·exact .inr (List.mem_of_getElem? (i:=fs - (q+1)) (by rw[List.getElem?_drop,show q+1+(fs - (q+1))=fs by omega];exact t))
   refine⟨by rw[G];exact ne (D _ m).1,?_⟩;show (a.put o.dst v).tmps.getD e'.d undef=_;rw[a6];exact lB (ne (D _ m).2)),gL a6 hn,fY⟩
def ib.app{H}{ρ}{s z}{t e k c m}{cs}{news}{v}{y}{g1 x}{H':G->Value->aC}(g:G)[N:fi P t (e,k,c)]
  (h:o.op= .call {callee:=.builtin .append,args:=#[s,z],argTypes:=#[t,t]}) (E:aO ρ s=some (g1,.val v)) (f:g1=true) (J:aO ρ z=some (x,y)) (l:x=true) (hy:aq y (.aj k news)) (j:news≠ [])
  (F:news.all dG=true) (hu:∀A,bG H (.row e k v m cs) (.row e k A (m+news.length) (cs++news.flatten)) (H' g A)) (K:(m+news.length)*c<=140737488355328) (q:m+news.length<=9223372036854775807):ib P H H' ρ o .any:=λB I w r a L C B=>
 (Co h E f J l hy j F hu K q L C B).mono (λv O ⟨D,bI,a2,a3⟩=>⟨D,g,bI,a2,a3,.any _⟩) λ_ _ h=>h
end
def WG(v:Value)(jL:aC):nx:=λB I w ch w'=>ch= [{v:=v,recovered:=false}]/\∃J,bY B J w'/\Ext B I w J w'/\a7 B J w' jL
section
variable{c:Ctx}{r:Option Nat}{P:Program}{l:cg}{Q:Exit->Act->World->Prop}
end
section
variable{P:Program}{L rest:cg}{n i d q:Nat}{o:Oper}{env:List (Nat×ab)}{K:List (Nat×ab)->Prop}{x:ab}{H jL:aC}{X:nx}
end
section
variable{P:Program}{H:aC}{ρ:Nat->Option ab}{o:Oper}{x:ab}{G:Type}
end
section
variable{c:Ctx}{r:Option Nat}{P:Program}{st:dT}{Q:Exit->Act->World->Prop}
def aA.k9{p}{H'}(a:st.H=H')(h:aA c r P p ⟨st.env,H'⟩ Q):aA c r P p st Q:=.perm (.of_eq a) h
def aZ.k9{e}{H'}(a:st.H=H')(h:aZ c ⟨st.env,H'⟩ e Q):aZ c st e Q:=.perm (.of_eq a) h
end
section
variable{P:Program}{f:FuncId}{cA xs cs:bl}{H H1 jL:aC}{y pv:ab}{B:Nat}
def pT.cV(h:pT P f (cA++xs++cs) H (some (y,H1)) jL pv):eZ B P (.fn (.func f) cA cs) xs H (λ_ a=>a=H1) (λ_ _=>False):=
 eZ.fn (.rV h.ok (λ_ _ e=>e.2) λ_ _ e=>e)
def pT.cZ(h:pT P f (cA++xs++cs) H none jL pv):eZ B P (.fn (.func f) cA cs) xs H (λ_ _=>False) (λy a=>y=pv/\a=jL):=
 eZ.fn (.rV (show bP P f _ H _ _ from h) (λ_ _ e=>by cases e) λ_ _ e=>e.2)
end
section
variable{P:Program}{r:Option Nat}{o:Oper}{H:aC}
def MD{B}{I}{w}{a}{ρ}{s z}{t e k l n}{cs}{news}{v}{y}{g1 U}{H':Value->aC}[df:fi P t (e,k,l)]
  (h:o.op= .call {callee:=.builtin .append,args:=#[s,z],argTypes:=#[t,t]}) (X:aO ρ s=some (g1,.val v)) (f:g1=true) (V:aO ρ z=some (U,y)) (A:U=true) (hy:aq y (.aj k news))
  (ae:news.all dG=true) (hu:∀Y,bG H (.row e k v n cs) (.row e k Y (n+news.length) (cs++news.flatten)) (H' Y)) (M:(n+news.length)*l<=140737488355328) (L:n+news.length<=9223372036854775807)
  (Z:bY B I w) (O:a7 B I w H) (D:fo I w ρ a o):dw P r o a w (λx F=>∃R,bY B R F/\Ext B I w R F/\a7 B R F (H' x)) (λ_ _=>False):=by
 by_cases j:news= []
 ·subst j;obtain⟨i,zv,q,aN,a3,J,a0,bI,a2⟩:=oX df.h;have uw:=bZ (D.get gF X f);have S:=hy _ _ _ (D.get gF V A);obtain⟨xs,c,K,N⟩:=O.ok _ (hu v).mem;obtain⟨us,aB,W⟩:=uF (P:=P) (tx:=t) q S aT;have G:us= []:=by cases aB;rfl
  subst G;rw[<-J] at W;have bd:∃Q m C,v= .slice Q m C/\m<=C:=by
   rcases c.2 with⟨rfl,_⟩ | ⟨g,cap,cur,rfl,_,_,a1,_⟩
   ·exact⟨none,0,0,rfl,Nat.le_refl _⟩
   ·exact⟨_,_,_,rfl,a1⟩
  obtain⟨Q,m,C,rfl,E⟩:=bd;have bK:=run_append_nothing (P:=P) w t t o.type e i q aN Q m C E (a.eval z) W;refine dw.e4 ck (pJ h a w uv) ⟨I,Z,Ext.refl _ _ _,(O.fE (hu _) ⟨λ_ _ x=>x,λ_ _ _=>rfl⟩ (λb _ _=>rfl) (λb o aK=>.inl aK) ⟨xs,by simpa using c,by simpa using K,N⟩ (λb M=>.inl M))⟩
 ·exact Co h X f V A hy j ae hu M L Z O D
end
abbrev ts(e k:Nat)(H:aC)(hh kd:List bl)(d1 d2:Nat):Nat->Mem:=λj B a I w=>match j with
 | 0=>a7 B I w (.row e k (.slice none 0 0) 0 []::H)
 | 1=>a7 B I w (.row e k (a.tmps.getD d1 undef) hh.length hh.flatten::H)
 | _=>a7 B I w (.row e k (a.tmps.getD d2 undef) (hh++kd).length (hh++kd).flatten::H)
section
variable{c:Ctx}{r:Option Nat}{P:Program}{l:cg}{Q:Exit->Act->World->Prop}
def bW.WH{env}{H}(e k)(v s)(d1 d2 s1 s2)(hr m n)(hlen:∀x∈v++s,x.length=k)(hn:c.n=n)(kK:mJ l hr m)(qS:qR [s1,s2] hr m)(lF:Nat.ble hr m)(gk:Nat.ble m l.length)(mF:(l.all λo=>(looks l o).all λt=>Nat.blt t n)=true)
  (h:bg P (ts e k H v s d1 d2) l [s1,s2] c.n hr ((l.drop hr).take (m - hr)) env λenv=>bW c r P l Q m ⟨(d2,.aj k (v++s))::env,H⟩):bW c r P l Q hr ⟨env,H⟩:=
 .anyS (Hs:=ts e k H v s d1 d2) kK qS (Nat.le_of_ble_eq_true lF) (Nat.le_of_ble_eq_true gk) qA (λB a I w aW=>aW.zb (br.Gd B I w e k) rfl) (h.mono λenv a6 a w I gI fF fc jP lb l9=>by
  obtain⟨J,N,D,O,a4⟩:=a7.tp fc lb hlen;exact a6 a w ⟨gI,fF,J,N,jP.trans D,O,Sat.qF (l9.bw D.keeps) a4⟩)
end
section
variable{P:Program}{L rest:cg}{ss:du}{n i d:Nat}{o:Oper}{env:List (Nat×ab)}{K:List (Nat×ab)->Prop}{x:ab}{H:aC}{e k:Nat}{hh kd:List bl}{d1 d2:Nat}
def bg.o6(A:la ss i=0)(C:o.guard=none)(a6:o.dst=some d)(hn:Nat.blt d n)(m:Nat.beq d d1=false)(q:Nat.beq d d2=false)(h:∀H,ad P H (aE env) o x)(next:bg P (ts e k H hh kd d1 d2) L ss n (i+1) rest ((d,x)::env) K):bg P (ts e k H hh kd d1 d2) L ss n i (o::rest) env K:=
 ⟨x,λj E D=>by
  rw[A];refine gM.of C λB I w r a s f g F=>?_;have z:∀v,(a.put o.dst v).tmps.getD d1 undef=a.tmps.getD d1 undef:=λv=>by rw[a6];exact lB (λe=>by subst e;simp at m)
  have t:∀v,(a.put o.dst v).tmps.getD d2 undef=a.tmps.getD d2 undef:=λv=>by rw[a6];exact lB (λe=>by subst e;simp at q)
  match j with
  | 0=>exact h _ B I w r a _ s f (λ_ h=>h) g
  | 1=>
   refine (h _ B I w r a _ s f (λ_ h=>h) g).mono (λv l ⟨c,bI,a2,a3,a4⟩=>⟨c,bI,a2,?_,a4⟩) λ_ _ h=>h;show a7 B c l (.row e k ((a.put o.dst v).tmps.getD d1 undef) hh.length hh.flatten::H);rw[z];exact a3
  | j+2=>
   refine (h _ B I w r a _ s f (λ_ h=>h) g).mono (λv l ⟨c,bI,a2,a3,a4⟩=>⟨c,bI,a2,?_,a4⟩) λ_ _ h=>h;show a7 B c l (.row e k ((a.put o.dst v).tmps.getD d2 undef) (hh++kd).length (hh++kd).flatten::H);rw[t];exact a3,gL a6 hn,fY⟩
def bg.WI{s z}{t c}{y}{g1 x}[R:fi P t (e,k,c)](S:pQ L ss i=0)(E:la ss i=1)(J:o.guard=none)(a6:o.dst=some d1)(hn:Nat.blt d1 n)
  (h:o.op= .call {callee:=.builtin .append,args:=#[s,z],argTypes:=#[t,t]}) (g:aO (aE env) s=some (g1,.val (.slice none 0 0))) (f:g1=true) (G:aO (aE env) z=some (x,y)) (l:x=true) (hy:aq y (.aj k hh))
  (F:hh.all dG=true) (M:hh.length*c<=140737488355328) (O:hh.length<=9223372036854775807)
  (next:bg P (ts e k H hh kd d1 d2) L ss n (i+1) rest ((d1,.any)::env) K):bg P (ts e k H hh kd d1 d2) L ss n i (o::rest) env K:=
 ⟨.any,λj T Q=>by
  obtain rfl:j=0:=by omega
  rw[E];refine gM.of J λB I w r a N A C m=>(MD (news:=hh) (H':=λv=>.row e k v hh.length hh.flatten::H) h g f G l hy F (λeA=>by rw[Nat.zero_add];exact .head _ _ _) (by rw[Nat.zero_add];exact M) aa N A C).mono (λv D ⟨q,bI,a2,a3⟩=>⟨q,bI,a2,?_,.any _⟩) λ_ _ h=>h;show a7 B q D (.row e k ((a.put o.dst v).tmps.getD d1 undef) hh.length hh.flatten::H);rw[a6,pE (m d1 a6)];exact a3,gL a6 hn,fY⟩
def bg.WJ{s z}{t iW}{y}{g2}[df:fi P t (e,k,iW)](bq:zd L ss i=1)(aW:pQ L ss i=1)(b4:la ss i=1)(av:o.guard=none)(a6:o.dst=some d2)(hn:Nat.blt d2 n)
  (h:o.op= .call {callee:=.builtin .append,args:=#[s,z],argTypes:=#[t,t]}) (uw:s= .tmp d1) (aD:∀Cs,aO (aE ((d1,.val Cs)::env)) z=some (g2,y)) (rZ:g2=true) (hy:aq y (.aj k kd))
  (ae:kd.all dG=true) (ba:(hh.length+kd.length)*iW<=140737488355328) (wG:hh.length+kd.length<=9223372036854775807)
  (next:bg P (ts e k H hh kd d1 d2) L ss n (i+1) rest ((d2,.any)::env) K):bg P (ts e k H hh kd d1 d2) L ss n i (o::rest) env K:=
 ⟨.any,λj gI fF=>by
  obtain rfl:j=1:=by omega
  rw[b4];refine gM.of av λB I w r a hw hm bb l0=>?_;have l8:fo I w (aE ((d1,.val (a.tmps.getD d1 undef))::env)) a o:=λx aK y hy=>by
   cases x with
   | tmp t=>
    simp only[iU] at hy;rw[k6] at hy;split at hy
    ·rename_i e;subst e;cases hy;exact .val _
    ·exact bb _ aK y hy
   | const v=>exact bb _ aK y hy
   | global g=>exact bb _ aK y hy
   | func f=>exact bb _ aK y hy
  refine (MD (news:=kd) (v:=a.tmps.getD d1 undef) (g1:=true) (H':=λv=>.row e k v (hh++kd).length (hh++kd).flatten::H) h (by subst uw;simp[aO,iU,k6,strip]) rfl (aD _) rZ hy ae (λeA=>by rw[List.length_append,List.flatten_append];exact .head _ _ _) ba wG hw hm l8).mono (λv w' ⟨O,bI,a2,a3⟩=>⟨O,bI,a2,?_,.any _⟩) (λ_ _ h=>h);show a7 B O w' (.row e k ((a.put o.dst v).tmps.getD d2 undef) (hh++kd).length (hh++kd).flatten::H);rw[a6,pE (l0 d2 a6)];exact a3,gL a6 hn,fY⟩
end
def Gr(P:Program)(t:TypeId)(f:Nat):Option Nat:=
 match P.underlying t with
 | some (.struct cA)=>match cA[f]? with
  | some fd=>match nZ P fd.type with
   | some (false,_)=>some fd.offset
   | _=>none
  | none=>none
 | _=>none
class ME (P:Program) (t f:Nat) (x:outParam Nat):Prop where h:Gr P t f=some x
section
variable{P:Program}{H:aC}{ρ:Nat->Option ab}{o:Oper}
def WK{t}{f off}(h:Gr P t f=some off)(cs)(v)(g:cs[off]? =some v)(w):(Instr.field t (.agg cs) f).run P w= .ok v w:=by
 unfold Gr at h;split at h
 ·rename_i m j;split at h
  ·rename_i o c;split at h
   ·rename_i n l;cases h;have a:=(wD l w).1;simp[Instr.field,Sem.run_bind,run_underlying j,Result.andThen_ok,c,asAgg,Sem.run_pure,part,a,g,Bool.false_eq_true,if_false]
   ·cases h
  ·cases h
 ·cases h
def ad.WL{t}{x}{f off}{cs}{y}{g}[B:ME P t f off](h:o.op= .field t x f)(l:aO ρ x=some (g,.agg cs))(A:g=true)(hy:cs[off]? =some y):ad P H ρ o y:=by
 refine .same ck λI w a q=>?_;have j:=q.get cd l A;generalize r:a.eval x=u at j;cases j with
 | agg _ z m=>
  obtain⟨v,s,c⟩:=m.get hy;exact⟨v,by simp[execOp,h,r,WK B.h z v (by simpa using s) w],c⟩
end
abbrev MF(l:cg)(k m gr:Nat):Bool:=y3 l k m (Nat.beq gr)
section
variable{c:Ctx}{r:Option Nat}{P:Program}{l:cg}{st:dT}{Q:Exit->Act->World->Prop}
def bW.WM{k m}{Hs}{ss}(v)(C:aE st.env v=some .any)(q:MF l k m v)(A:qR ss k m)(z:k<=m)(E:m<=l.length)(D:(l.all λo=>(looks l o).all λt=>Nat.blt t c.n)=true){g}(W:∀a w I,fL I w (aE g) a->fL I w (aE st.env) a)(K:∀a w I,a7 c.B I w st.H->fL I w (aE g) a->Hs 0 c.B a I w)
  (h:bg P Hs l ss c.n k ((l.drop k).take (m - k)) st.env λenv=>aE env v=some .any/\∀a w I,a.defers=c.ds->a.tmps.size=c.n->bY c.B I w->Ext c.B c.c9 c.bN I w->Hs ss.length c.B a I w->fL I w (aE env) a->gq c r P l Q m a w):bW c r P l Q k ⟨g,st.H⟩:=by
 obtain⟨j,F⟩:=Mj A;intro a w s;obtain⟨I,Z,he,U,G⟩:=s.mem;have at_:∀{env:List (Nat×ab)},aE env v=some .any->∀t,Nat.beq v t=true->aE env t=some .any:=λh t Y=>by rw[<-Nat.eq_of_beq_eq_true Y];exact h
 refine gq.L9 (M:=λS=>Hs (ss.countP S)) (at_ C) q z E D (λ_ _ _ _ _ _ _ _ _ h=>h.elim) (.mono (λenv ⟨V,a6⟩=>⟨at_ V,λa w I R J T L X O=>a6 a w I R J T L (by rwa [show ss.countP (λi=>Nat.blt i m)=ss.length from List.countP_eq_length.2 λs x=>L6 (j s x).2] at X) O⟩) (h.u F λs x=>by have:=(j s x).2;omega)) s.ds s.size Z he ?_ (W _ _ _ G);rw[show ss.countP (λi=>Nat.blt i k)=0 from List.countP_eq_zero.2 λs x N=>by have:=(j s x).1;have:=tl N;omega];exact K _ _ _ U G
end
abbrev tt(H:aC)(kf kM:ab)(gr:Nat):Nat->Mem:=λj B a I w=>a7 B I w H/\match j with
 | 0=>Rel I w kf (a.tmps.getD gr undef)
 | _=>Rel I w kM (a.tmps.getD gr undef)
section
variable{c:Ctx}{r:Option Nat}{P:Program}{l:cg}{Q:Exit->Act->World->Prop}
def bW.MG{env}{H}{kf}(kM)(gr e)(k m n)(af:aE env gr=some kf)(hn:c.n=n)(kK:MF l k m gr)(qS:qR [e] k m)(lF:Nat.ble k m)(gk:Nat.ble m l.length)(mF:(l.all λo=>(looks l o).all λt=>Nat.blt t n)=true)
  (h:bg P (tt H kf kM gr) l [e] c.n k ((l.drop k).take (m - k)) ((gr,.any)::env) λenv=>aE env gr=some .any/\bW c r P l Q m ⟨(gr,kM)::env,H⟩):bW c r P l Q k ⟨env,H⟩:=by
 refine .WM (Hs:=tt H kf kM gr) (st:=⟨(gr,.any)::env,H⟩) gr (by simp[k6]) kK qS (Nat.le_of_ble_eq_true lF) (Nat.le_of_ble_eq_true gk) qA (λa w I bd=>Sat.qF bd (.any _)) (λa w I aW bd=>⟨aW,bd gr kf af⟩) (h.mono λti a6=>⟨a6.1,λa w I gI fF fc jP lb l9=>a6.2 a w ⟨gI,fF,I,fc,jP,lb.1,Sat.qF l9 lb.2⟩⟩)
end
section
variable{P:Program}{L rest:cg}{n i d e:Nat}{o:Oper}{env:List (Nat×ab)}{K:List (Nat×ab)->Prop}{x:ab}{H:aC}{kf kM:ab}{gr:Nat}
def MH{I}{w}{a}{o}{env}{d}{y}(bb:fo I w (aE env) a o)(h:Rel I w y (a.tmps.getD d undef)):fo I w (aE ((d,y)::env)) a o:=λz aD u hu=>by
 cases z with
 | tmp t=>
  simp[iU] at hu;rw[k6] at hu;split at hu
  ·rename_i e;subst e;cases hu;exact h
  ·exact bb _ aD u hu
 | const v=>exact bb _ aD u hu
 | global g=>exact bb _ aD u hu
 | func f=>exact bb _ aD u hu
def bg.zk(A:pQ L [e] i=0)(q:la [e] i=0)(s:o.guard=none)(a6:o.dst=some d)(hn:Nat.blt d n)(f:Nat.beq d gr=false)(h:ad P H (aE ((gr,kf)::env)) o x)(next:bg P (tt H kf kM gr) L [e] n (i+1) rest ((d,x)::env) K):bg P (tt H kf kM gr) L [e] n i (o::rest) env K:=
 ⟨x,λj C z=>by
  obtain rfl:j=0:=by omega
  rw[q];refine gM.of s λB I w r a t c l D=>(h B I w r a _ t c.1 (λ_ h=>h) (MH l c.2)).mono (λv m ⟨g,bI,a2,a3,a4⟩=>⟨g,bI,a2,⟨a3,?_⟩,a4⟩) λ_ _ h=>h;show Rel g m kf ((a.put o.dst v).tmps.getD gr undef);rw[a6,lB (λe=>by subst e;simp at f)];exact c.2.bw a2.keeps,gL a6 hn,fY⟩
def bg.zl(q:la [e] i=0)(s:o.guard=none)(a6:o.dst=some d)(hn:Nat.blt d n)(g:Nat.beq d gr=false)(h:ad P H (aE env) o x)(next:bg P (tt H kf kM gr) L [e] n (i+1) rest ((d,x)::env) K):bg P (tt H kf kM gr) L [e] n i (o::rest) env K:=
 ⟨x,λj A z=>by
  rw[q];refine gM.of s λB I w r a t c m C=>(h B I w r a _ t c.1 (λ_ h=>h) m).mono (λv l ⟨f,bI,a2,a3,a4⟩=>⟨f,bI,a2,⟨a3,?_⟩,a4⟩) λ_ _ h=>h;have e:(a.put o.dst v).tmps.getD gr undef=a.tmps.getD gr undef:=by rw[a6];exact lB (λe=>by subst e;simp at g)
  match j with
  | 0=>show Rel f l kf _;rw[e];exact .bw a2.keeps c.2
  | j+1=>show Rel f l kM _;rw[e];exact .bw a2.keeps c.2,gL a6 hn,fY⟩
def bg.MI(z:pQ L [e] i=0)(m:la [e] i=1)(s:o.guard=none)(a6:o.dst=some gr)(hn:Nat.blt gr n)(h:ad P H (aE env) o kM)(next:bg P (tt H kf kM gr) L [e] n (i+1) rest ((gr,.any)::env) K):bg P (tt H kf kM gr) L [e] n i (o::rest) env K:=
 ⟨.any,λj A x=>by
  obtain rfl:j=0:=by omega
  rw[m];refine gM.of s λB I w r a t f g q=>(h B I w r a _ t f.1 (λ_ h=>h) g).mono (λv l ⟨c,bI,a2,a3,a4⟩=>⟨c,bI,a2,⟨a3,?_⟩,.any _⟩) λ_ _ h=>h;show Rel c l kM ((a.put o.dst v).tmps.getD gr undef);rw[a6,pE (q gr a6)];exact a4,gL a6 hn,fY⟩
end
def WN{P}{t e}{n k}{o}(g:P.underlying t=some (.slice e))(s:yE P t=some (k,o))(a)(us)(v:n*k<=16777216)(q:0<n*k)
  (h:Instr.fill (λi=>some (i*k,k)) (mG n k o).toArray a.toList=some us) (w):
  (Instr.buildSlice t n a).run P w= .ok (.slice (some ⟨w.heap.size,0,none⟩) n n) (w.alloc (.cells us e)):=by
 obtain⟨x,i,z,r,C,A,l,m⟩:=Fx s;obtain rfl:x=e:=by rw[r] at g;cases g;rfl
 have f: ¬n*i.size>2^24:=by rw[l];omega
 have c: ¬n*i.size=0:=by rw[l];omega
 have B:Instr.fill (λj=>some (j*i.size,i.size)) ((Array.range (n*i.size)).map (z.cells[· %z.cells.size]!)) a.toList=some us:=?_
 ·simp[Instr.buildSlice,run_underlying r,sizeOf,typeInfo,zeroValue,C,A,f,c,B,newRow]
 rw[l, <-h];congr 1;apply Array.ext';simp only[mG,Array.toList_map,Array.toList_range, <-m];refine List.map_congr_left λj _=>?_;simp[Array.getElem!_eq_getD,Array.getD_eq_getD_getElem?,List.getD_eq_getElem?_getD]
section
variable{c:Ctx}{r:Option Nat}{P:Program}{ops:Array Oper}{l rest:cg}{o:Oper}{env:List (Nat×ab)}{H:aC}{Q:Exit->Act->World->Prop}{d:Nat}
def MJ{ρ:Nat->Option ab}{t e iW:Nat}{n k:Nat}{b5:Array (Nat×Operand)}{ga:dj}{ys:List (Bool×ab)}{els:List bl}[df:fi P t (e,k,iW)][hR:j9 P t (k,ga)](h:o.op= .buildSlice t n b5)
  (hy:js ρ (b5.toList.map (·.2))=some ys) (av:ys.all (·.1)=true) (MK:(partsOf b5.toList ys).map (λx=>cJ x.2)=els) (hlen:Nat.beq els.length n) (bD:els.all (λe=>Nat.beq e.length k)=true)
  (ny:Nat.ble (n*k) 16777216) (qW:Nat.blt 0 (n*k))
  (b7:n1 (λi=>some (i*k,k)) ((mG n k ga).map .val) (partsOf b5.toList ys)=some els.flatten)
  {B:Nat} {I:cr} {w:World} {r:Option Nat} {a:Act} (hw:bY B I w) (aW:a7 B I w H) (bb:fo I w ρ a o):
  dw P r o a w (λv w'=>∃c7,bY B c7 w'/\Ext B I w c7 w'/\a7 B c7 w' (.own e k v::H)/\Rel c7 w' (.as (.aj k els) v) v) (λ_ _=>False):=by
 obtain⟨bM,bJ⟩:=Fw bb b5 cd hy av;obtain⟨us,ae,ak⟩:=BY _ _ ((mG n k ga).map .val) (mG n k ga).toArray els.flatten (by simpa using lA _) bM bJ b7;have ny:=Nat.le_of_ble_eq_true ny;have qW:0<n*k:=Nat.le_of_ble_eq_true qW;obtain⟨i,z,hu,aN,aD,r7,wk,tg,w2⟩:=oX df.h;have uu:=WN hu hR.h (b5.map λ(i,x)=>(i,a.eval x)) us ny qW ae w;obtain⟨bI,a2,a3,a4⟩:=cr.ux hw e us;have ML:=Nat.eq_of_beq_eq_true hlen;have ak0:n<=n*k:=by
  rcases Nat.eq_zero_or_pos k with rfl | WO
  ·simp at qW
  ·exact Nat.le_mul_of_pos_right n WO
 have lU:∀x∈els,x.length=k:=λx aK=>Nat.eq_of_beq_eq_true (List.all_eq_true.1 bD x aK);have kF:us.size=n*k:=by
  have:=ak.length;rw[pK lU,ML] at this;simpa using this
 have rR:(w.alloc (.cells us e)).ownsRow B e k (.slice (some ⟨w.heap.size,0,none⟩) n n) n us.toList:=⟨by simpa using kF,.inr ⟨w.heap.size,n,us,rfl,hw.base,heap_alloc_new w _,Nat.le_refl _,ia,kF,by rw[<-kF, <-Array.length_toList];exact List.take_length⟩⟩;have aL:=a3 _ aW;refine dw.e4 ck (v:=.slice (some ⟨w.heap.size,0,none⟩) n n) (w':=w.alloc (.cells us e)) yt ⟨_,bI,a2,⟨λf b7=>?_,List.pairwise_cons.2 ⟨λf b7 b ba e=>?_,aL.apart⟩⟩,?_⟩
 ·rcases List.mem_cons.1 b7 with rfl | b7
  ·refine⟨n,us.toList,rR,λg av o ak1 bb=>?_⟩;simp[Value.ownBlock] at av;subst av;rcases bb with bb | ⟨_,bb⟩
   ·exact absurd (hw.lt bb) (Nat.lt_irrefl _)
   ·omega
  ·exact aL.ok f b7
 ·simp[br.dY,Value.ownBlock] at ba;subst ba;exact absurd (br.lX (aW.ok f b7) e).2 (Nat.lt_irrefl _)
 ·refine .as _ _ (.aj _ _ _ _ _ _ ML (Nat.le_refl _) ia ?_);exact nq els 0 lU (a4 _ ak)
def ai.uT{t e iW:Nat}{n k:Nat}{b5:Array (Nat×Operand)}{ga:dj}{ys:List (Bool×ab)}{els:List bl}[df:fi P t (e,k,iW)][hR:j9 P t (k,ga)](l2:o.guard=none)(a6:o.dst=some d)(hn:Nat.blt d c.n)(h:o.op= .buildSlice t n b5)
  (hy:js (aE env) (b5.toList.map (·.2))=some ys) (av:ys.all (·.1)=true) (MK:(partsOf b5.toList ys).map (λx=>cJ x.2)=els) (hlen:Nat.beq els.length n) (bD:els.all (λe=>Nat.beq e.length k)=true)
  (ny:Nat.ble (n*k) 16777216) (qW:Nat.blt 0 (n*k))
  (b7:n1 (λi=>some (i*k,k)) ((mG n k ga).map .val) (partsOf b5.toList ys)=some els.flatten)
  (next:∀v,ai c r P ops rest ⟨(d,.as (.aj k els) v)::env,.own e k v::H⟩ Q):ai c r P ops (o::rest) ⟨env,H⟩ Q:=by
 intro a w s;refine wpListIn_plain l2 λK eX=>?_;obtain⟨I,hw,he,aW,bd⟩:=s.mem;refine (MJ h hy av MK hlen bD ny qW b7 hw aW (bd.ops o)) K Q ?_ (λ_ _ h=>h.elim);rintro v w' ⟨c7,bJ,e6,ns,th⟩;refine eX _ _ (next v _ _ ⟨iS,iR,c7,bJ,he.trans e6,ns,?_⟩);have:=(bd.bw e6.keeps).put (dst:=some d) oR th;rw[a6];exact this
end
abbrev w3(H:aC)(bM gu bJ cx d1 d2:Nat):Nat->Mem:=λj B a I w=>match j with
 | 0=>a7 B I w H
 | 1=>a7 B I w (.own bM gu (a.tmps.getD d1 undef)::H)
 | _=>a7 B I w (.own bJ cx (a.tmps.getD d2 undef)::.own bM gu (a.tmps.getD d1 undef)::H)
def qX(P:Program)(f:FuncId)(xs:bl)(e k:Nat)(y:ab):Prop:=∀H,bP P f xs H (λx H'=>∃v,x= .as y v/\H'= .own e k v::H) (λ_ _=>False)
section
variable{c:Ctx}{r:Option Nat}{P:Program}{l:cg}{Q:Exit->Act->World->Prop}
def bW.WQ{env}{H}(q gu)(Cz)(d1 s1)(hr m n)(hn:c.n=n)(kK:mJ l hr m)(qS:qR [s1] hr m)(lF:Nat.ble hr m)(gk:Nat.ble m l.length)(mF:(l.all λo=>(looks l o).all λt=>Nat.blt t n)=true)
  (h:bg P (w3 H q gu q gu d1 d1) l [s1] c.n hr ((l.drop hr).take (m - hr)) env λenv=>aE env d1=some Cz/\∀MM,bW c r P l Q m ⟨(d1,.as Cz MM)::env,.own q gu MM::H⟩):bW c r P l Q hr ⟨env,H⟩:=
 .anyS (Hs:=w3 H q gu q gu d1 d1) kK qS (Nat.le_of_ble_eq_true lF) (Nat.le_of_ble_eq_true gk) qA (λB a I w aW=>aW) (h.mono λenv ⟨g1,a6⟩ a w I gI fF fc jP lb l9=>
  a6 (a.tmps.getD d1 undef) a w ⟨gI,fF,I,fc,jP,lb,Sat.qF l9 (.as _ _ (l9 _ _ g1))⟩)
end
section
variable{P:Program}{L rest:cg}{ss:du}{n i d:Nat}{o:Oper}{env:List (Nat×ab)}{K:List (Nat×ab)->Prop}{x:ab}{H:aC}{bM gu bJ cx d1 d2:Nat}
def qX.runs{f}{xs}{e k}{y}{ρ}(a1:gG P ρ o f xs)(h:qX P f xs e k y)(H){B}{I}{w}{r}{a}(hw:bY B I w)(aW:a7 B I w H)(bb:fo I w ρ a o):
  dw P r o a w (λv w'=>∃g,bY B g w'/\Ext B I w g w'/\a7 B g w' (.own e k v::H)/\Rel g w' y v) (λ_ _=>False):=by
 obtain⟨vs,ae,ak⟩:=a1.run I w a bb;obtain⟨hO,n5⟩:=h H;refine .qD a1.rS (ak hO) ((n5 B I w vs hw aW ae).mono λe w' bK=>?_);obtain⟨g,L,oc,wT,y7,bK⟩:=bK;rcases bK with⟨v,x,rfl,aK,u,rfl,rfl⟩ | ⟨v,x,rfl,_,j8⟩
 ·cases aK with
  | as _ _ aK=>exact⟨g,oc,wT,y7,aK⟩
 ·exact j8.elim
def bg.qY(z:la ss i=0)(A:o.guard=none)(a6:o.dst=some d)(hn:Nat.blt d n)(m:Nat.beq d d1=false)(q:Nat.beq d d2=false)(h:∀H,ad P H (aE env) o x)(next:bg P (w3 H bM gu bJ cx d1 d2) L ss n (i+1) rest ((d,x)::env) K):bg P (w3 H bM gu bJ cx d1 d2) L ss n i (o::rest) env K:=
 ⟨x,λj E D=>by
  rw[z];refine gM.of A λB I w r a s f g F=>?_;have t:∀v,(a.put o.dst v).tmps.getD d1 undef=a.tmps.getD d1 undef:=λv=>by rw[a6];exact lB (λe=>by subst e;simp at m)
  have C:∀v,(a.put o.dst v).tmps.getD d2 undef=a.tmps.getD d2 undef:=λv=>by rw[a6];exact lB (λe=>by subst e;simp at q)
  match j with
  | 0=>exact h _ B I w r a _ s f (λ_ h=>h) g
  | 1=>
   refine (h _ B I w r a _ s f (λ_ h=>h) g).mono (λv l ⟨c,bI,a2,a3,a4⟩=>⟨c,bI,a2,?_,a4⟩) λ_ _ h=>h;show a7 B c l (.own bM gu ((a.put o.dst v).tmps.getD d1 undef)::H);rw[t];exact a3
  | j+2=>
   refine (h _ B I w r a _ s f (λ_ h=>h) g).mono (λv l ⟨c,bI,a2,a3,a4⟩=>⟨c,bI,a2,?_,a4⟩) λ_ _ h=>h;show a7 B c l (.own bJ cx ((a.put o.dst v).tmps.getD d2 undef)::.own bM gu ((a.put o.dst v).tmps.getD d1 undef)::H);rw[t,C];exact a3,gL a6 hn,fY⟩
def bg.WR{f}{xs}{y}(C:pQ L ss i=0)(t:la ss i=1)(x:o.guard=none)(a6:o.dst=some d1)(hn:Nat.blt d1 n)(m:gG P (aE env) o f xs)(h:qX P f xs bM gu y)
  (next:bg P (w3 H bM gu bJ cx d1 d2) L ss n (i+1) rest ((d1,y)::env) K):bg P (w3 H bM gu bJ cx d1 d2) L ss n i (o::rest) env K:=
 ⟨y,λj D A=>by
  obtain rfl:j=0:=by omega
  rw[t];refine gM.of x λB I w r a z l q c=>(h.runs m _ z l q).mono (λv s ⟨g,bI,a2,a3,a4⟩=>⟨g,bI,a2,?_,a4⟩) λ_ _ h=>h;show a7 B g s (.own bM gu ((a.put o.dst v).tmps.getD d1 undef)::H);rw[a6,pE (c d1 a6)];exact a3,gL a6 hn,fY⟩
end
def w4:Value->Nat
 | .pointer (some a)=>a.block
 | _=>0
inductive Gs where
 | own (i d e k:Nat) (y:ab)
 | rU (i d:Nat) (t:TypeId) (ga:List Value)
def Gs.ct:Gs->Value->br
 | .own _ _ e k _,v=>.own e k v
 | .rU _ _ t ga,v=>.au (w4 v) t (ga.map .val)
structure WS where
 i:Nat
 d:Nat
 ds:du
 x:dj->ab
section
variable{c:Ctx}{r:Option Nat}{P:Program}{l:cg}{Q:Exit->Act->World->Prop}
end
section
variable{P:Program}{L rest:cg}{es:List Gs}{ls:List WS}{n i d:Nat}{o:Oper}{env:List (Nat×ab)}{K:List (Nat×ab)->Prop}{x:ab}{H:aC}
end
abbrev tu:=List (Option Value)
def kN(xs:Nat->tu->ab)(J:tu):Nat->List b8->cY->List (Nat×ab)
 | q,e::es,true::p=>(e.d,xs q J)::kN xs J (q+1) es p
 | q,_::es,false::p=>kN xs J (q+1) es p
 | _,_,_=>[]
def qZ(gO:tu->aC)(xs:Nat->tu->ab)(es:List b8)(S:Nat->Bool):Mem:=λB a I w=>
 a7 B I w (gO (b8.inst es (b8.pat es S) λd=>a.tmps.getD d undef))/\∀q e,es[q]? =some e->S e.i=true->Rel I w (xs q (b8.inst es (b8.pat es S) λd=>a.tmps.getD d undef)) (a.tmps.getD e.d undef)
theorem CA{xs}{J}{env}{t}{y}{S}:∀(a:List b8) (q:Nat),aE (kN xs J q a (b8.pat a S)++env) t=some y->(∃j e,a[j]? =some e/\S e.i=true/\e.d=t/\y=xs (q+j) J)\/aE env t=some y
 | [],q,h=>.inr h
 | e::a,q,h=>by
  simp[b8.pat,List.map_cons] at h;cases ba:S e.i with
  | true=>
   rw[ba] at h;simp[kN,List.cons_append,k6] at h;split at h
   ·rename_i c;cases h;exact .inl ⟨0,e,rfl,ba,c.symm,rfl⟩
   ·rcases CA a (q+1) h with⟨j,e',ae,ak,aL,bo⟩ | h
    ·exact .inl ⟨j+1,e',ae,ak,aL,by rw[bo,show q+1+j=q+(j+1) by omega]⟩
    ·exact .inr h
  | false=>
   rw[ba] at h;rcases CA a (q+1) h with⟨j,e',ae,ak,aL,bo⟩ | h
   ·exact .inl ⟨j+1,e',ae,ak,aL,by rw[bo,show q+1+j=q+(j+1) by omega]⟩
   ·exact .inr h
def Gt{I}{w}{a}{o}{env}{xs}{J}{S}{es}(bD:∀q e,es[q]? =some e->S e.i=true->Rel I w (xs q J) (a.tmps.getD e.d undef))(h:fo I w (aE env) a o):
  fo I w (aE (kN xs J 0 es (b8.pat es S)++env)) a o:=λx aK y hy=>by
 cases x with
 | tmp u=>
  simp[iU] at hy;rcases CA es 0 hy with⟨j,e,ae,ak,aL,bo⟩ | hy
  ·have:=bD j e ae ak;rw[Nat.zero_add] at bo;rw[bo, <-aL];exact this
  ·exact h _ aK y hy
 | const v=>exact h _ aK y hy
 | global g=>exact h _ aK y hy
 | func f=>exact h _ aK y hy
def ee(X:nx)(P:Program)(H:aC)(H':Value->aC)(x:Value->ab)(ρ:Nat->Option ab)(o:Oper):Prop:=∀(B:Nat) (I:cr) (w:World) (r:Option Nat) (a:Act),bY B I w->a7 B I w H->fo I w ρ a o->
 dw P r o a w (λv w'=>∃c7,bY B c7 w'/\Ext B I w c7 w'/\a7 B c7 w' (H' v)/\Rel c7 w' (x v) v) (X B I w)
section
variable{c:Ctx}{r:Option Nat}{P:Program}{l:cg}{Q:Exit->Act->World->Prop}{X:nx}
def bW.sd{env}{H}(es)(z)(xs)(k m n)(hn:c.n=n)(kK:mJ l k m)(pU:(es.all λe=>Nat.ble k e.i && Nat.blt e.i m)=true)(lF:Nat.ble k m)(gk:Nat.ble m l.length)(mF:(l.all λo=>(looks l o).all λt=>Nat.blt t n)=true)
  (af:z (es.map λ_=>none)=H)
  (oZ:∀(I:cr) (w:World) (a:Act) ch w',a.defers=c.ds->a.tmps.size=c.n->bY c.B I w->Ext c.B c.c9 c.bN I w->X c.B I w ch w'->Q (.panic ch) a w')
  (h:jM X P (qZ z xs es) l c.n k ((l.drop k).take (m - k)) env λenv=>∀(f:Nat->Value),bW c r P l Q m ⟨kN xs (es.map λe=>some (f e.d)) 0 es (es.map λ_=>true)++env,z (es.map λe=>some (f e.d))⟩):bW c r P l Q k ⟨env,H⟩:=by
 simp only[List.all_eq_true,Bool.and_eq_true] at pU;have au:∀i,Nat.ble k i=true->Nat.blt i k=false:=λi aN=>by
  have ae:=Nat.le_of_ble_eq_true aN;rw[Bool.eq_false_iff];intro ba;have:=Nat.lt_of_succ_le BL;omega
 refine bW.Mf (M:=qZ z xs es) kK (Nat.le_of_ble_eq_true lF) (Nat.le_of_ble_eq_true gk) qA (λB a I w aW=>⟨?_,λq e he b4=>?_⟩) oZ (h.mono λenv a6 a w I gI fF fc jP lb l9=>?_)
 ·have e:b8.inst es (b8.pat es λi=>Nat.blt i k) (λd=>a.tmps.getD d undef)=es.map λ_=>none:=by
   rw[qV];exact List.map_congr_left λe he=>by rw[au _ (pU e he).1];rfl
  rw[e,af];exact aW
 ·have aL:Nat.blt e.i k=true:=b4;rw[au _ (pU e (List.mem_of_getElem? he)).1] at aL;cases aL
 ·obtain⟨aW,bK⟩:=lb;have e:b8.inst es (b8.pat es λi=>Nat.blt i m) (λd=>a.tmps.getD d undef)=es.map λe=>some (a.tmps.getD e.d undef):=by
   rw[qV];exact List.map_congr_left λe he=>by rw[(pU e he).2];rfl
  have T:b8.pat es (λi=>Nat.blt i m)=es.map λ_=>true:=List.map_congr_left λe he=>(pU e he).2;rw[e] at aW bK;refine a6 (λd=>a.tmps.getD d undef) a w ⟨gI,fF,I,fc,jP,aW,λt y hy=>?_⟩;rw[<-T] at hy;rcases CA es 0 hy with⟨j,e',ae,ak,aL,bo⟩ | hy
  ·have:=bK j e' ae ak;rw[Nat.zero_add] at bo;rw[bo, <-aL];exact this
  ·exact l9 t y hy
end
section
variable{P:Program}{L rest:cg}{es:List b8}{n i d:Nat}{o:Oper}{env:List (Nat×ab)}{K:List (Nat×ab)->Prop}{x:ab}{gO:tu->aC}{xs:Nat->tu->ab}{X:nx}
def cN.WT(c)(t:(es.all λe=>!Nat.beq e.i i && !Nat.beq e.d d)=true)(J:b8.fits L es i c=true)(H:o.guard=none)(a6:o.dst=some d)(hn:Nat.blt d n)
  (h:qU c λp=>∀f,ad P (gO (b8.inst es p f)) (aE (kN xs (b8.inst es p f) 0 es p++env)) o x) (next:jM X P (qZ gO xs es) L n (i+1) rest ((d,x)::env) K):jM X P (qZ gO xs es) L n i (o::rest) env K:=
 ⟨x,λS g j C=>gM.of H (λB I w r a M A F O=>by
  obtain⟨A,D⟩:=A;simp[List.all_eq_true,Bool.and_eq_true,Bool.not_eq_true'] at t;have ne:∀{a b:Nat},Nat.beq a b=false->a≠b:=λh e=>by subst e;simp at h
  refine (h.at _ (b8.zj J g j C) (λd=>a.tmps.getD d undef) B I w r a _ M A (λe z=>z) (Gt D F)).mono (λv N ⟨G,bI,a2,a3,a4⟩=>⟨G,bI,a2,?_,a4⟩) λ_ _ h=>h.elim;have e:b8.inst es (b8.pat es (eN S i)) (λd=>(a.put o.dst v).tmps.getD d undef)=b8.inst es (b8.pat es S) (λd=>a.tmps.getD d undef):=by
   rw[qV,qV];exact List.map_congr_left λe z=>by rw[kI (ne (t e z).1),a6,lB (ne (t e z).2)]
  refine⟨by rw[e];exact a3,λq l m E=>?_⟩;have s:=List.mem_of_getElem? m;rw[e,show (a.put o.dst v).tmps.getD l.d undef=a.tmps.getD l.d undef by rw[a6,lB (ne (t l s).2)]];rw[kI (ne (t l s).1)] at E;exact (D q l m E).bw a2.keeps),gL a6 hn,fY⟩
def cN.kg(q)(l){e}(Q:es[q]? =some e)(O:e.i=i)(F:((es.take q++es.drop (q+1)).all λe'=>!Nat.beq e'.i i && !Nat.beq e'.d e.d)=true)(U:b8.fits L es i l=true)(Z:o.guard=none)(a6:o.dst=some e.d)(hn:Nat.blt e.d n)
  (h:qU l λp=>∀f,ee X P (gO (b8.inst es p f)) (λv=>gO ((b8.inst es p f).set q (some v))) (λv=>xs q ((b8.inst es p f).set q (some v))) (aE (kN xs (b8.inst es p f) 0 es p++env)) o/\∀v fs,p[fs]? =some true->xs fs ((b8.inst es p f).set q (some v))=xs fs (b8.inst es p f))
  (next:jM X P (qZ gO xs es) L n (i+1) rest ((e.d,.any)::env) K):jM X P (qZ gO xs es) L n i (o::rest) env K:=
 ⟨.any,λS z x J=>gM.of Z (λB I w r a hw E A T=>by
  obtain⟨E,M⟩:=E;simp only[List.all_eq_true,Bool.and_eq_true,Bool.not_eq_true'] at F;have ne:∀{a b:Nat},Nat.beq a b=false->a≠b:=λh e=>by subst e;simp at h
  obtain⟨R,G⟩:=h.at _ (b8.zj U z x J) λd=>a.tmps.getD d undef;refine (R B I w r a hw E (Gt M A)).mono (λv w' ⟨Y,bI,a2,a3,a4⟩=>⟨Y,bI,a2,?_,.any _⟩) λ_ _ h=>h;have s:∀fs e',fs≠q->es[fs]? =some e'->e'.i≠e.i/\(a.put o.dst v).tmps.getD e'.d undef=a.tmps.getD e'.d undef:=λfs e' D c=>by
   have C:e'∈es.take q++es.drop (q+1):=by
    rw[List.mem_append];rcases Nat.lt_or_gt_of_ne D with N | N
    ·exact .inl (List.mem_of_getElem? (i:=fs) (by rw[List.getElem?_take,if_pos N];exact c))
    ·exact .inr (List.mem_of_getElem? (i:=fs - (q+1)) (by rw[List.getElem?_drop,show q+1+(fs - (q+1))=fs by omega];exact c))
   refine⟨by rw[O];exact ne (F _ C).1,?_⟩;rw[a6];exact lB (ne (F _ C).2)
  have m:(a.put o.dst v).tmps.getD e.d undef=v:=by rw[a6];exact pE (T _ a6)
  have t:=Gq (es:=es) (S:=S) (f:=λd=>a.tmps.getD d undef) (f':=λd=>(a.put o.dst v).tmps.getD d undef) (u:=v) Q m s;rw[<-O];refine⟨by rw[t];exact a3,λfs e' c H=>?_⟩;rw[t];by_cases D:fs=q
  ·subst D;rw[Q] at c;cases c;rw[m];exact a4
  ·obtain⟨W,V⟩:=s fs e' D c;rw[kI W] at H;rw[V,G v fs (by rw[b8.pat,List.getElem?_map,c];exact congrArg some H)];exact (M fs e' c H).bw a2.keeps),gL a6 hn,fY⟩
def cN.MN(q)(l){e}(he:es[q]? =some e)(O:e.i=i)(J:((es.take q++es.drop (q+1)).all λe'=>!Nat.beq e'.i i)=true)(U:b8.fits L es i l=true)(Z:o.guard=none)(a6:o.dst=none)
  (h:qU l λp=>∀f u,(ee X P (gO (b8.inst es p f)) (λ_=>gO ((b8.inst es p f).set q (some u))) (λ_=>.any) (aE (kN xs (b8.inst es p f) 0 es p++env)) o/\xs q ((b8.inst es p f).set q (some u))= .any)/\∀fs,p[fs]? =some true->xs fs ((b8.inst es p f).set q (some u))=xs fs (b8.inst es p f))
  (next:jM X P (qZ gO xs es) L n (i+1) rest env K):jM X P (qZ gO xs es) L n i (o::rest) env K:=
 ⟨.any,λS z x H=>gM.of Z (λB I w r a T D A aD=>by
  obtain⟨D,M⟩:=D;simp only[List.all_eq_true,Bool.not_eq_true'] at J;have ne:∀{a b:Nat},Nat.beq a b=false->a≠b:=λh e=>by subst e;simp at h
  obtain⟨⟨R,Q⟩,E⟩:=h.at _ (b8.zj U z x H) (λd=>a.tmps.getD d undef) (a.tmps.getD e.d undef);refine (R B I w r a T D (Gt M A)).mono (λv w' ⟨Y,bI,a2,a3,a4⟩=>⟨Y,bI,a2,?_,.any _⟩) (λ_ _ h=>h);have m:a.put o.dst v=a:=by rw[a6];rfl
  have s:∀fs e',fs≠q->es[fs]? =some e'->e'.i≠e.i/\(a.put o.dst v).tmps.getD e'.d undef=a.tmps.getD e'.d undef:=λfs e' C g=>by
   have F:e'∈es.take q++es.drop (q+1):=by
    rw[List.mem_append];rcases Nat.lt_or_gt_of_ne C with N | N
    ·exact .inl (List.mem_of_getElem? (i:=fs) (by rw[List.getElem?_take,if_pos N];exact g))
    ·exact .inr (List.mem_of_getElem? (i:=fs - (q+1)) (by rw[List.getElem?_drop,show q+1+(fs - (q+1))=fs by omega];exact g))
   exact⟨by rw[O];exact ne (J _ F),by rw[m]⟩
  have t:=Gq (es:=es) (S:=S) (f:=λd=>a.tmps.getD d undef) (f':=λd=>(a.put o.dst v).tmps.getD d undef) (u:=a.tmps.getD e.d undef) he (by rw[m]) s;rw[<-O];refine⟨by rw[t];exact a3,λfs e' g G=>?_⟩;rw[t];by_cases C:fs=q
  ·subst C;rw[Q];exact .any _
  ·obtain⟨W,V⟩:=s fs e' C g;rw[kI W] at G;rw[V,E fs (by rw[b8.pat,List.getElem?_map,g];exact congrArg some G)];exact (M fs e' g G).bw a2.keeps),by rw[a6];rfl,fY⟩
end
section
variable{P:Program}{H:aC}{ρ:Nat->Option ab}{o:Oper}{X:nx}
def ee.oZ{f}{ys}{q}{s}{m}{H'}{x}(l:gG P ρ o f ys)(h:pT P f ys H none q s)(C:s.Const m):ee (WG m q) P H H' x ρ o:=λB I w r a J A z=>by
 obtain⟨D,F,v⟩:=l.run I w a z;obtain⟨j,c⟩:=h;refine .qD l.rS (v j) ((c B I w D J A F).mono λe M g=>?_);obtain⟨E,L,G,K,t,g⟩:=g;rcases g with⟨eA,x',rfl,_,e⟩ | ⟨eA,x',rfl,aK,_,rfl,rfl⟩
 ·cases e
 ·rw[C.is _ _ _ aK];exact⟨rfl,E,G,K,t⟩
def ee.pop{y}{H'}{x}(h:ad P H ρ o y)(l:∀v,H' v=H)(f:∀v,x v=y):ee X P H H' x ρ o:=λB I w r a c j g=>
 (h B I w r a _ c j (λe q=>q) g).mono (λv s ⟨m,bI,a2,a3,a4⟩=>⟨m,bI,a2,by rw[l];exact a3,by rw[f];exact a4⟩) λ_ _ h=>h.elim
def ee.BW{c}{H'}{x}(h:qQ P H c ρ o)(m:∀v,H' v=c)(g:∀v,x v= .any):ee X P H H' x ρ o:=λB I w r a f l j=>
 (h B I w r a f l j).mono (λv s ⟨q,bI,a2,a3⟩=>⟨q,bI,a2,by rw[m];exact a3,by rw[g];exact .any _⟩) λ_ _ h=>h.elim
def ee.rU{t}{f}{H'}{x}[A:gp P t f](h:o.op= .alloc t)(q:∀v,H' v= .au (w4 v) t (f.map .val)::H)(l:∀v,x v= .p (w4 v) 0):ee X P H H' x ρ o:=λB I w r a j m B=>by
 have c:=A.h;unfold zeroCells at c;cases rP:P.info? t with
 | none=>simp[rP] at c
 | some g=>
  cases hz2:g.zero with
  | none=>simp[rP,hz2] at c
  | some z=>
   simp[rP,hz2] at c;have s:bU I w (f.map .val) z.cells.toList:=by rw[c];exact lA f
   refine .e4 ck (v:=.pointer (some ⟨w.heap.size,0,none⟩)) (w':=w.alloc (.cells z.cells t)) Lu ⟨I,j.alloc _,jJ j _,?_,?_⟩
   ·rw[q];exact m.new j t _ _ s
   ·rw[l];exact .val _
end
end Go.Eng

namespace Go
def mb(f:FuncId)(F:Fence)(n:Nat)(P:Program)(c:Code)(Q:Exit->Act->World->Prop)(a:Act)(w:World):Prop:=
 ∀(b:Frame) (k:List Item) (cs:List Frame),b.roundOf=F.round->b.fn=f->F.fn b.fn->F.room (cs.length+1+n)->∃e kJ w',Q e kJ w'/\ArrivesIn (Machine.fenced P F) P (lone (b.atR a (.code c::k)) cs w) b k cs e kJ w'
section
variable{f:FuncId}{F:Fence}{n:Nat}{P:Program}{Q:Exit->Act->World->Prop}{a:Act}{w:World}
def mb.of{c}(h:c.wpIn F n P Q a w):mb f F n P c Q a w:=λb k l g _ m j=>h b k l g m j
def mb.seq{x y}(h:mb f F n P x (Exit.then (mb f F n P y Q) Q) a w):mb f F n P (.seq x y) Q a w:=by
 intro b k D nX he ba bK;have af:(lone (b.atR a (.code (.seq x y)::k)) D w).fenced P F:=fenced_calm ba bK rfl;obtain⟨e,j,fM,cj,et⟩:=h b (.code y::k) D nX he ba bK;cases e with
 | normal=>
  obtain⟨z,v,nm,oV,pF⟩:=cj b k D nX he ba bK;exact⟨z,v,nm,oV,.of_steps (.head af stepR_seq et) pF⟩
 | exit id=>exact⟨_,j,fM,cj,.of_steps (.one af stepR_seq) (.pass (x:=.code y) rfl (λ_ _=>.inl aT) et)⟩
 | goto l=>exact⟨_,j,fM,cj,.of_steps (.one af stepR_seq) (.pass (x:=.code y) rfl (λ_ _=>.inl aT) et)⟩
 | ret=>exact⟨_,j,fM,cj,.of_steps (.one af stepR_seq) (.pass (x:=.code y) rfl (λ_ _=>.inl aT) et)⟩
 | panic J=>exact⟨_,j,fM,cj,.of_steps (.one af stepR_seq) (.pass (x:=.code y) rfl (λ_ _=>.inl aT) et)⟩
 | outgrown=>exact⟨_,j,fM,cj,.of_steps (.one af stepR_seq) (.pass (x:=.code y) rfl (λ_ _=>.inl aT) et)⟩
def mb.block{id}{c}(h:mb f F n P c (Exit.inBlock id Q) a w):mb f F n P (.block id c) Q a w:=by
 intro b k cs nX he ba bK;have af:(lone (b.atR a (.code (.block id c)::k)) cs w).fenced P F:=fenced_calm ba bK rfl;obtain⟨e,m,fM,cj,et⟩:=h b (.inBlock id::k) cs nX he ba bK;cases e with
 | normal=>exact⟨.normal,m,fM,cj,.head af stepR_block (StepsIn.trans et (.one (fenced_calm ba bK rfl) stepR_inBlock))⟩
 | exit zm=>
  by_cases CB:zm=id
  ·simp[Exit.inBlock,CB,if_true] at cj;exact⟨.normal,m,fM,cj,.head af stepR_block (et.1 k (by simp[exitTo,CB]))⟩
  ·simp[Exit.inBlock,CB,if_false] at cj;have this:(id==zm)=false:=by simp;exact λh=>CB h.symm
   have aK:exitTo zm (.inBlock id::k)=exitTo zm k:=by simp[exitTo,this]
   exact⟨.exit zm,m,fM,cj,λgW bD=>.head af stepR_block (et.1 gW (by rw[aK];exact bD)),
    λmc bD=>let ⟨k₁,ae,ak⟩:=et.2 mc (by rw[aK];exact bD);⟨k₁,ae,.head af stepR_block ak⟩⟩
 | goto l=>
  have aK:gotoIn l (.inBlock id::k)=gotoIn l k:=by simp[gotoIn]
  exact⟨_,m,fM,cj,λgW bD=>.head af stepR_block (et.1 gW (by rw[aK];exact bD)),
   λmc bD=>let ⟨k₁,ae,ak⟩:=et.2 mc (by rw[aK];exact bD);⟨k₁,ae,.head af stepR_block ak⟩⟩
 | ret=>exact⟨_,m,fM,cj,.of_steps (.one af stepR_block) et⟩
 | panic K=>exact⟨_,m,fM,cj,.of_steps (.one af stepR_block) et⟩
 | outgrown=>exact⟨_,m,fM,cj,.of_steps (.one af stepR_block) et⟩
def WU{fn:Func}{c:Code}{args:Array Value}{R:Ending->World->Prop}(b7:P.funcs[f]? =some fn)(ba:fn.body=some c)(hF:F.fn f)
  (h:mb f F n P c (bodyPostM F n P fn R) {tmps:=args++Array.replicate (fn.ntmps - args.size) undef,defers:=[]} w) (nX:F.round=none:=by rfl):CallsIn F n P f args w R:=by
 refine⟨hF,λcs bK=>?_⟩
 let b:Frame:={(default:Frame) with fn:=f,kind:=.normal,roundOf:=none}
 have zn:Frame.enter P f args .normal=b.atR {tmps:=args++Array.replicate (fn.ntmps - args.size) undef,defers:=[]} [.code c]:=by
  simp[Frame.enter,Frame.atR,b7,ba,b]
 obtain⟨e,kJ,w',cj,et⟩:=h b [] cs nX.symm rfl hF bK;rw[<-zn] at et;cases e with
 | normal=>
  obtain⟨e',j7,zo,hR,b4,pO,bq⟩:=leaves_stepsInM kJ.defers .returning w' {b.atR kJ [] with mode:=.returning} cs rfl rfl rfl b7 rfl hF bK cj;exact⟨e',j7,zo,hR,ComesIn.of_steps (StepsIn.trans et (.one (fenced_calm (fr:=b.atR kJ []) hF bK rfl) (stepR_end rfl))) b4,pO,bq⟩
 | ret=>
  obtain⟨todo,Gu⟩:=et.1 rfl;obtain⟨e',j7,zo,hR,b4,pO,bq⟩:=leaves_stepsInM kJ.defers .returning w' {b.atR kJ todo with mode:=.returning} cs rfl rfl rfl b7 rfl hF bK cj;exact⟨e',j7,zo,hR,ComesIn.of_steps Gu b4,pO,bq⟩
 | panic chain=>
  obtain⟨todo,Gu⟩:=et;obtain⟨e',j7,zo,hR,b4,pO,bq⟩:=leaves_stepsInM kJ.defers (.panicking chain) w' {b.atR kJ todo with mode:=.panicking chain} cs rfl rfl rfl b7 rfl hF bK cj;exact⟨e',j7,zo,hR,ComesIn.of_steps Gu b4,pO,bq⟩
 | exit id=>exact cj.elim
 | goto l=>exact cj.elim
 | outgrown=>exact⟨.outgrown,w',b,cj,et.resolve_left (by simp[b]),rfl,trivial⟩
def WV(P:Program)(l:Nat)(R:Ending->World->Prop):Exit->Act->World->Prop
 | .panic chain,a,w=>a.defers= []/\R (.panicked chain) w
 | e,a,w=>roundPost P l R e a w
def WW{l}{fn}{tmps}{assign j}{R}(hF:F.fn f)(pO:P.funcs[f]? =some fn)
  (h:assign.wpIn (F.inRound l) n P (Exit.then (λo7 fM=>∃nm,(Instr.beginRound l).run P fM= .ok () nm/\j.wpIn (F.inRound l) n P (WV P l R) o7 nm) (λ_ _ _=>False)) {tmps:=tmps,defers:=[]} w):
  RoundIn F n P l f tmps assign j w R:=by
 refine⟨hF,λc cs bK=>?_⟩
 let b:Frame:={(default:Frame) with fn:=f,kind:=.normal,roundOf:=some l}
 have gP:Frame.round l f tmps assign j .normal=b.atR {tmps:=tmps,defers:=[]} [.code assign,.beginRound,.code j]:=by
  simp[Frame.round,Frame.atR,b]
 have mc:(F.inRound l).room ((c::cs).length+1+n):=bK;have tv:(F.inRound l).fn b.fn:=hF;obtain⟨e,o7,fM,cj,et⟩:=h b [.beginRound,.code j] (c::cs) rfl tv mc;rw[<-gP] at et;cases e with
 | normal=>
  obtain⟨nm,WX,WY⟩:=cj;have s1:StepsIn (Machine.fenced P (F.inRound l)) P (lone (b.atR o7 [.beginRound,.code j]) (c::cs) fM) (lone (b.atR o7 [.code j]) (c::cs) nm):=
   .one (fenced_calm (fr:=b.atR o7 [.beginRound,.code j]) tv mc rfl) (stepR_beginRound rfl WX)
  obtain⟨yw,x,w5,oV,pF⟩:=WY b [] (c::cs) rfl tv mc;cases yw with
  | normal=>
   obtain⟨v,q0,se,hR⟩:=oV;exact⟨.returned v,q0,hR,(StepsIn.trans et s1).trans (StepsIn.trans pF (.one (fenced_calm (fr:=b.atR x []) tv mc rfl) (stepR_round_end rfl rfl se)))⟩
  | ret=>
   obtain⟨v,q0,se,hR⟩:=oV;obtain⟨k₁,b4⟩:=pF.2 rfl;exact⟨.returned v,q0,hR,(StepsIn.trans et s1).trans (StepsIn.trans b4 (.one (fenced_calm (fr:=b.atR x (.code .ret::k₁)) tv mc rfl) (stepR_round_ret rfl rfl se)))⟩
  | exit id=>
   obtain⟨v,q0,se,hR⟩:=oV;obtain⟨k₁,bD,b4⟩:=pF.2 rfl rfl;exact⟨.returned v,q0,hR,(StepsIn.trans et s1).trans (StepsIn.trans b4 (.one (fenced_calm (fr:=b.atR x (.code (.exit id)::k₁)) tv mc rfl) (stepR_round_exit rfl rfl bD se)))⟩
  | goto t=>
   obtain⟨v,q0,se,hR⟩:=oV;obtain⟨k₁,bD,b4⟩:=pF.2 rfl rfl;exact⟨.returned v,q0,hR,(StepsIn.trans et s1).trans (StepsIn.trans b4 (.one (fenced_calm (fr:=b.atR x (.code (.goto t)::k₁)) tv mc rfl) (stepR_round_goto rfl rfl bD se)))⟩
  | panic s=>
   obtain⟨a6,hR⟩:=oV;obtain⟨todo,b4⟩:=pF;have bq:({b.atR x todo with mode:=.panicking s}:Frame).leaving P w5 (.panicked s):=⟨rfl,a6,fn,pO⟩;exact⟨.panicked s,w5,hR,(StepsIn.trans et s1).trans (StepsIn.trans b4 (.one (fenced_leaving (n:=n) tv mc bq) (step_leave_panicked bq)))⟩
  | outgrown=>exact oV.elim
 | exit id=>exact cj.elim
 | goto t=>exact cj.elim
 | ret=>exact cj.elim
 | panic s=>exact cj.elim
 | outgrown=>exact cj.elim
def mb.rangeFunc{g}{b5}{assign body}
  (h:∃(l:Nat) (mark:List Deferred) (fM:World) (d:Deferred) (CC:World) (f':FuncId) (args:Array Value) (nm:World),
   (Instr.enterLoop f a.tmps b5 assign body F.round).run P w= .ok (l,mark) fM/\
   (resolve a.eval (rangeCall g l) 0).run P fM= .ok d CC/\
   (∀f',Target.leads P CC d.target d.args=some f'->F.fn f')/\
   (invoke d.target d.args).run P CC= .ok (.enter f' args) nm/\
   (F.depth.isSome=true->1<=n)/\
   CallsIn F (n - 1) P f' args nm (rangePost F n P l Q {a with defers:=mark++a.defers})):
  mb f F n P (Code.rangeFunc g b5 assign body) Q a w:=by
 intro b k cs nX wT ba bK;obtain⟨l,mark,fM,d,CC,f',args,nm,he,MO,WZ,hinv,hn,hF,n5⟩:=h;rw[<-nX, <-wT] at he;have af:(lone (b.atR a (.code (.rangeFunc g b5 assign body)::k)) cs w).fenced P F:=by
  refine fenced_lone (.inl ba) (λf' MP=>WZ f' ?_) (Fence.room_le bK aa);have wL:=Frame.eval_atR b a (.code (.rangeFunc g b5 assign body)::k);simp[Frame.atR] at wL;simp[Frame.about,Frame.atR,he,wL,MO] at MP;exact MP
 have zn:=stepR_rangeFunc (P:=P) (b:=b) (a:=a) (k:=k) (cs:=cs) (w:=w) he MO hinv;have Gv:F.room ((b.atR {a with defers:=mark++a.defers} (.inRangeFunc l::k)::cs).length+1+(n - 1)):=Fence.room_enter bK hn;obtain⟨e,w5,fr,hR,Gw,pO,CD⟩:=n5 (b.atR {a with defers:=mark++a.defers} (.inRangeFunc l::k)::cs) Gv;cases e with
 | outgrown=>
  obtain⟨W0,W1,cj⟩:=hR;exact⟨.outgrown,W0,W1,cj,.inr (Outgrown.of_steps (.one zn) Gw)⟩
 | returned v=>
  have bq:(lone fr (b.atR {a with defers:=mark++a.defers} (.inRangeFunc l::k)::cs) w5).fenced P F:=fenced_leaving (pO▸hF) Gv CD;obtain⟨jump,q0,se,cp⟩:=hR;have MQ:StepsIn (Machine.fenced P F) P (lone (b.atR a (.code (.rangeFunc g b5 assign body)::k)) cs w) (lone (b.atR {a with defers:=mark++a.defers} ((jump.map Item.code).toList++k)) cs q0):=by
   refine .head af zn (StepsIn.trans Gw (.head bq ?_ (.one (fenced_calm (fr:=b.atR {a with defers:=mark++a.defers} (.endRangeFunc l::k)) ba bK rfl) (stepR_endRangeFunc se))));rw[<-finish_atR_inRangeFunc l v];exact step_leave_returned CD
  cases jump with
  | none=>exact⟨.normal,_,q0,cp,MQ⟩
  | some c=>
   obtain⟨e',W2,W3,cj,et⟩:=cp b k cs nX ba bK;exact⟨e',W2,W3,cj,.of_steps MQ et⟩
 | panicked chain=>
  have bq:(lone fr (b.atR {a with defers:=mark++a.defers} (.inRangeFunc l::k)::cs) w5).fenced P F:=fenced_leaving (pO▸hF) Gv CD;refine⟨.panic chain,_,w5,hR,.inRangeFunc l::k,.head af zn (StepsIn.trans Gw (.one bq ?_))⟩;rw[<-Frame.raise_atR];exact step_leave_panicked CD
end
end Go

