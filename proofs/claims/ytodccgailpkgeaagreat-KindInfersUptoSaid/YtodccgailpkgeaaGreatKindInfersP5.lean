/- A part of the proof. No condition. -/
import Derived.Test.YtodccgailpkgeaaGreatKindInfersP4
import Derived.RecoverIn
set_option linter.defProp false
set_option maxHeartbeats 1000000
set_option linter.unusedVariables false
set_option linter.unusedSimpArgs false
namespace Go.Eng
open Go.RowKit (Below)
structure dj where
 e:Nat
 d:Nat
 t:TypeId
 fY:dg
 s:Nat
 ys:bl
def dj.hY(S:Nat->Bool)(dR:Nat->Nat)(v:dj):Option bn:=if S v.e then some (.au (dR v.d) v.t (if S v.s then v.ys else v.fY.map .val)) else none
def dj.ga(S:Nat->Bool)(dR:Nat->Nat)(vs:List dj):aA:=vs.filterMap (dj.hY S dR)
def qK(H:aA)(vs:List dj)(S:Nat->Bool):Mem:=λB a I w=>
 ∃dR:Nat->Nat,(∀v∈vs,S v.e=true->a.tmps.getD v.d undef= .pointer (some ⟨dR v.d,0,none⟩))/\a7 B I w (dj.ga S dR vs++H)
def wV(l:cc)(vs:List dj)(k m:Nat):Bool:=(vs.all λv=>Nat.ble k v.e && Nat.blt v.e m && Nat.ble k v.s && Nat.blt v.s m && ((hM l []).getD v.s 0).testBit v.e && vs.all λu=>!Nat.beq u.e v.s) && decide (vs.map (·.e)).Nodup && decide (vs.map (·.s)).Nodup && decide (vs.map (·.d)).Nodup
def Ci{j:Type}(f:j->Nat){l pre post}{v u}(h:(l.map f).Nodup)(g:l=pre++v::post)(hu:u∈pre\/u∈post):f u≠f v:=by
 subst g;rw[List.map_append,List.map_cons] at h;have c:=List.nodup_append.1 h;rcases hu with hu | hu
 ·exact λe=>c.2.2 (f u) (List.mem_map_of_mem hu) (f v) aS e
 ·exact λe=>(List.nodup_cons.1 c.2.1).1 (by rw[<-e];exact List.mem_map_of_mem hu)
theorem wW{S f}{c a}:∀{vs:List dj},(∀v∈vs,dj.hY S c v=dj.hY f a v)->dj.ga S c vs=dj.ga f a vs
 | [],_=>rfl
 | v::r,h=>by
  have j:=h v (.head _);have g:=wW (vs:=r) λu l=>h u (.tail _ l);unfold dj.ga at*;rw[List.filterMap_cons,List.filterMap_cons,j,g]
def Cj{S}{c}{a b}:dj.ga S c (a++b)=dj.ga S c a++dj.ga S c b:=List.filterMap_append
def Ck{S}{a}{v}{r}{e}(h:dj.hY S a v=some e):dj.ga S a (v::r)=e::dj.ga S a r:=List.filterMap_cons_some h
def L9{S}{a}{v}{r}(h:dj.hY S a v=none):dj.ga S a (v::r)=dj.ga S a r:=List.filterMap_cons_none h
theorem bG.under{e e'}{H}:∀(X:aA),bG (X++e::H) e e' (X++e'::H)
 | []=>.head _ _ _
 | f::X=>.tail _ _ _ _ _ (.under X)
section
variable{c:Ctx}{r:Option Nat}{P:Program}{l:cc}{Q:Exit->Act->World->Prop}
theorem Ma{c}{k}:∀{a:List dj},(∀v∈a,Nat.blt v.e k=false)->dj.ga (λi=>Nat.blt i k) c a= []
 | [],_=>rfl
 | v::r,h=>by rw[L9 (by rw[dj.hY,if_neg (by rw[h v (.head _)];simp)]),Ma λu f=>h u (.tail _ f)]
theorem Mb{c}{m}:∀{a:List dj},(∀v∈a,Nat.blt v.e m=true/\Nat.blt v.s m=true)->dj.ga (λi=>Nat.blt i m) c a=a.map λv=>.au (c v.d) v.t v.ys
 | [],_=>rfl
 | v::r,h=>by
  have:=h v (.head _);rw[Ck (e:=.au (c v.d) v.t v.ys) (by rw[dj.hY,if_pos this.1,if_pos this.2]),Mb λu f=>h u (.tail _ f)];rfl
theorem fM.vars{I}{w}{a}{env}{j:Nat->Nat}(h:fM I w (aD env) a):∀(f:List dj),(∀v∈f,a.tmps.getD v.d undef= .pointer (some ⟨j v.d,0,none⟩))->fM I w (aD (f.map (λv=>(v.d,ab.p (j v.d) 0))++env)) a
 | [],_=>h
 | v::r,g=>λt x c=>by
  rw[List.map_cons,List.cons_append,kU] at c;split at c
  ·rename_i e;cases c;subst e;rw[g v (.head _)];exact .val _
  ·exact fM.vars h r (λu l=>g u (.tail _ l)) t x c
def b0.za{env}{H}(vs)(k m n)(hn:c.n=n)(kB:mz l k m)(my:wV l vs k m)(lq:Nat.ble k m)(gO:Nat.ble m l.length)(mu:(l.all λo=>(looks l o).all λt=>Nat.blt t n)=true)
  (h:cH P (qK H vs) l c.n k ((l.drop k).take (m - k)) env λenv=>∀dR:Nat->Nat,b0 c r P l Q m ⟨vs.map (λv=>(v.d,.p (dR v.d) 0))++env,vs.map (λv=>.au (dR v.d) v.t v.ys)++H⟩):b0 c r P l Q k ⟨env,H⟩:=by
 simp only[wV,Bool.and_eq_true,List.all_eq_true,decide_eq_true_eq,Bool.not_eq_true'] at my;obtain⟨⟨⟨j0,VU⟩,wG⟩,VV⟩:=my;refine b0.B8 (M:=qK H vs) kB (Nat.le_of_ble_eq_true lq) (Nat.le_of_ble_eq_true gO) qq (λB a I w aU=>⟨λ_=>0,λv bd b6=>?_,?_⟩) (h.mono λenv a6 a w I hO fO fi jH kZ l0=>?_)
 ·have ae:=Nat.le_of_ble_eq_true (j0 v bd).1.1.1.1.1;have:Nat.blt v.e k=false:=by rw[Bool.eq_false_iff];intro a8;have:=Nat.lt_of_succ_le BA;omega
  have b6:Nat.blt v.e k=true:=b6;rw[this] at b6;cases b6
 ·rw[Ma λv bd=>by
   have ae:=Nat.le_of_ble_eq_true (j0 v bd).1.1.1.1.1;rw[Bool.eq_false_iff];intro a8;have:=Nat.lt_of_succ_le BA;omega]
  exact aU
 ·obtain⟨dR,a8,aU⟩:=kZ;have yZ:a7 c.B I w (vs.map (λv=>bn.au (dR v.d) v.t v.ys)++H):=by rwa [Mb λv bd=>⟨(j0 v bd).1.1.1.1.2,(j0 v bd).1.1.2⟩] at aU
  exact a6 dR a w ⟨hO,fO,I,fi,jH,yZ,l0.vars vs λv bd=>a8 v bd (j0 v bd).1.1.1.1.2⟩
end
section
variable{P:Program}{L rest:cc}{vs:List dj}{n i d:Nat}{o:Oper}{env:List (Nat×ab)}{K:List (Nat×ab)->Prop}{x:ab}{H:aA}
def cH.nil{X}{M}(h:K env):jE X P M L n i [] env K:=h
def cH.VW(c:(vs.all λv=>!Nat.beq v.e i && !Nat.beq v.s i && !Nat.beq v.d d)=true)(D:o.guard=none)(a6:o.dst=some d)(hn:Nat.blt d n)(h:ad P H (aD env) o x)(next:cH P (qK H vs) L n (i+1) rest ((d,x)::env) K):cH P (qK H vs) L n i (o::rest) env K:=
 ⟨x,λS _ _ E=>gI.of D (λB I w r a C q t J=>by
  obtain⟨f,F,z⟩:=q;simp[List.all_eq_true,Bool.and_eq_true,Bool.not_eq_true'] at c;have ne:∀{a b:Nat},Nat.beq a b=false->a≠b:=λh e=>by subst e;simp at h
  have j:∀v∈vs,dj.hY (eL S i) f v=dj.hY S f v:=λv l=>by
   rw[dj.hY,dj.hY,kv (ne (c v l).1.1),kv (ne (c v l).1.2)]
  refine (h B I w r a _ C z (λe j=>List.mem_append_right _ j) t).mono (λv G ⟨A,bF,a2,a3,a4⟩=>⟨A,bF,a2,⟨f,λu g m=>?_,?_⟩,a4⟩) λ_ _ h=>h
  ·rw[kv (ne (c u g).1.1)] at m;rw[a6,lk (ne (c u g).2)];exact F u g m
  ·rw[wW j];exact a3),gH a6 hn,fW⟩
def cH.wX(pre post)(v)(c:vs=pre++v::post)(N:∃k m,wV L vs k m=true){D}[aH:hf P v.t D](X:v.fY=D)(C:v.e=i)(aw:o.guard=none)(a6:o.dst=some v.d)(hn:Nat.blt v.d n)(h:o.op= .alloc v.t)(e5:Nat.blt v.s L.length)
  (next:cH P (qK H vs) L n (i+1) rest ((v.d,.any)::env) K):cH P (qK H vs) L n i (o::rest) env K:=by
 obtain⟨k,m,N⟩:=N;simp[wV,Bool.and_eq_true,List.all_eq_true,decide_eq_true_eq,Bool.not_eq_true'] at N;obtain⟨⟨⟨A,J⟩,bF⟩,Z⟩:=N;have x:v∈vs:=by rw[c];simp
 have ne:∀{a b:Nat},Nat.beq a b=false->a≠b:=λh e=>by subst e;simp at h
 refine⟨.any,λS B6 _ F=>gI.of aw (λB I w r a hw hm bb a0=>?_),gH a6 hn,fW⟩;obtain⟨q,a8,aU⟩:=hm;have l:=aH.h;unfold zeroCells at l;cases rL:P.info? v.t with
 | none=>simp[rL] at l
 | some W=>
  cases hz2:W.zero with
  | none=>simp[rL,hz2] at l
  | some z=>
   simp[rL,hz2] at l;have ae:bQ I w (D.map .val) z.cells.toList:=by rw[l];exact lj D
   have R:v.s≠i:=λe=>ne ((A v x).2 v x) (by rw[C,e]);have O:S v.s=false:=by
    rw[Bool.eq_false_iff];intro b6;have T:v.s<L.length:=Nat.lt_of_succ_le (by simpa [Nat.blt] using e5);have:=B6 v.s L[v.s] (List.getElem?_eq_getElem T) b6 v.e (A v x).1.2;rw[C,F] at this;cases this
   let f:Nat->Nat:=λd=>if d=v.d then w.heap.size else q d
   have g:∀u,u∈pre\/u∈post->dj.hY (eL S i) f u=dj.hY S q u:=λu j=>by
    have U:u∈vs:=by rw[c];rcases j with j | j <;> simp[j]
    have Q:u.e≠i:=by rw[<-C];exact Ci (·.e) J c j
    have Y:u.d≠v.d:=Ci (·.d) Z c j;have fh:u.s≠i:=λe=>ne ((A u U).2 v x) (by rw[C,e]);rw[dj.hY,dj.hY,kv Q,kv fh,show f u.d=q u.d from if_neg Y]
   have M:dj.hY (eL S i) f v=some (.au w.heap.size v.t (D.map .val)):=by
    rw[dj.hY,C,wL,if_pos rfl,kv R,O,show f v.d=w.heap.size from if_pos rfl,X];rfl
   have G:dj.hY S q v=none:=by rw[dj.hY,C,F];rfl
   have Q:dj.ga S q vs=dj.ga S q pre++dj.ga S q post:=by rw[c,Cj,L9 G]
   have Y:dj.ga (eL S i) f vs=dj.ga S q pre++.au w.heap.size v.t (D.map .val)::dj.ga S q post:=by
    rw[c,Cj,Ck M,wW λu j=>g u (.inl j),wW λu j=>g u (.inr j)]
   rw[Q] at aU;refine .e3 (v:=.pointer (some ⟨w.heap.size,0,none⟩)) (w':=w.alloc (.cells z.cells v.t)) cf K9 ⟨I,hw.alloc _,jB hw _,⟨f,λu j b6=>?_,?_⟩,.any _⟩
   ·by_cases e:u.d=v.d
    ·rw[e,a6,px (a0 v.d a6),show f v.d=w.heap.size from if_pos rfl]
    ·rw[a6,lk e,show f u.d=q u.d from if_neg e];refine a8 u j ?_;have V:u∈pre\/u∈post:=by
      rw[c] at j;rcases List.mem_append.1 j with E | E
      ·exact .inl E
      ·rcases List.mem_cons.1 E with E | E
       ·exact absurd (by rw[E]) e
       ·exact .inr E
     have:u.e≠i:=by rw[<-C];exact Ci (·.e) J c V
     rwa [kv this] at b6
   ·rw[Y];have:=a7.new aU hw v.t _ _ ae;exact this.perm (by rw[List.append_assoc,List.append_assoc];exact List.perm_middle.symm)
def cH.wY(pre post)(v)(my:vs=pre++v::post)(a1:∃k m,wV L vs k m=true)(aQ:v.s=i)(aw:o.guard=none)(a6:o.dst=none)(h:∀b H' J,bG H' (.au b v.t (v.fY.map .val)) (.au b v.t v.ys) J->qH P H' J (aD ((v.d,.p b 0)::env)) o)(next:cH P (qK H vs) L n (i+1) rest env K):cH P (qK H vs) L n i (o::rest) env K:=by
 obtain⟨k,m,a1⟩:=a1;simp[wV,Bool.and_eq_true,List.all_eq_true,decide_eq_true_eq,Bool.not_eq_true'] at a1;obtain⟨⟨⟨j0,VU⟩,wG⟩,VV⟩:=a1;have wZ:v∈vs:=by rw[my];simp
 have ne:∀{a b:Nat},Nat.beq a b=false->a≠b:=λh e=>by subst e;simp at h
 refine⟨.any,λS B6 VX F2=>gI.of aw (λB I w r a hw hm bb lR=>?_),by rw[a6];rfl,fW⟩;obtain⟨dR,a8,aU⟩:=hm;have Ge:S v.e=true:=VX _ (by rw[<-aQ];exact (j0 v wZ).1.2);have ck:=a8 v wZ Ge;have lZ:fm I w (aD ((v.d,.p (dR v.d) 0)::env)) a o:=λx aK y hy=>by
  cases x with
  | tmp t=>
   simp[iL] at hy;rw[kU] at hy;split at hy
   ·rename_i e;subst e;cases hy;show Rel I w (.p (dR v.d) 0) (a.tmps.getD v.d undef);rw[ck];exact .val _
   ·exact bb _ aK y hy
  | const v=>exact bb _ aK y hy
  | global g=>exact bb _ aK y hy
  | func f=>exact bb _ aK y hy
 have Mc:∀u,u∈pre\/u∈post->dj.hY (eL S i) dR u=dj.hY S dR u:=λu hu=>by
  have VY:u∈vs:=by rw[my];rcases hu with hu | hu <;> simp[hu]
  have bM:u.s≠i:=by rw[<-aQ];exact Ci (·.s) wG my hu
  have fh:u.e≠i:=λe=>ne ((j0 v wZ).2 u VY) (by rw[aQ,e]);rw[dj.hY,dj.hY,kv bM,kv fh]
 have pQ:v.e≠i:=λe=>ne ((j0 v wZ).2 v wZ) (by rw[aQ,e]);have hold:dj.hY S dR v=some (.au (dR v.d) v.t (v.fY.map .val)):=by
  rw[dj.hY,if_pos Ge,aQ,if_neg (by rw[F2];simp)]
 have VZ:dj.hY (eL S i) dR v=some (.au (dR v.d) v.t v.ys):=by
  rw[dj.hY,kv pQ,if_pos Ge,aQ,wL,if_pos rfl]
 have bM:dj.ga S dR vs++H=dj.ga S dR pre++.au (dR v.d) v.t (v.fY.map .val)::(dj.ga S dR post++H):=by rw[my,Cj,Ck hold,List.append_assoc];rfl
 have bL:dj.ga (eL S i) dR vs++H=dj.ga S dR pre++.au (dR v.d) v.t v.ys::(dj.ga S dR post++H):=by
  rw[my,Cj,Ck VZ,wW λu hu=>Mc u (.inl hu),wW λu hu=>Mc u (.inr hu),List.append_assoc];rfl
 rw[bM] at aU;refine (h (dR v.d) _ _ (.under _) B I w r a hw aU lZ).mono (λx w' ⟨c3,bF,a2,a3⟩=>⟨c3,bF,a2,⟨dR,λu hu b6=>?_,by rw[bL];exact a3⟩,.any _⟩) λ_ _ h=>h;rw[a6];refine a8 u hu ?_;have:u.e≠i:=λe=>ne ((j0 v wZ).2 u hu) (by rw[aQ,e]);rwa [kv this] at b6
end
structure b7 where
 i:Nat
 d:Nat
 u:Bool
def b7.inst(es:List b7)(p:cW)(f:Nat->Value):List (Option Value):=List.zipWith (λe b=>if b then some (f e.d) else none) es p
def b7.kW:List b7->cW->(Nat->Value)->List (Nat×ab)
 | e::es,b::p,f=>match b,e.u with
  | true,true=>(e.d,.val (f e.d))::b7.kW es p f
  | _,_=>b7.kW es p f
 | _,_,_=>[]
def b7.pat(es:List b7)(S:Nat->Bool):cW:=es.map λe=>S e.i
def w0{G:Type}(gK:G->List (Option Value)->aA)(es:List b7)(S:Nat->Bool):Mem:=λB a I w=>∃g,a7 B I w (gK g (b7.inst es (b7.pat es S) λd=>a.tmps.getD d undef))
def b7.Gf(L:cc)(es:List b7)(i:Nat)(p:cW):Bool:=(es.zip p).all λx=>(!((hM L []).getD i 0).testBit x.1.i || x.2) && (!x.2 || (!((hM L []).getD x.1.i 0).testBit i && !Nat.beq x.1.i i && (es.zip p).all λy=>!((hM L []).getD x.1.i 0).testBit y.1.i || y.2))
def du:Nat->List cW
 | 0=>[[]]
 | n+1=>(du n).flatMap λp=>[false::p,true::p]
def b7.fits(L:cc)(es:List b7)(i:Nat)(zb:List cW):Bool:=(es.all λe=>Nat.blt e.i L.length) && (du es.length).all λp=>!b7.Gf L es i p || zb.contains p
def qL{α:Type}:List α->(α->Prop)->Prop
 | [],_=>True
 | a::r,Q=>Q a/\qL r Q
theorem qL.at{c}{Q}:∀{l:List c},qL l Q->∀a∈l,Q a
 | _::_,⟨h,_⟩,_,.head _=>h
 | _::_,⟨_,h⟩,_,.tail _ f=>qL.at h _ f
theorem Md:∀(p:cW),p∈du p.length
 | []=>.head _
 | b::p=>List.mem_flatMap.2 ⟨p,Md p,by cases b <;> simp⟩
def qM(es)(S)(f):b7.inst es (b7.pat es S) f=es.map λe=>if S e.i then some (f e.d) else none:=by
 induction es with
 | nil=>rfl
 | cons e r a=>simp[b7.inst,b7.pat,List.map_cons,List.zipWith_cons_cons] at a ⊢;rw[a]
def Me{es:List b7}{S}:∀x∈es.zip (b7.pat es S),x.1∈es/\x.2=S x.1.i:=by
 induction es with
 | nil=>intro x a;cases a
 | cons e r c=>
  intro x a;simp[b7.pat,List.map_cons,List.zip_cons_cons,List.mem_cons] at a;rcases a with rfl | a
  ·exact⟨.head _,rfl⟩
  ·exact⟨.tail _ (c x a).1,(c x a).2⟩
def b7.zc{L}{es}{i}{c}{S}(h:b7.fits L es i c=true)(v:FW L S)(hm:∀j,((hM L []).getD i 0).testBit j=true->S j=true)(o:S i=false):b7.pat es S∈c:=by
 simp only[b7.fits,Bool.and_eq_true,List.all_eq_true] at h;obtain⟨a,h⟩:=h;have m:∀e∈es,e.i<L.length:=λe z=>Nat.lt_of_succ_le (by simpa [Nat.blt] using a e z);have q:=h (b7.pat es S) (by have:=Md (b7.pat es S);rwa [b7.pat,List.length_map] at this);have l:b7.Gf L es i (b7.pat es S)=true:=by
  rw[b7.Gf,List.all_eq_true];intro x r;obtain⟨t,g⟩:=Me x r;rw[Bool.and_eq_true];refine⟨?_,?_⟩
  ·cases a:((hM L []).getD i 0).testBit x.1.i with
   | false=>rfl
   | true=>rw[g,hm _ a];rfl
  ·cases Gg:x.2 with
   | false=>rfl
   | true=>
    rw[Gg] at g;have f:=v x.1.i _ (List.getElem?_eq_getElem (m _ t)) g.symm;simp only[Bool.not_true,Bool.false_or,Bool.and_eq_true,Bool.not_eq_true',List.all_eq_true];refine⟨⟨?_,?_⟩,λy s=>?_⟩
    ·cases a:((hM L []).getD x.1.i 0).testBit i with
     | false=>rfl
     | true=>rw[f i a] at o;cases o
    ·cases a:Nat.beq x.1.i i with
     | false=>rfl
     | true=>rw[Nat.eq_of_beq_eq_true a,o] at g;cases g
    ·obtain⟨A,w⟩:=Me y s;cases a:((hM L []).getD x.1.i 0).testBit y.1.i with
     | false=>rfl
     | true=>rw[w,f _ a];rfl
 rw[l] at q;simpa using q
theorem Cl{f}{env}{t}{y}:∀(a:List b7) (p:cW),aD (b7.kW a p f++env) t=some y->y= .val (f t)\/aD env t=some y
 | [],p,h=>.inr h
 | _::_,[],h=>.inr h
 | e::a,b::p,h=>by
  unfold b7.kW at h;split at h
  ·rw[List.cons_append,kU] at h;split at h
   ·rename_i c;cases h;rw[c];exact .inl rfl
   ·exact Cl a p h
  ·exact Cl a p h
def Mf{I}{w}{a}{o}{env}(es)(p)(h:fm I w (aD env) a o):fm I w (aD (b7.kW es p (λd=>a.tmps.getD d undef)++env)) a o:=λx aK y hy=>by
 cases x with
 | tmp u=>
  simp only[iL] at hy;rcases Cl es p hy with rfl | hy
  ·exact .val _
  ·exact h _ aK y hy
 | const v=>exact h _ aK y hy
 | global g=>exact h _ aK y hy
 | func f=>exact h _ aK y hy
def fM.kW{I}{w}{a}{env}(es)(p)(h:fM I w (aD env) a):fM I w (aD (b7.kW es p (λd=>a.tmps.getD d undef)++env)) a:=λt x c=>by
 rcases Cl es p c with rfl | c
 ·exact .val _
 ·exact h t x c
def ir{G:Type}(P:Program)(H:aA)(H':G->Value->aA)(ρ:Nat->Option ab)(o:Oper)(x:ab):Prop:=∀(B:Nat) (I:cp) (w:World) (r:Option Nat) (a:Act),bV B I w->a7 B I w H->fm I w ρ a o->
 dt P r o a w (λv w'=>∃c3 g,bV B c3 w'/\Ext B I w c3 w'/\a7 B c3 w' (H' g v)/\Rel c3 w' x v) (λ_ _=>False)
section
variable{c:Ctx}{r:Option Nat}{P:Program}{l:cc}{Q:Exit->Act->World->Prop}{G:Type}
def b0.V0{env}{H}(es)(g0)(gK)(k m n)(hn:c.n=n)(kB:mz l k m)(pQ:(es.all λe=>Nat.ble k e.i && Nat.blt e.i m)=true)(lq:Nat.ble k m)(gO:Nat.ble m l.length)(mu:(l.all λo=>(looks l o).all λt=>Nat.blt t n)=true)
  (af:gK g0 (es.map λ_=>none)=H)
  (h:cH P (w0 gK es) l c.n k ((l.drop k).take (m - k)) env λenv=>∀(g:G) (f:Nat->Value),b0 c r P l Q m ⟨b7.kW es (es.map λ_=>true) f++env,gK g (es.map λe=>some (f e.d))⟩):b0 c r P l Q k ⟨env,H⟩:=by
 simp only[List.all_eq_true,Bool.and_eq_true] at pQ;have au:∀i,Nat.ble k i=true->Nat.blt i k=false:=λi aQ=>by
  have ae:=Nat.le_of_ble_eq_true aQ;rw[Bool.eq_false_iff];intro a8;have:=Nat.lt_of_succ_le BA;omega
 refine b0.B8 (M:=w0 gK es) kB (Nat.le_of_ble_eq_true lq) (Nat.le_of_ble_eq_true gO) qq (λB a I w aU=>⟨g0,?_⟩) (h.mono λenv a6 a w I hO fO fi jH kZ l0=>?_)
 ·have e:b7.inst es (b7.pat es λi=>Nat.blt i k) (λd=>a.tmps.getD d undef)=es.map λ_=>none:=by
   rw[qM];exact List.map_congr_left λe he=>by rw[au _ (pQ e he).1];rfl
  rw[e,af];exact aU
 ·obtain⟨g,aU⟩:=kZ;have e:b7.inst es (b7.pat es λi=>Nat.blt i m) (λd=>a.tmps.getD d undef)=es.map λe=>some (a.tmps.getD e.d undef):=by
   rw[qM];exact List.map_congr_left λe he=>by rw[(pQ e he).2];rfl
  rw[e] at aU;exact a6 g (λd=>a.tmps.getD d undef) a w ⟨hO,fO,I,fi,jH,aU,l0.kW es _⟩
end
section
variable{P:Program}{L rest:cc}{es:List b7}{n i d:Nat}{o:Oper}{env:List (Nat×ab)}{K:List (Nat×ab)->Prop}{x:ab}{G:Type}{gK:G->List (Option Value)->aA}
def cH.r4(c)(t:(es.all λe=>!Nat.beq e.i i && !Nat.beq e.d d)=true)(D:b7.fits L es i c=true)(C:o.guard=none)(a6:o.dst=some d)(hn:Nat.blt d n)
  (h:qL c λp=>∀g f,ad P (gK g (b7.inst es p f)) (aD (b7.kW es p f++env)) o x) (next:cH P (w0 gK es) L n (i+1) rest ((d,x)::env) K):cH P (w0 gK es) L n i (o::rest) env K:=
 ⟨x,λS j l s=>gI.of C (λB I w r a E q z G=>by
  obtain⟨g,q⟩:=q;simp[List.all_eq_true,Bool.and_eq_true,Bool.not_eq_true'] at t;have ne:∀{a b:Nat},Nat.beq a b=false->a≠b:=λh e=>by subst e;simp at h
  refine (h.at _ (b7.zc D j l s) g (λd=>a.tmps.getD d undef) B I w r a _ E q (λe m=>m) (Mf es _ z)).mono (λv F ⟨A,bF,a2,a3,a4⟩=>⟨A,bF,a2,⟨g,?_⟩,a4⟩) λ_ _ h=>h;have e:b7.inst es (b7.pat es (eL S i)) (λd=>(a.put o.dst v).tmps.getD d undef)=b7.inst es (b7.pat es S) (λd=>a.tmps.getD d undef):=by
   rw[qM,qM];exact List.map_congr_left λe m=>by rw[kv (ne (t e m).1),a6,lk (ne (t e m).2)]
  rw[e];exact a3),gH a6 hn,fW⟩
def Gh{S}{f f'}{q}{e}{u}(l:es[q]? =some e)(hu:f' e.d=u)(m:∀g a,g≠q->es[g]? =some a->a.i≠e.i/\f' a.d=f a.d):b7.inst es (b7.pat es (eL S e.i)) f'=(b7.inst es (b7.pat es S) f).set q (some u):=by
 rw[qM,qM];refine List.ext_getElem? λj=>?_;rw[List.getElem?_set,List.length_map,List.getElem?_map,List.getElem?_map];have o:=(List.getElem?_eq_some_iff.1 l).1;by_cases c:q=j
 ·subst c;rw[if_pos rfl,if_pos o,l];show some (if eL S e.i e.i=true then some (f' e.d) else none)=_;rw[wL,hu];rfl
 ·rw[if_neg c];cases hje:es[j]? with
  | none=>rfl
  | some a=>
   have:=m j a (λh=>c h.symm) hje;show some (if eL S e.i a.i=true then some (f' a.d) else none)=some (if S a.i=true then some (f a.d) else none);rw[kv this.1,this.2]
def cH.F7(q)(c){e}(T:es[q]? =some e)(G:e.i=i)(D:((es.take q++es.drop (q+1)).all λe'=>!Nat.beq e'.i i && !Nat.beq e'.d e.d)=true)(N:b7.fits L es i c=true)(Q:o.guard=none)(a6:o.dst=some e.d)(hn:Nat.blt e.d n)
  (h:qL c λp=>∀g f,ir P (gK g (b7.inst es p f)) (λnT v=>gK nT ((b7.inst es p f).set q (some v))) (aD (b7.kW es p f++env)) o x) (next:cH P (w0 gK es) L n (i+1) rest ((e.d,x)::env) K):cH P (w0 gK es) L n i (o::rest) env K:=
 ⟨x,λS l j C=>gI.of Q (λB I w r a R A s M=>by
  obtain⟨g,A⟩:=A;simp only[List.all_eq_true,Bool.and_eq_true,Bool.not_eq_true'] at D;have ne:∀{a b:Nat},Nat.beq a b=false->a≠b:=λh e=>by subst e;simp at h
  refine (h.at _ (b7.zc N l j C) g (λd=>a.tmps.getD d undef) B I w r a R A (Mf es _ s)).mono (λv U ⟨O,nT,bF,a2,a3,a4⟩=>⟨O,bF,a2,⟨nT,?_⟩,a4⟩) (λ_ _ h=>h);rw[<-G,Gh (S:=S) (f:=λd=>a.tmps.getD d undef) (f':=λd=>(a.put o.dst v).tmps.getD d undef) (u:=v) T (by rw[a6];exact px (M _ a6)) (λfq e' J t=>?_)]
  ·exact a3
  ·have m:e'∈es.take q++es.drop (q+1):=by
    rw[List.mem_append];rcases Nat.lt_or_gt_of_ne J with F | F
    ·exact .inl (List.mem_of_getElem? (i:=fq) (by rw[List.getElem?_take,if_pos F];exact t))
    ·exact .inr (List.mem_of_getElem? (i:=fq - (q+1)) (by rw[List.getElem?_drop,show q+1+(fq - (q+1))=fq by omega];exact t))
   refine⟨by rw[G];exact ne (D _ m).1,?_⟩;show (a.put o.dst v).tmps.getD e'.d undef=_;rw[a6];exact lk (ne (D _ m).2)),gH a6 hn,fW⟩
def ir.app{H}{ρ}{s z}{t e k c m}{cs}{news}{v}{y}{g1 x}{H':G->Value->aA}(g:G)[N:fF P t (e,k,c)]
  (h:o.op= .call {callee:=.builtin .append,args:=#[s,z],argTypes:=#[t,t]}) (E:aN ρ s=some (g1,.val v)) (f:g1=true) (J:aN ρ z=some (x,y)) (l:x=true) (hy:an y (.ai k news)) (j:news≠ [])
  (F:news.all dB=true) (hu:∀A,bG H (.row e k v m cs) (.row e k A (m+news.length) (cs++news.flatten)) (H' g A)) (K:(m+news.length)*c<=140737488355328) (q:m+news.length<=9223372036854775807):ir P H H' ρ o .any:=λB I w r a L C B=>
 (Cc h E f J l hy j F hu K q L C B).mono (λv O ⟨D,bF,a2,a3⟩=>⟨D,g,bF,a2,a3,.any _⟩) λ_ _ h=>h
end
def V1(v:Value)(jD:aA):ni:=λB I w ch w'=>ch= [{v:=v,recovered:=false}]/\∃J,bV B J w'/\Ext B I w J w'/\a7 B J w' jD
section
variable{c:Ctx}{r:Option Nat}{P:Program}{l:cc}{Q:Exit->Act->World->Prop}
end
section
variable{P:Program}{L rest:cc}{n i d q:Nat}{o:Oper}{env:List (Nat×ab)}{K:List (Nat×ab)->Prop}{x:ab}{H jD:aA}{X:ni}
end
section
variable{P:Program}{H:aA}{ρ:Nat->Option ab}{o:Oper}{x:ab}{G:Type}
end
section
variable{c:Ctx}{r:Option Nat}{P:Program}{st:dU}{Q:Exit->Act->World->Prop}
def aB.kX{p}{H'}(a:st.H=H')(h:aB c r P p ⟨st.env,H'⟩ Q):aB c r P p st Q:=.perm (.of_eq a) h
def aZ.kX{e}{H'}(a:st.H=H')(h:aZ c ⟨st.env,H'⟩ e Q):aZ c st e Q:=.perm (.of_eq a) h
end
section
variable{P:Program}{f:FuncId}{cz xs cs:bl}{H H1 jD:aA}{y pv:ab}{B:Nat}
def pP.cS(h:pP P f (cz++xs++cs) H (some (y,H1)) jD pv):eY B P (.fn (.func f) cz cs) xs H (λ_ a=>a=H1) (λ_ _=>False):=
 eY.fn (.rQ h.ok (λ_ _ e=>e.2) λ_ _ e=>e)
def pP.cY(h:pP P f (cz++xs++cs) H none jD pv):eY B P (.fn (.func f) cz cs) xs H (λ_ _=>False) (λy a=>y=pv/\a=jD):=
 eY.fn (.rQ (show bO P f _ H _ _ from h) (λ_ _ e=>by cases e) λ_ _ e=>e.2)
end
section
variable{P:Program}{r:Option Nat}{o:Oper}{H:aA}
def Mg{B}{I}{w}{a}{ρ}{s z}{t e k l n}{cs}{news}{v}{y}{g1 U}{H':Value->aA}[dZ:fF P t (e,k,l)]
  (h:o.op= .call {callee:=.builtin .append,args:=#[s,z],argTypes:=#[t,t]}) (X:aN ρ s=some (g1,.val v)) (f:g1=true) (V:aN ρ z=some (U,y)) (A:U=true) (hy:an y (.ai k news))
  (ae:news.all dB=true) (hu:∀Y,bG H (.row e k v n cs) (.row e k Y (n+news.length) (cs++news.flatten)) (H' Y)) (M:(n+news.length)*l<=140737488355328) (L:n+news.length<=9223372036854775807)
  (Z:bV B I w) (O:a7 B I w H) (D:fm I w ρ a o):dt P r o a w (λx F=>∃R,bV B R F/\Ext B I w R F/\a7 B R F (H' x)) (λ_ _=>False):=by
 by_cases j:news= []
 ·subst j;obtain⟨i,zv,q,aQ,a3,J,a0,bF,a2⟩:=oN dZ.h;have ur:=bX (D.get gB X f);have S:=hy _ _ _ (D.get gB V A);obtain⟨xs,c,K,N⟩:=O.ok _ (hu v).mem;obtain⟨us,aC,W⟩:=uD (P:=P) (tx:=t) q S aS;have G:us= []:=by cases aC;rfl
  subst G;rw[<-J] at W;have bd:∃Q m C,v= .slice Q m C/\m<=C:=by
   rcases c.2 with⟨rfl,_⟩ | ⟨g,cap,cur,rfl,_,_,a1,_⟩
   ·exact⟨none,0,0,rfl,Nat.le_refl _⟩
   ·exact⟨_,_,_,rfl,a1⟩
  obtain⟨Q,m,C,rfl,E⟩:=bd;have bH:=run_append_nothing (P:=P) w t t o.type e i q aQ Q m C E (a.eval z) W;refine dt.e3 cf (pD h a w uq) ⟨I,Z,Ext.refl _ _ _,(O.fE (hu _) ⟨λ_ _ x=>x,λ_ _ _=>rfl⟩ (λb _ _=>rfl) (λb o aK=>.inl aK) ⟨xs,by simpa using c,by simpa using K,N⟩ (λb M=>.inl M))⟩
 ·exact Cc h X f V A hy j ae hu M L Z O D
end
abbrev ti(e k:Nat)(H:aA)(hg j2:List bl)(d1 d2:Nat):Nat->Mem:=λj B a I w=>match j with
 | 0=>a7 B I w (.row e k (.slice none 0 0) 0 []::H)
 | 1=>a7 B I w (.row e k (a.tmps.getD d1 undef) hg.length hg.flatten::H)
 | _=>a7 B I w (.row e k (a.tmps.getD d2 undef) (hg++j2).length (hg++j2).flatten::H)
section
variable{c:Ctx}{r:Option Nat}{P:Program}{l:cc}{Q:Exit->Act->World->Prop}
def b0.V2{env}{H}(e k)(v s)(d1 d2 s1 s2)(hq m n)(hlen:∀x∈v++s,x.length=k)(hn:c.n=n)(kB:mz l hq m)(qJ:qI [s1,s2] hq m)(lq:Nat.ble hq m)(gO:Nat.ble m l.length)(mu:(l.all λo=>(looks l o).all λt=>Nat.blt t n)=true)
  (h:bj P (ti e k H v s d1 d2) l [s1,s2] c.n hq ((l.drop hq).take (m - hq)) env λenv=>b0 c r P l Q m ⟨(d2,.ai k (v++s))::env,H⟩):b0 c r P l Q hq ⟨env,H⟩:=
 .anyS (Hs:=ti e k H v s d1 d2) kB qJ (Nat.le_of_ble_eq_true lq) (Nat.le_of_ble_eq_true gO) qq (λB a I w aU=>aU.y4 (bn.F5 B I w e k) rfl) (h.mono λenv a6 a w I hO fO fi jH kZ l0=>by
  obtain⟨J,N,D,O,a4⟩:=a7.tf fi kZ hlen;exact a6 a w ⟨hO,fO,J,N,jH.trans D,O,Sat.qw (l0.bs D.keeps) a4⟩)
end
section
variable{P:Program}{L rest:cc}{ss:dq}{n i d:Nat}{o:Oper}{env:List (Nat×ab)}{K:List (Nat×ab)->Prop}{x:ab}{H:aA}{e k:Nat}{hg j2:List bl}{d1 d2:Nat}
def bj.oV(A:kY ss i=0)(C:o.guard=none)(a6:o.dst=some d)(hn:Nat.blt d n)(m:Nat.beq d d1=false)(q:Nat.beq d d2=false)(h:∀H,ad P H (aD env) o x)(next:bj P (ti e k H hg j2 d1 d2) L ss n (i+1) rest ((d,x)::env) K):bj P (ti e k H hg j2 d1 d2) L ss n i (o::rest) env K:=
 ⟨x,λj E D=>by
  rw[A];refine gI.of C λB I w r a s f g F=>?_;have z:∀v,(a.put o.dst v).tmps.getD d1 undef=a.tmps.getD d1 undef:=λv=>by rw[a6];exact lk (λe=>by subst e;simp at m)
  have t:∀v,(a.put o.dst v).tmps.getD d2 undef=a.tmps.getD d2 undef:=λv=>by rw[a6];exact lk (λe=>by subst e;simp at q)
  match j with
  | 0=>exact h _ B I w r a _ s f (λ_ h=>h) g
  | 1=>
   refine (h _ B I w r a _ s f (λ_ h=>h) g).mono (λv l ⟨c,bF,a2,a3,a4⟩=>⟨c,bF,a2,?_,a4⟩) λ_ _ h=>h;show a7 B c l (.row e k ((a.put o.dst v).tmps.getD d1 undef) hg.length hg.flatten::H);rw[z];exact a3
  | j+2=>
   refine (h _ B I w r a _ s f (λ_ h=>h) g).mono (λv l ⟨c,bF,a2,a3,a4⟩=>⟨c,bF,a2,?_,a4⟩) λ_ _ h=>h;show a7 B c l (.row e k ((a.put o.dst v).tmps.getD d2 undef) (hg++j2).length (hg++j2).flatten::H);rw[t];exact a3,gH a6 hn,fW⟩
def bj.V3{s z}{t c}{y}{g1 x}[R:fF P t (e,k,c)](S:pM L ss i=0)(E:kY ss i=1)(J:o.guard=none)(a6:o.dst=some d1)(hn:Nat.blt d1 n)
  (h:o.op= .call {callee:=.builtin .append,args:=#[s,z],argTypes:=#[t,t]}) (g:aN (aD env) s=some (g1,.val (.slice none 0 0))) (f:g1=true) (G:aN (aD env) z=some (x,y)) (l:x=true) (hy:an y (.ai k hg))
  (F:hg.all dB=true) (M:hg.length*c<=140737488355328) (O:hg.length<=9223372036854775807)
  (next:bj P (ti e k H hg j2 d1 d2) L ss n (i+1) rest ((d1,.any)::env) K):bj P (ti e k H hg j2 d1 d2) L ss n i (o::rest) env K:=
 ⟨.any,λj T Q=>by
  obtain rfl:j=0:=by omega
  rw[E];refine gI.of J λB I w r a N A C m=>(Mg (news:=hg) (H':=λv=>.row e k v hg.length hg.flatten::H) h g f G l hy F (λez=>by rw[Nat.zero_add];exact .head _ _ _) (by rw[Nat.zero_add];exact M) aa N A C).mono (λv D ⟨q,bF,a2,a3⟩=>⟨q,bF,a2,?_,.any _⟩) λ_ _ h=>h;show a7 B q D (.row e k ((a.put o.dst v).tmps.getD d1 undef) hg.length hg.flatten::H);rw[a6,px (m d1 a6)];exact a3,gH a6 hn,fW⟩
def bj.V4{s z}{t iN}{y}{g2}[dZ:fF P t (e,k,iN)](br:y6 L ss i=1)(aU:pM L ss i=1)(b6:kY ss i=1)(aw:o.guard=none)(a6:o.dst=some d2)(hn:Nat.blt d2 n)
  (h:o.op= .call {callee:=.builtin .append,args:=#[s,z],argTypes:=#[t,t]}) (ur:s= .tmp d1) (aH:∀Cg,aN (aD ((d1,.val Cg)::env)) z=some (g2,y)) (rT:g2=true) (hy:an y (.ai k j2))
  (ae:j2.all dB=true) (a8:(hg.length+j2.length)*iN<=140737488355328) (wD:hg.length+j2.length<=9223372036854775807)
  (next:bj P (ti e k H hg j2 d1 d2) L ss n (i+1) rest ((d2,.any)::env) K):bj P (ti e k H hg j2 d1 d2) L ss n i (o::rest) env K:=
 ⟨.any,λj hO fO=>by
  obtain rfl:j=1:=by omega
  rw[b6];refine gI.of aw λB I w r a hw hm bb lR=>?_;have lZ:fm I w (aD ((d1,.val (a.tmps.getD d1 undef))::env)) a o:=λx aK y hy=>by
   cases x with
   | tmp t=>
    simp only[iL] at hy;rw[kU] at hy;split at hy
    ·rename_i e;subst e;cases hy;exact .val _
    ·exact bb _ aK y hy
   | const v=>exact bb _ aK y hy
   | global g=>exact bb _ aK y hy
   | func f=>exact bb _ aK y hy
  refine (Mg (news:=j2) (v:=a.tmps.getD d1 undef) (g1:=true) (H':=λv=>.row e k v (hg++j2).length (hg++j2).flatten::H) h (by subst ur;simp[aN,iL,kU,strip]) rfl (aH _) rT hy ae (λez=>by rw[List.length_append,List.flatten_append];exact .head _ _ _) a8 wD hw hm lZ).mono (λv w' ⟨O,bF,a2,a3⟩=>⟨O,bF,a2,?_,.any _⟩) (λ_ _ h=>h);show a7 B O w' (.row e k ((a.put o.dst v).tmps.getD d2 undef) (hg++j2).length (hg++j2).flatten::H);rw[a6,px (lR d2 a6)];exact a3,gH a6 hn,fW⟩
end
def Gi(P:Program)(t:TypeId)(f:Nat):Option Nat:=
 match P.underlying t with
 | some (.struct cz)=>match cz[f]? with
  | some fd=>match nQ P fd.type with
   | some (false,_)=>some fd.offset
   | _=>none
  | none=>none
 | _=>none
class Mh (P:Program) (t f:Nat) (x:outParam Nat):Prop where h:Gi P t f=some x
section
variable{P:Program}{H:aA}{ρ:Nat->Option ab}{o:Oper}
def V5{t}{f off}(h:Gi P t f=some off)(cs)(v)(g:cs[off]? =some v)(w):(Instr.field t (.agg cs) f).run P w= .ok v w:=by
 unfold Gi at h;split at h
 ·rename_i m j;split at h
  ·rename_i o c;split at h
   ·rename_i n l;cases h;have a:=(wA l w).1;simp[Instr.field,Sem.run_bind,run_underlying j,Result.andThen_ok,c,asAgg,Sem.run_pure,part,a,g,Bool.false_eq_true,if_false]
   ·cases h
  ·cases h
 ·cases h
def ad.V6{t}{x}{f off}{cs}{y}{g}[B:Mh P t f off](h:o.op= .field t x f)(l:aN ρ x=some (g,.agg cs))(A:g=true)(hy:cs[off]? =some y):ad P H ρ o y:=by
 refine .same cf λI w a q=>?_;have j:=q.get cb l A;generalize r:a.eval x=u at j;cases j with
 | agg _ z m=>
  obtain⟨v,s,c⟩:=m.get hy;exact⟨v,by simp[execOp,h,r,V5 B.h z v (by simpa using s) w],c⟩
end
abbrev Mi(l:cc)(k m gq:Nat):Bool:=yV l k m (Nat.beq gq)
section
variable{c:Ctx}{r:Option Nat}{P:Program}{l:cc}{st:dU}{Q:Exit->Act->World->Prop}
def b0.V7{k m}{Hs}{ss}(v)(C:aD st.env v=some .any)(q:Mi l k m v)(A:qI ss k m)(z:k<=m)(E:m<=l.length)(D:(l.all λo=>(looks l o).all λt=>Nat.blt t c.n)=true){g}(W:∀a w I,fM I w (aD g) a->fM I w (aD st.env) a)(K:∀a w I,a7 c.B I w st.H->fM I w (aD g) a->Hs 0 c.B a I w)
  (h:bj P Hs l ss c.n k ((l.drop k).take (m - k)) st.env λenv=>aD env v=some .any/\∀a w I,a.defers=c.ds->a.tmps.size=c.n->bV c.B I w->Ext c.B c.c5 c.bW I w->Hs ss.length c.B a I w->fM I w (aD env) a->gp c r P l Q m a w):b0 c r P l Q k ⟨g,st.H⟩:=by
 obtain⟨j,F⟩:=LX A;intro a w s;obtain⟨I,Z,he,U,G⟩:=s.mem;have at_:∀{env:List (Nat×ab)},aD env v=some .any->∀t,Nat.beq v t=true->aD env t=some .any:=λh t Y=>by rw[<-Nat.eq_of_beq_eq_true Y];exact h
 refine gp.LM (M:=λS=>Hs (ss.countP S)) (at_ C) q z E D (λ_ _ _ _ _ _ _ _ _ h=>h.elim) (.mono (λenv ⟨V,a6⟩=>⟨at_ V,λa w I R J T L X O=>a6 a w I R J T L (by rwa [show ss.countP (λi=>Nat.blt i m)=ss.length from List.countP_eq_length.2 λs x=>LJ (j s x).2] at X) O⟩) (h.u F λs x=>by have:=(j s x).2;omega)) s.ds s.size Z he ?_ (W _ _ _ G);rw[show ss.countP (λi=>Nat.blt i k)=0 from List.countP_eq_zero.2 λs x N=>by have:=(j s x).1;have:=ta N;omega];exact K _ _ _ U G
end
abbrev tj(H:aA)(j3 mC:ab)(gq:Nat):Nat->Mem:=λj B a I w=>a7 B I w H/\match j with
 | 0=>Rel I w j3 (a.tmps.getD gq undef)
 | _=>Rel I w mC (a.tmps.getD gq undef)
section
variable{c:Ctx}{r:Option Nat}{P:Program}{l:cc}{Q:Exit->Act->World->Prop}
def b0.Mj{env}{H}{j3}(mC)(gq e)(k m n)(af:aD env gq=some j3)(hn:c.n=n)(kB:Mi l k m gq)(qJ:qI [e] k m)(lq:Nat.ble k m)(gO:Nat.ble m l.length)(mu:(l.all λo=>(looks l o).all λt=>Nat.blt t n)=true)
  (h:bj P (tj H j3 mC gq) l [e] c.n k ((l.drop k).take (m - k)) ((gq,.any)::env) λenv=>aD env gq=some .any/\b0 c r P l Q m ⟨(gq,mC)::env,H⟩):b0 c r P l Q k ⟨env,H⟩:=by
 refine .V7 (Hs:=tj H j3 mC gq) (st:=⟨(gq,.any)::env,H⟩) gq (by simp[kU]) kB qJ (Nat.le_of_ble_eq_true lq) (Nat.le_of_ble_eq_true gO) qq (λa w I bd=>Sat.qw bd (.any _)) (λa w I aU bd=>⟨aU,bd gq j3 af⟩) (h.mono λs7 a6=>⟨a6.1,λa w I hO fO fi jH kZ l0=>a6.2 a w ⟨hO,fO,I,fi,jH,kZ.1,Sat.qw l0 kZ.2⟩⟩)
end
section
variable{P:Program}{L rest:cc}{n i d e:Nat}{o:Oper}{env:List (Nat×ab)}{K:List (Nat×ab)->Prop}{x:ab}{H:aA}{j3 mC:ab}{gq:Nat}
def Mk{I}{w}{a}{o}{env}{d}{y}(bb:fm I w (aD env) a o)(h:Rel I w y (a.tmps.getD d undef)):fm I w (aD ((d,y)::env)) a o:=λz aH u hu=>by
 cases z with
 | tmp t=>
  simp[iL] at hu;rw[kU] at hu;split at hu
  ·rename_i e;subst e;cases hu;exact h
  ·exact bb _ aH u hu
 | const v=>exact bb _ aH u hu
 | global g=>exact bb _ aH u hu
 | func f=>exact bb _ aH u hu
def bj.zd(A:pM L [e] i=0)(q:kY [e] i=0)(s:o.guard=none)(a6:o.dst=some d)(hn:Nat.blt d n)(f:Nat.beq d gq=false)(h:ad P H (aD ((gq,j3)::env)) o x)(next:bj P (tj H j3 mC gq) L [e] n (i+1) rest ((d,x)::env) K):bj P (tj H j3 mC gq) L [e] n i (o::rest) env K:=
 ⟨x,λj C z=>by
  obtain rfl:j=0:=by omega
  rw[q];refine gI.of s λB I w r a t c l D=>(h B I w r a _ t c.1 (λ_ h=>h) (Mk l c.2)).mono (λv m ⟨g,bF,a2,a3,a4⟩=>⟨g,bF,a2,⟨a3,?_⟩,a4⟩) λ_ _ h=>h;show Rel g m j3 ((a.put o.dst v).tmps.getD gq undef);rw[a6,lk (λe=>by subst e;simp at f)];exact c.2.bs a2.keeps,gH a6 hn,fW⟩
def bj.ze(q:kY [e] i=0)(s:o.guard=none)(a6:o.dst=some d)(hn:Nat.blt d n)(g:Nat.beq d gq=false)(h:ad P H (aD env) o x)(next:bj P (tj H j3 mC gq) L [e] n (i+1) rest ((d,x)::env) K):bj P (tj H j3 mC gq) L [e] n i (o::rest) env K:=
 ⟨x,λj A z=>by
  rw[q];refine gI.of s λB I w r a t c m C=>(h B I w r a _ t c.1 (λ_ h=>h) m).mono (λv l ⟨f,bF,a2,a3,a4⟩=>⟨f,bF,a2,⟨a3,?_⟩,a4⟩) λ_ _ h=>h;have e:(a.put o.dst v).tmps.getD gq undef=a.tmps.getD gq undef:=by rw[a6];exact lk (λe=>by subst e;simp at g)
  match j with
  | 0=>show Rel f l j3 _;rw[e];exact .bs a2.keeps c.2
  | j+1=>show Rel f l mC _;rw[e];exact .bs a2.keeps c.2,gH a6 hn,fW⟩
def bj.Ml(z:pM L [e] i=0)(m:kY [e] i=1)(s:o.guard=none)(a6:o.dst=some gq)(hn:Nat.blt gq n)(h:ad P H (aD env) o mC)(next:bj P (tj H j3 mC gq) L [e] n (i+1) rest ((gq,.any)::env) K):bj P (tj H j3 mC gq) L [e] n i (o::rest) env K:=
 ⟨.any,λj A x=>by
  obtain rfl:j=0:=by omega
  rw[m];refine gI.of s λB I w r a t f g q=>(h B I w r a _ t f.1 (λ_ h=>h) g).mono (λv l ⟨c,bF,a2,a3,a4⟩=>⟨c,bF,a2,⟨a3,?_⟩,.any _⟩) λ_ _ h=>h;show Rel c l mC ((a.put o.dst v).tmps.getD gq undef);rw[a6,px (q gq a6)];exact a4,gH a6 hn,fW⟩
end
def V8{P}{t e}{n k}{o}(g:P.underlying t=some (.slice e))(s:yw P t=some (k,o))(a)(us)(v:n*k<=16777216)(q:0<n*k)
  (h:Instr.fill (λi=>some (i*k,k)) (mv n k o).toArray a.toList=some us) (w):
  (Instr.buildSlice t n a).run P w= .ok (.slice (some ⟨w.heap.size,0,none⟩) n n) (w.alloc (.cells us e)):=by
 obtain⟨x,i,z,r,C,A,l,m⟩:=Fo s;obtain rfl:x=e:=by rw[r] at g;cases g;rfl
 have f: ¬n*i.size>2^24:=by rw[l];omega
 have c: ¬n*i.size=0:=by rw[l];omega
 have B:Instr.fill (λj=>some (j*i.size,i.size)) ((Array.range (n*i.size)).map (z.cells[· %z.cells.size]!)) a.toList=some us:=?_
 ·simp[Instr.buildSlice,run_underlying r,sizeOf,typeInfo,zeroValue,C,A,f,c,B,newRow]
 rw[l, <-h];congr 1;apply Array.ext';simp only[mv,Array.toList_map,Array.toList_range, <-m];refine List.map_congr_left λj _=>?_;simp[Array.getElem!_eq_getD,Array.getD_eq_getD_getElem?,List.getD_eq_getElem?_getD]
section
variable{c:Ctx}{r:Option Nat}{P:Program}{ops:Array Oper}{l rest:cc}{o:Oper}{env:List (Nat×ab)}{H:aA}{Q:Exit->Act->World->Prop}{d:Nat}
def Mm{ρ:Nat->Option ab}{t e iN:Nat}{n k:Nat}{bZ:Array (Nat×Operand)}{fY:dg}{ys:List (Bool×ab)}{els:List bl}[dZ:fF P t (e,k,iN)][hR:jY P t (k,fY)](h:o.op= .buildSlice t n bZ)
  (hy:jg ρ (bZ.toList.map (·.2))=some ys) (aw:ys.all (·.1)=true) (Mn:(partsOf bZ.toList ys).map (λx=>cG x.2)=els) (hlen:Nat.beq els.length n) (bD:els.all (λe=>Nat.beq e.length k)=true)
  (nj:Nat.ble (n*k) 16777216) (qN:Nat.blt 0 (n*k))
  (b8:nS (λi=>some (i*k,k)) ((mv n k fY).map .val) (partsOf bZ.toList ys)=some els.flatten)
  {B:Nat} {I:cp} {w:World} {r:Option Nat} {a:Act} (hw:bV B I w) (aU:a7 B I w H) (bb:fm I w ρ a o):
  dt P r o a w (λv w'=>∃c3,bV B c3 w'/\Ext B I w c3 w'/\a7 B c3 w' (.own e k v::H)/\Rel c3 w' (.as (.ai k els) v) v) (λ_ _=>False):=by
 obtain⟨bM,bL⟩:=Fm bb bZ cb hy aw;obtain⟨us,ae,ao⟩:=BN _ _ ((mv n k fY).map .val) (mv n k fY).toArray els.flatten (by simpa using lj _) bM bL b8;have nj:=Nat.le_of_ble_eq_true nj;have qN:0<n*k:=Nat.le_of_ble_eq_true qN;obtain⟨i,z,hu,aQ,aH,r0,wh,s5,Cm⟩:=oN dZ.h;have uo:=V8 hu hR.h (bZ.map λ(i,x)=>(i,a.eval x)) us nj qN ae w;obtain⟨bF,a2,a3,a4⟩:=cp.uu hw e us;have Mo:=Nat.eq_of_beq_eq_true hlen;have akc:n<=n*k:=by
  rcases Nat.eq_zero_or_pos k with rfl | V9
  ·simp at qN
  ·exact Nat.le_mul_of_pos_right n V9
 have sT:∀x∈els,x.length=k:=λx aK=>Nat.eq_of_beq_eq_true (List.all_eq_true.1 bD x aK);have ks:us.size=n*k:=by
  have:=ao.length;rw[pE sT,Mo] at this;simpa using this
 have rN:(w.alloc (.cells us e)).ownsRow B e k (.slice (some ⟨w.heap.size,0,none⟩) n n) n us.toList:=⟨by simpa using ks,.inr ⟨w.heap.size,n,us,rfl,hw.base,heap_alloc_new w _,Nat.le_refl _,h5,ks,by rw[<-ks, <-Array.length_toList];exact List.take_length⟩⟩;have aV:=a3 _ aU;refine dt.e3 cf (v:=.slice (some ⟨w.heap.size,0,none⟩) n n) (w':=w.alloc (.cells us e)) yj ⟨_,bF,a2,⟨λf b8=>?_,List.pairwise_cons.2 ⟨λf b8 b a8 e=>?_,aV.apart⟩⟩,?_⟩
 ·rcases List.mem_cons.1 b8 with rfl | b8
  ·refine⟨n,us.toList,rN,λg aw o akd bb=>?_⟩;simp[Value.ownBlock] at aw;subst aw;rcases bb with bb | ⟨_,bb⟩
   ·exact absurd (hw.lt bb) (Nat.lt_irrefl _)
   ·omega
  ·exact aV.ok f b8
 ·simp[bn.dY,Value.ownBlock] at a8;subst a8;exact absurd (bn.lO (aU.ok f b8) e).2 (Nat.lt_irrefl _)
 ·refine .as _ _ (.ai _ _ _ _ _ _ Mo (Nat.le_refl _) h5 ?_);exact nc els 0 sT (a4 _ ao)
def aj.uS{t e iN:Nat}{n k:Nat}{bZ:Array (Nat×Operand)}{fY:dg}{ys:List (Bool×ab)}{els:List bl}[dZ:fF P t (e,k,iN)][hR:jY P t (k,fY)](lT:o.guard=none)(a6:o.dst=some d)(hn:Nat.blt d c.n)(h:o.op= .buildSlice t n bZ)
  (hy:jg (aD env) (bZ.toList.map (·.2))=some ys) (aw:ys.all (·.1)=true) (Mn:(partsOf bZ.toList ys).map (λx=>cG x.2)=els) (hlen:Nat.beq els.length n) (bD:els.all (λe=>Nat.beq e.length k)=true)
  (nj:Nat.ble (n*k) 16777216) (qN:Nat.blt 0 (n*k))
  (b8:nS (λi=>some (i*k,k)) ((mv n k fY).map .val) (partsOf bZ.toList ys)=some els.flatten)
  (next:∀v,aj c r P ops rest ⟨(d,.as (.ai k els) v)::env,.own e k v::H⟩ Q):aj c r P ops (o::rest) ⟨env,H⟩ Q:=by
 intro a w s;refine wpListIn_plain lT λK eX=>?_;obtain⟨I,hw,he,aU,bd⟩:=s.mem;refine (Mm h hy aw Mn hlen bD nj qN b8 hw aU (bd.ops o)) K Q ?_ (λ_ _ h=>h.elim);rintro v w' ⟨c3,bL,fh,oO,s6⟩;refine eX _ _ (next v _ _ ⟨iJ,iI,c3,bL,he.trans fh,oO,?_⟩);have:=(bd.bs fh.keeps).put (dst:=some d) oI s6;rw[a6];exact this
end
abbrev w1(H:aA)(bM gr bL cv d1 d2:Nat):Nat->Mem:=λj B a I w=>match j with
 | 0=>a7 B I w H
 | 1=>a7 B I w (.own bM gr (a.tmps.getD d1 undef)::H)
 | _=>a7 B I w (.own bL cv (a.tmps.getD d2 undef)::.own bM gr (a.tmps.getD d1 undef)::H)
def qO(P:Program)(f:FuncId)(xs:bl)(e k:Nat)(y:ab):Prop:=∀H,bO P f xs H (λx H'=>∃v,x= .as y v/\H'= .own e k v::H) (λ_ _=>False)
section
variable{c:Ctx}{r:Option Nat}{P:Program}{l:cc}{Q:Exit->Act->World->Prop}
def b0.Wa{env}{H}(q gr)(y1)(d1 s1)(hq m n)(hn:c.n=n)(kB:mz l hq m)(qJ:qI [s1] hq m)(lq:Nat.ble hq m)(gO:Nat.ble m l.length)(mu:(l.all λo=>(looks l o).all λt=>Nat.blt t n)=true)
  (h:bj P (w1 H q gr q gr d1 d1) l [s1] c.n hq ((l.drop hq).take (m - hq)) env λenv=>aD env d1=some y1/\∀Mp,b0 c r P l Q m ⟨(d1,.as y1 Mp)::env,.own q gr Mp::H⟩):b0 c r P l Q hq ⟨env,H⟩:=
 .anyS (Hs:=w1 H q gr q gr d1 d1) kB qJ (Nat.le_of_ble_eq_true lq) (Nat.le_of_ble_eq_true gO) qq (λB a I w aU=>aU) (h.mono λenv ⟨g1,a6⟩ a w I hO fO fi jH kZ l0=>
  a6 (a.tmps.getD d1 undef) a w ⟨hO,fO,I,fi,jH,kZ,Sat.qw l0 (.as _ _ (l0 _ _ g1))⟩)
end
section
variable{P:Program}{L rest:cc}{ss:dq}{n i d:Nat}{o:Oper}{env:List (Nat×ab)}{K:List (Nat×ab)->Prop}{x:ab}{H:aA}{bM gr bL cv d1 d2:Nat}
def qO.runs{f}{xs}{e k}{y}{ρ}(a1:gD P ρ o f xs)(h:qO P f xs e k y)(H){B}{I}{w}{r}{a}(hw:bV B I w)(aU:a7 B I w H)(bb:fm I w ρ a o):
  dt P r o a w (λv w'=>∃g,bV B g w'/\Ext B I w g w'/\a7 B g w' (.own e k v::H)/\Rel g w' y v) (λ_ _=>False):=by
 obtain⟨vs,ae,ao⟩:=a1.run I w a bb;obtain⟨hL,nW⟩:=h H;refine .qu a1.rO (ao hL) ((nW B I w vs hw aU ae).mono λe w' bH=>?_);obtain⟨g,L,n3,wQ,yZ,bH⟩:=bH;rcases bH with⟨v,x,rfl,aK,u,rfl,rfl⟩ | ⟨v,x,rfl,_,jX⟩
 ·cases aK with
  | as _ _ aK=>exact⟨g,n3,wQ,yZ,aK⟩
 ·exact jX.elim
def bj.qP(z:kY ss i=0)(A:o.guard=none)(a6:o.dst=some d)(hn:Nat.blt d n)(m:Nat.beq d d1=false)(q:Nat.beq d d2=false)(h:∀H,ad P H (aD env) o x)(next:bj P (w1 H bM gr bL cv d1 d2) L ss n (i+1) rest ((d,x)::env) K):bj P (w1 H bM gr bL cv d1 d2) L ss n i (o::rest) env K:=
 ⟨x,λj E D=>by
  rw[z];refine gI.of A λB I w r a s f g F=>?_;have t:∀v,(a.put o.dst v).tmps.getD d1 undef=a.tmps.getD d1 undef:=λv=>by rw[a6];exact lk (λe=>by subst e;simp at m)
  have C:∀v,(a.put o.dst v).tmps.getD d2 undef=a.tmps.getD d2 undef:=λv=>by rw[a6];exact lk (λe=>by subst e;simp at q)
  match j with
  | 0=>exact h _ B I w r a _ s f (λ_ h=>h) g
  | 1=>
   refine (h _ B I w r a _ s f (λ_ h=>h) g).mono (λv l ⟨c,bF,a2,a3,a4⟩=>⟨c,bF,a2,?_,a4⟩) λ_ _ h=>h;show a7 B c l (.own bM gr ((a.put o.dst v).tmps.getD d1 undef)::H);rw[t];exact a3
  | j+2=>
   refine (h _ B I w r a _ s f (λ_ h=>h) g).mono (λv l ⟨c,bF,a2,a3,a4⟩=>⟨c,bF,a2,?_,a4⟩) λ_ _ h=>h;show a7 B c l (.own bL cv ((a.put o.dst v).tmps.getD d2 undef)::.own bM gr ((a.put o.dst v).tmps.getD d1 undef)::H);rw[t,C];exact a3,gH a6 hn,fW⟩
def bj.Wb{f}{xs}{y}(C:pM L ss i=0)(t:kY ss i=1)(x:o.guard=none)(a6:o.dst=some d1)(hn:Nat.blt d1 n)(m:gD P (aD env) o f xs)(h:qO P f xs bM gr y)
  (next:bj P (w1 H bM gr bL cv d1 d2) L ss n (i+1) rest ((d1,y)::env) K):bj P (w1 H bM gr bL cv d1 d2) L ss n i (o::rest) env K:=
 ⟨y,λj D A=>by
  obtain rfl:j=0:=by omega
  rw[t];refine gI.of x λB I w r a z l q c=>(h.runs m _ z l q).mono (λv s ⟨g,bF,a2,a3,a4⟩=>⟨g,bF,a2,?_,a4⟩) λ_ _ h=>h;show a7 B g s (.own bM gr ((a.put o.dst v).tmps.getD d1 undef)::H);rw[a6,px (c d1 a6)];exact a3,gH a6 hn,fW⟩
end
def w2:Value->Nat
 | .pointer (some a)=>a.block
 | _=>0
inductive Gj where
 | own (i d e k:Nat) (y:ab)
 | rP (i d:Nat) (t:TypeId) (fY:List Value)
def Gj.cq:Gj->Value->bn
 | .own _ _ e k _,v=>.own e k v
 | .rP _ _ t fY,v=>.au (w2 v) t (fY.map .val)
structure Wc where
 i:Nat
 d:Nat
 ds:dq
 x:dg->ab
section
variable{c:Ctx}{r:Option Nat}{P:Program}{l:cc}{Q:Exit->Act->World->Prop}
end
section
variable{P:Program}{L rest:cc}{es:List Gj}{ls:List Wc}{n i d:Nat}{o:Oper}{env:List (Nat×ab)}{K:List (Nat×ab)->Prop}{x:ab}{H:aA}
end
abbrev tk:=List (Option Value)
def kD(xs:Nat->tk->ab)(J:tk):Nat->List b7->cW->List (Nat×ab)
 | q,e::es,true::p=>(e.d,xs q J)::kD xs J (q+1) es p
 | q,_::es,false::p=>kD xs J (q+1) es p
 | _,_,_=>[]
def qQ(gK:tk->aA)(xs:Nat->tk->ab)(es:List b7)(S:Nat->Bool):Mem:=λB a I w=>
 a7 B I w (gK (b7.inst es (b7.pat es S) λd=>a.tmps.getD d undef))/\∀q e,es[q]? =some e->S e.i=true->Rel I w (xs q (b7.inst es (b7.pat es S) λd=>a.tmps.getD d undef)) (a.tmps.getD e.d undef)
theorem Cn{xs}{J}{env}{t}{y}{S}:∀(a:List b7) (q:Nat),aD (kD xs J q a (b7.pat a S)++env) t=some y->(∃j e,a[j]? =some e/\S e.i=true/\e.d=t/\y=xs (q+j) J)\/aD env t=some y
 | [],q,h=>.inr h
 | e::a,q,h=>by
  simp[b7.pat,List.map_cons] at h;cases a8:S e.i with
  | true=>
   rw[a8] at h;simp[kD,List.cons_append,kU] at h;split at h
   ·rename_i c;cases h;exact .inl ⟨0,e,rfl,a8,c.symm,rfl⟩
   ·rcases Cn a (q+1) h with⟨j,e',ae,ao,aV,bu⟩ | h
    ·exact .inl ⟨j+1,e',ae,ao,aV,by rw[bu,show q+1+j=q+(j+1) by omega]⟩
    ·exact .inr h
  | false=>
   rw[a8] at h;rcases Cn a (q+1) h with⟨j,e',ae,ao,aV,bu⟩ | h
   ·exact .inl ⟨j+1,e',ae,ao,aV,by rw[bu,show q+1+j=q+(j+1) by omega]⟩
   ·exact .inr h
def Gk{I}{w}{a}{o}{env}{xs}{J}{S}{es}(bD:∀q e,es[q]? =some e->S e.i=true->Rel I w (xs q J) (a.tmps.getD e.d undef))(h:fm I w (aD env) a o):
  fm I w (aD (kD xs J 0 es (b7.pat es S)++env)) a o:=λx aK y hy=>by
 cases x with
 | tmp u=>
  simp[iL] at hy;rcases Cn es 0 hy with⟨j,e,ae,ao,aV,bu⟩ | hy
  ·have:=bD j e ae ao;rw[Nat.zero_add] at bu;rw[bu, <-aV];exact this
  ·exact h _ aK y hy
 | const v=>exact h _ aK y hy
 | global g=>exact h _ aK y hy
 | func f=>exact h _ aK y hy
def ed(X:ni)(P:Program)(H:aA)(H':Value->aA)(x:Value->ab)(ρ:Nat->Option ab)(o:Oper):Prop:=∀(B:Nat) (I:cp) (w:World) (r:Option Nat) (a:Act),bV B I w->a7 B I w H->fm I w ρ a o->
 dt P r o a w (λv w'=>∃c3,bV B c3 w'/\Ext B I w c3 w'/\a7 B c3 w' (H' v)/\Rel c3 w' (x v) v) (X B I w)
section
variable{c:Ctx}{r:Option Nat}{P:Program}{l:cc}{Q:Exit->Act->World->Prop}{X:ni}
def b0.r5{env}{H}(es)(z)(xs)(k m n)(hn:c.n=n)(kB:mz l k m)(pQ:(es.all λe=>Nat.ble k e.i && Nat.blt e.i m)=true)(lq:Nat.ble k m)(gO:Nat.ble m l.length)(mu:(l.all λo=>(looks l o).all λt=>Nat.blt t n)=true)
  (af:z (es.map λ_=>none)=H)
  (oP:∀(I:cp) (w:World) (a:Act) ch w',a.defers=c.ds->a.tmps.size=c.n->bV c.B I w->Ext c.B c.c5 c.bW I w->X c.B I w ch w'->Q (.panic ch) a w')
  (h:jE X P (qQ z xs es) l c.n k ((l.drop k).take (m - k)) env λenv=>∀(f:Nat->Value),b0 c r P l Q m ⟨kD xs (es.map λe=>some (f e.d)) 0 es (es.map λ_=>true)++env,z (es.map λe=>some (f e.d))⟩):b0 c r P l Q k ⟨env,H⟩:=by
 simp only[List.all_eq_true,Bool.and_eq_true] at pQ;have au:∀i,Nat.ble k i=true->Nat.blt i k=false:=λi aQ=>by
  have ae:=Nat.le_of_ble_eq_true aQ;rw[Bool.eq_false_iff];intro a8;have:=Nat.lt_of_succ_le BA;omega
 refine b0.LS (M:=qQ z xs es) kB (Nat.le_of_ble_eq_true lq) (Nat.le_of_ble_eq_true gO) qq (λB a I w aU=>⟨?_,λq e he b6=>?_⟩) oP (h.mono λenv a6 a w I hO fO fi jH kZ l0=>?_)
 ·have e:b7.inst es (b7.pat es λi=>Nat.blt i k) (λd=>a.tmps.getD d undef)=es.map λ_=>none:=by
   rw[qM];exact List.map_congr_left λe he=>by rw[au _ (pQ e he).1];rfl
  rw[e,af];exact aU
 ·have aV:Nat.blt e.i k=true:=b6;rw[au _ (pQ e (List.mem_of_getElem? he)).1] at aV;cases aV
 ·obtain⟨aU,bH⟩:=kZ;have e:b7.inst es (b7.pat es λi=>Nat.blt i m) (λd=>a.tmps.getD d undef)=es.map λe=>some (a.tmps.getD e.d undef):=by
   rw[qM];exact List.map_congr_left λe he=>by rw[(pQ e he).2];rfl
  have T:b7.pat es (λi=>Nat.blt i m)=es.map λ_=>true:=List.map_congr_left λe he=>(pQ e he).2;rw[e] at aU bH;refine a6 (λd=>a.tmps.getD d undef) a w ⟨hO,fO,I,fi,jH,aU,λt y hy=>?_⟩;rw[<-T] at hy;rcases Cn es 0 hy with⟨j,e',ae,ao,aV,bu⟩ | hy
  ·have:=bH j e' ae ao;rw[Nat.zero_add] at bu;rw[bu, <-aV];exact this
  ·exact l0 t y hy
end
section
variable{P:Program}{L rest:cc}{es:List b7}{n i d:Nat}{o:Oper}{env:List (Nat×ab)}{K:List (Nat×ab)->Prop}{x:ab}{gK:tk->aA}{xs:Nat->tk->ab}{X:ni}
def cH.Wd(c)(t:(es.all λe=>!Nat.beq e.i i && !Nat.beq e.d d)=true)(J:b7.fits L es i c=true)(H:o.guard=none)(a6:o.dst=some d)(hn:Nat.blt d n)
  (h:qL c λp=>∀f,ad P (gK (b7.inst es p f)) (aD (kD xs (b7.inst es p f) 0 es p++env)) o x) (next:jE X P (qQ gK xs es) L n (i+1) rest ((d,x)::env) K):jE X P (qQ gK xs es) L n i (o::rest) env K:=
 ⟨x,λS g j C=>gI.of H (λB I w r a M A F O=>by
  obtain⟨A,D⟩:=A;simp[List.all_eq_true,Bool.and_eq_true,Bool.not_eq_true'] at t;have ne:∀{a b:Nat},Nat.beq a b=false->a≠b:=λh e=>by subst e;simp at h
  refine (h.at _ (b7.zc J g j C) (λd=>a.tmps.getD d undef) B I w r a _ M A (λe z=>z) (Gk D F)).mono (λv N ⟨G,bF,a2,a3,a4⟩=>⟨G,bF,a2,?_,a4⟩) λ_ _ h=>h.elim;have e:b7.inst es (b7.pat es (eL S i)) (λd=>(a.put o.dst v).tmps.getD d undef)=b7.inst es (b7.pat es S) (λd=>a.tmps.getD d undef):=by
   rw[qM,qM];exact List.map_congr_left λe z=>by rw[kv (ne (t e z).1),a6,lk (ne (t e z).2)]
  refine⟨by rw[e];exact a3,λq l m E=>?_⟩;have s:=List.mem_of_getElem? m;rw[e,show (a.put o.dst v).tmps.getD l.d undef=a.tmps.getD l.d undef by rw[a6,lk (ne (t l s).2)]];rw[kv (ne (t l s).1)] at E;exact (D q l m E).bs a2.keeps),gH a6 hn,fW⟩
def cH.j4(q)(l){e}(Q:es[q]? =some e)(O:e.i=i)(F:((es.take q++es.drop (q+1)).all λe'=>!Nat.beq e'.i i && !Nat.beq e'.d e.d)=true)(U:b7.fits L es i l=true)(Z:o.guard=none)(a6:o.dst=some e.d)(hn:Nat.blt e.d n)
  (h:qL l λp=>∀f,ed X P (gK (b7.inst es p f)) (λv=>gK ((b7.inst es p f).set q (some v))) (λv=>xs q ((b7.inst es p f).set q (some v))) (aD (kD xs (b7.inst es p f) 0 es p++env)) o/\∀v fq,p[fq]? =some true->xs fq ((b7.inst es p f).set q (some v))=xs fq (b7.inst es p f))
  (next:jE X P (qQ gK xs es) L n (i+1) rest ((e.d,.any)::env) K):jE X P (qQ gK xs es) L n i (o::rest) env K:=
 ⟨.any,λS z x J=>gI.of Z (λB I w r a hw E A T=>by
  obtain⟨E,M⟩:=E;simp only[List.all_eq_true,Bool.and_eq_true,Bool.not_eq_true'] at F;have ne:∀{a b:Nat},Nat.beq a b=false->a≠b:=λh e=>by subst e;simp at h
  obtain⟨R,G⟩:=h.at _ (b7.zc U z x J) λd=>a.tmps.getD d undef;refine (R B I w r a hw E (Gk M A)).mono (λv w' ⟨Y,bF,a2,a3,a4⟩=>⟨Y,bF,a2,?_,.any _⟩) λ_ _ h=>h;have s:∀fq e',fq≠q->es[fq]? =some e'->e'.i≠e.i/\(a.put o.dst v).tmps.getD e'.d undef=a.tmps.getD e'.d undef:=λfq e' D c=>by
   have C:e'∈es.take q++es.drop (q+1):=by
    rw[List.mem_append];rcases Nat.lt_or_gt_of_ne D with N | N
    ·exact .inl (List.mem_of_getElem? (i:=fq) (by rw[List.getElem?_take,if_pos N];exact c))
    ·exact .inr (List.mem_of_getElem? (i:=fq - (q+1)) (by rw[List.getElem?_drop,show q+1+(fq - (q+1))=fq by omega];exact c))
   refine⟨by rw[O];exact ne (F _ C).1,?_⟩;rw[a6];exact lk (ne (F _ C).2)
  have m:(a.put o.dst v).tmps.getD e.d undef=v:=by rw[a6];exact px (T _ a6)
  have t:=Gh (es:=es) (S:=S) (f:=λd=>a.tmps.getD d undef) (f':=λd=>(a.put o.dst v).tmps.getD d undef) (u:=v) Q m s;rw[<-O];refine⟨by rw[t];exact a3,λfq e' c H=>?_⟩;rw[t];by_cases D:fq=q
  ·subst D;rw[Q] at c;cases c;rw[m];exact a4
  ·obtain⟨W,V⟩:=s fq e' D c;rw[kv W] at H;rw[V,G v fq (by rw[b7.pat,List.getElem?_map,c];exact congrArg some H)];exact (M fq e' c H).bs a2.keeps),gH a6 hn,fW⟩
def cH.Mq(q)(l){e}(he:es[q]? =some e)(O:e.i=i)(J:((es.take q++es.drop (q+1)).all λe'=>!Nat.beq e'.i i)=true)(U:b7.fits L es i l=true)(Z:o.guard=none)(a6:o.dst=none)
  (h:qL l λp=>∀f u,(ed X P (gK (b7.inst es p f)) (λ_=>gK ((b7.inst es p f).set q (some u))) (λ_=>.any) (aD (kD xs (b7.inst es p f) 0 es p++env)) o/\xs q ((b7.inst es p f).set q (some u))= .any)/\∀fq,p[fq]? =some true->xs fq ((b7.inst es p f).set q (some u))=xs fq (b7.inst es p f))
  (next:jE X P (qQ gK xs es) L n (i+1) rest env K):jE X P (qQ gK xs es) L n i (o::rest) env K:=
 ⟨.any,λS z x H=>gI.of Z (λB I w r a T D A aH=>by
  obtain⟨D,M⟩:=D;simp only[List.all_eq_true,Bool.not_eq_true'] at J;have ne:∀{a b:Nat},Nat.beq a b=false->a≠b:=λh e=>by subst e;simp at h
  obtain⟨⟨R,Q⟩,E⟩:=h.at _ (b7.zc U z x H) (λd=>a.tmps.getD d undef) (a.tmps.getD e.d undef);refine (R B I w r a T D (Gk M A)).mono (λv w' ⟨Y,bF,a2,a3,a4⟩=>⟨Y,bF,a2,?_,.any _⟩) (λ_ _ h=>h);have m:a.put o.dst v=a:=by rw[a6];rfl
  have s:∀fq e',fq≠q->es[fq]? =some e'->e'.i≠e.i/\(a.put o.dst v).tmps.getD e'.d undef=a.tmps.getD e'.d undef:=λfq e' C g=>by
   have F:e'∈es.take q++es.drop (q+1):=by
    rw[List.mem_append];rcases Nat.lt_or_gt_of_ne C with N | N
    ·exact .inl (List.mem_of_getElem? (i:=fq) (by rw[List.getElem?_take,if_pos N];exact g))
    ·exact .inr (List.mem_of_getElem? (i:=fq - (q+1)) (by rw[List.getElem?_drop,show q+1+(fq - (q+1))=fq by omega];exact g))
   exact⟨by rw[O];exact ne (J _ F),by rw[m]⟩
  have t:=Gh (es:=es) (S:=S) (f:=λd=>a.tmps.getD d undef) (f':=λd=>(a.put o.dst v).tmps.getD d undef) (u:=a.tmps.getD e.d undef) he (by rw[m]) s;rw[<-O];refine⟨by rw[t];exact a3,λfq e' g G=>?_⟩;rw[t];by_cases C:fq=q
  ·subst C;rw[Q];exact .any _
  ·obtain⟨W,V⟩:=s fq e' C g;rw[kv W] at G;rw[V,E fq (by rw[b7.pat,List.getElem?_map,g];exact congrArg some G)];exact (M fq e' g G).bs a2.keeps),by rw[a6];rfl,fW⟩
end
section
variable{P:Program}{H:aA}{ρ:Nat->Option ab}{o:Oper}{X:ni}
def ed.oP{f}{ys}{q}{s}{m}{H'}{x}(l:gD P ρ o f ys)(h:pP P f ys H none q s)(C:s.Const m):ed (V1 m q) P H H' x ρ o:=λB I w r a J A z=>by
 obtain⟨D,F,v⟩:=l.run I w a z;obtain⟨j,c⟩:=h;refine .qu l.rO (v j) ((c B I w D J A F).mono λe M g=>?_);obtain⟨E,L,G,K,t,g⟩:=g;rcases g with⟨ez,x',rfl,_,e⟩ | ⟨ez,x',rfl,aK,_,rfl,rfl⟩
 ·cases e
 ·rw[C.is _ _ _ aK];exact⟨rfl,E,G,K,t⟩
def ed.pop{y}{H'}{x}(h:ad P H ρ o y)(l:∀v,H' v=H)(f:∀v,x v=y):ed X P H H' x ρ o:=λB I w r a c j g=>
 (h B I w r a _ c j (λe q=>q) g).mono (λv s ⟨m,bF,a2,a3,a4⟩=>⟨m,bF,a2,by rw[l];exact a3,by rw[f];exact a4⟩) λ_ _ h=>h.elim
def ed.BL{c}{H'}{x}(h:qH P H c ρ o)(m:∀v,H' v=c)(g:∀v,x v= .any):ed X P H H' x ρ o:=λB I w r a f l j=>
 (h B I w r a f l j).mono (λv s ⟨q,bF,a2,a3⟩=>⟨q,bF,a2,by rw[m];exact a3,by rw[g];exact .any _⟩) λ_ _ h=>h.elim
def ed.rP{t}{f}{H'}{x}[A:hf P t f](h:o.op= .alloc t)(q:∀v,H' v= .au (w2 v) t (f.map .val)::H)(l:∀v,x v= .p (w2 v) 0):ed X P H H' x ρ o:=λB I w r a j m B=>by
 have c:=A.h;unfold zeroCells at c;cases rL:P.info? t with
 | none=>simp[rL] at c
 | some g=>
  cases hz2:g.zero with
  | none=>simp[rL,hz2] at c
  | some z=>
   simp[rL,hz2] at c;have s:bQ I w (f.map .val) z.cells.toList:=by rw[c];exact lj f
   refine .e3 cf (v:=.pointer (some ⟨w.heap.size,0,none⟩)) (w':=w.alloc (.cells z.cells t)) K9 ⟨I,j.alloc _,jB j _,?_,?_⟩
   ·rw[q];exact m.new j t _ _ s
   ·rw[l];exact .val _
end
end Go.Eng

namespace Go
def l2(f:FuncId)(F:Fence)(n:Nat)(P:Program)(c:Code)(Q:Exit->Act->World->Prop)(a:Act)(w:World):Prop:=
 ∀(b:Frame) (k:List Item) (cs:List Frame),b.roundOf=F.round->b.fn=f->F.fn b.fn->F.room (cs.length+1+n)->∃e kA w',Q e kA w'/\ArrivesIn (Machine.fenced P F) P (lone (b.atR a (.code c::k)) cs w) b k cs e kA w'
section
variable{f:FuncId}{F:Fence}{n:Nat}{P:Program}{Q:Exit->Act->World->Prop}{a:Act}{w:World}
def l2.of{c}(h:c.wpIn F n P Q a w):l2 f F n P c Q a w:=λb k l g _ m j=>h b k l g m j
def l2.seq{x y}(h:l2 f F n P x (Exit.then (l2 f F n P y Q) Q) a w):l2 f F n P (.seq x y) Q a w:=by
 intro b k D nO he a8 bH;have af:(lone (b.atR a (.code (.seq x y)::k)) D w).fenced P F:=fenced_calm a8 bH rfl;obtain⟨e,j,fN,cd,et⟩:=h b (.code y::k) D nO he a8 bH;cases e with
 | normal=>
  obtain⟨z,v,m8,oL,py⟩:=cd b k D nO he a8 bH;exact⟨z,v,m8,oL,.of_steps (.head af stepR_seq et) py⟩
 | exit id=>exact⟨_,j,fN,cd,.of_steps (.one af stepR_seq) (.pass (x:=.code y) rfl (λ_ _=>.inl aS) et)⟩
 | goto l=>exact⟨_,j,fN,cd,.of_steps (.one af stepR_seq) (.pass (x:=.code y) rfl (λ_ _=>.inl aS) et)⟩
 | ret=>exact⟨_,j,fN,cd,.of_steps (.one af stepR_seq) (.pass (x:=.code y) rfl (λ_ _=>.inl aS) et)⟩
 | panic J=>exact⟨_,j,fN,cd,.of_steps (.one af stepR_seq) (.pass (x:=.code y) rfl (λ_ _=>.inl aS) et)⟩
 | outgrown=>exact⟨_,j,fN,cd,.of_steps (.one af stepR_seq) (.pass (x:=.code y) rfl (λ_ _=>.inl aS) et)⟩
def l2.block{id}{c}(h:l2 f F n P c (Exit.inBlock id Q) a w):l2 f F n P (.block id c) Q a w:=by
 intro b k cs nO he a8 bH;have af:(lone (b.atR a (.code (.block id c)::k)) cs w).fenced P F:=fenced_calm a8 bH rfl;obtain⟨e,m,fN,cd,et⟩:=h b (.inBlock id::k) cs nO he a8 bH;cases e with
 | normal=>exact⟨.normal,m,fN,cd,.head af stepR_block (StepsIn.trans et (.one (fenced_calm a8 bH rfl) stepR_inBlock))⟩
 | exit zf=>
  by_cases Co:zf=id
  ·simp[Exit.inBlock,Co,if_true] at cd;exact⟨.normal,m,fN,cd,.head af stepR_block (et.1 k (by simp[exitTo,Co]))⟩
  ·simp[Exit.inBlock,Co,if_false] at cd;have this:(id==zf)=false:=by simp;exact λh=>Co h.symm
   have aK:exitTo zf (.inBlock id::k)=exitTo zf k:=by simp[exitTo,this]
   exact⟨.exit zf,m,fN,cd,λgT bD=>.head af stepR_block (et.1 gT (by rw[aK];exact bD)),
    λl3 bD=>let ⟨k₁,ae,ao⟩:=et.2 l3 (by rw[aK];exact bD);⟨k₁,ae,.head af stepR_block ao⟩⟩
 | goto l=>
  have aK:gotoIn l (.inBlock id::k)=gotoIn l k:=by simp[gotoIn]
  exact⟨_,m,fN,cd,λgT bD=>.head af stepR_block (et.1 gT (by rw[aK];exact bD)),
   λl3 bD=>let ⟨k₁,ae,ao⟩:=et.2 l3 (by rw[aK];exact bD);⟨k₁,ae,.head af stepR_block ao⟩⟩
 | ret=>exact⟨_,m,fN,cd,.of_steps (.one af stepR_block) et⟩
 | panic K=>exact⟨_,m,fN,cd,.of_steps (.one af stepR_block) et⟩
 | outgrown=>exact⟨_,m,fN,cd,.of_steps (.one af stepR_block) et⟩
def We{fn:Func}{c:Code}{args:Array Value}{R:Ending->World->Prop}(b8:P.funcs[f]? =some fn)(a8:fn.body=some c)(hF:F.fn f)
  (h:l2 f F n P c (bodyPostM F n P fn R) {tmps:=args++Array.replicate (fn.ntmps - args.size) undef,defers:=[]} w) (nO:F.round=none:=by rfl):CallsIn F n P f args w R:=by
 refine⟨hF,λcs bH=>?_⟩
 let b:Frame:={(default:Frame) with fn:=f,kind:=.normal,roundOf:=none}
 have zg:Frame.enter P f args .normal=b.atR {tmps:=args++Array.replicate (fn.ntmps - args.size) undef,defers:=[]} [.code c]:=by
  simp[Frame.enter,Frame.atR,b8,a8,b]
 obtain⟨e,kA,w',cd,et⟩:=h b [] cs nO.symm rfl hF bH;rw[<-zg] at et;cases e with
 | normal=>
  obtain⟨e',jW,zh,hR,b6,pI,br⟩:=leaves_stepsInM kA.defers .returning w' {b.atR kA [] with mode:=.returning} cs rfl rfl rfl b8 rfl hF bH cd;exact⟨e',jW,zh,hR,ComesIn.of_steps (StepsIn.trans et (.one (fenced_calm (fr:=b.atR kA []) hF bH rfl) (stepR_end rfl))) b6,pI,br⟩
 | ret=>
  obtain⟨todo,Gl⟩:=et.1 rfl;obtain⟨e',jW,zh,hR,b6,pI,br⟩:=leaves_stepsInM kA.defers .returning w' {b.atR kA todo with mode:=.returning} cs rfl rfl rfl b8 rfl hF bH cd;exact⟨e',jW,zh,hR,ComesIn.of_steps Gl b6,pI,br⟩
 | panic chain=>
  obtain⟨todo,Gl⟩:=et;obtain⟨e',jW,zh,hR,b6,pI,br⟩:=leaves_stepsInM kA.defers (.panicking chain) w' {b.atR kA todo with mode:=.panicking chain} cs rfl rfl rfl b8 rfl hF bH cd;exact⟨e',jW,zh,hR,ComesIn.of_steps Gl b6,pI,br⟩
 | exit id=>exact cd.elim
 | goto l=>exact cd.elim
 | outgrown=>exact⟨.outgrown,w',b,cd,et.resolve_left (by simp[b]),rfl,trivial⟩
def Wf(P:Program)(l:Nat)(R:Ending->World->Prop):Exit->Act->World->Prop
 | .panic chain,a,w=>a.defers= []/\R (.panicked chain) w
 | e,a,w=>roundPost P l R e a w
def Wg{l}{fn}{tmps}{assign j}{R}(hF:F.fn f)(pI:P.funcs[f]? =some fn)
  (h:assign.wpIn (F.inRound l) n P (Exit.then (λoW fN=>∃m8,(Instr.beginRound l).run P fN= .ok () m8/\j.wpIn (F.inRound l) n P (Wf P l R) oW m8) (λ_ _ _=>False)) {tmps:=tmps,defers:=[]} w):
  RoundIn F n P l f tmps assign j w R:=by
 refine⟨hF,λc cs bH=>?_⟩
 let b:Frame:={(default:Frame) with fn:=f,kind:=.normal,roundOf:=some l}
 have gV:Frame.round l f tmps assign j .normal=b.atR {tmps:=tmps,defers:=[]} [.code assign,.beginRound,.code j]:=by
  simp[Frame.round,Frame.atR,b]
 have l3:(F.inRound l).room ((c::cs).length+1+n):=bH;have tl:(F.inRound l).fn b.fn:=hF;obtain⟨e,oW,fN,cd,et⟩:=h b [.beginRound,.code j] (c::cs) rfl tl l3;rw[<-gV] at et;cases e with
 | normal=>
  obtain⟨m8,Wh,Wi⟩:=cd;have s1:StepsIn (Machine.fenced P (F.inRound l)) P (lone (b.atR oW [.beginRound,.code j]) (c::cs) fN) (lone (b.atR oW [.code j]) (c::cs) m8):=
   .one (fenced_calm (fr:=b.atR oW [.beginRound,.code j]) tl l3 rfl) (stepR_beginRound rfl Wh)
  obtain⟨ym,x,w3,oL,py⟩:=Wi b [] (c::cs) rfl tl l3;cases ym with
  | normal=>
   obtain⟨v,qR,r6,hR⟩:=oL;exact⟨.returned v,qR,hR,(StepsIn.trans et s1).trans (StepsIn.trans py (.one (fenced_calm (fr:=b.atR x []) tl l3 rfl) (stepR_round_end rfl rfl r6)))⟩
  | ret=>
   obtain⟨v,qR,r6,hR⟩:=oL;obtain⟨k₁,b6⟩:=py.2 rfl;exact⟨.returned v,qR,hR,(StepsIn.trans et s1).trans (StepsIn.trans b6 (.one (fenced_calm (fr:=b.atR x (.code .ret::k₁)) tl l3 rfl) (stepR_round_ret rfl rfl r6)))⟩
  | exit id=>
   obtain⟨v,qR,r6,hR⟩:=oL;obtain⟨k₁,bD,b6⟩:=py.2 rfl rfl;exact⟨.returned v,qR,hR,(StepsIn.trans et s1).trans (StepsIn.trans b6 (.one (fenced_calm (fr:=b.atR x (.code (.exit id)::k₁)) tl l3 rfl) (stepR_round_exit rfl rfl bD r6)))⟩
  | goto t=>
   obtain⟨v,qR,r6,hR⟩:=oL;obtain⟨k₁,bD,b6⟩:=py.2 rfl rfl;exact⟨.returned v,qR,hR,(StepsIn.trans et s1).trans (StepsIn.trans b6 (.one (fenced_calm (fr:=b.atR x (.code (.goto t)::k₁)) tl l3 rfl) (stepR_round_goto rfl rfl bD r6)))⟩
  | panic s=>
   obtain⟨a6,hR⟩:=oL;obtain⟨todo,b6⟩:=py;have br:({b.atR x todo with mode:=.panicking s}:Frame).leaving P w3 (.panicked s):=⟨rfl,a6,fn,pI⟩;exact⟨.panicked s,w3,hR,(StepsIn.trans et s1).trans (StepsIn.trans b6 (.one (fenced_leaving (n:=n) tl l3 br) (step_leave_panicked br)))⟩
  | outgrown=>exact oL.elim
 | exit id=>exact cd.elim
 | goto t=>exact cd.elim
 | ret=>exact cd.elim
 | panic s=>exact cd.elim
 | outgrown=>exact cd.elim
def l2.rangeFunc{g}{bZ}{assign body}
  (h:∃(l:Nat) (mark:List Deferred) (fN:World) (d:Deferred) (Cp:World) (f':FuncId) (args:Array Value) (m8:World),
   (Instr.enterLoop f a.tmps bZ assign body F.round).run P w= .ok (l,mark) fN/\
   (resolve a.eval (rangeCall g l) 0).run P fN= .ok d Cp/\
   (∀f',Target.leads P Cp d.target d.args=some f'->F.fn f')/\
   (invoke d.target d.args).run P Cp= .ok (.enter f' args) m8/\
   (F.depth.isSome=true->1<=n)/\
   CallsIn F (n - 1) P f' args m8 (rangePost F n P l Q {a with defers:=mark++a.defers})):
  l2 f F n P (Code.rangeFunc g bZ assign body) Q a w:=by
 intro b k cs nO wQ a8 bH;obtain⟨l,mark,fN,d,Cp,f',args,m8,he,Mr,Wj,hinv,hn,hF,nW⟩:=h;rw[<-nO, <-wQ] at he;have af:(lone (b.atR a (.code (.rangeFunc g bZ assign body)::k)) cs w).fenced P F:=by
  refine fenced_lone (.inl a8) (λf' Ms=>Wj f' ?_) (Fence.room_le bH aa);have wI:=Frame.eval_atR b a (.code (.rangeFunc g bZ assign body)::k);simp[Frame.atR] at wI;simp[Frame.about,Frame.atR,he,wI,Mr] at Ms;exact Ms
 have zg:=stepR_rangeFunc (P:=P) (b:=b) (a:=a) (k:=k) (cs:=cs) (w:=w) he Mr hinv;have Gm:F.room ((b.atR {a with defers:=mark++a.defers} (.inRangeFunc l::k)::cs).length+1+(n - 1)):=Fence.room_enter bH hn;obtain⟨e,w3,fr,hR,Gn,pI,Cq⟩:=nW (b.atR {a with defers:=mark++a.defers} (.inRangeFunc l::k)::cs) Gm;cases e with
 | outgrown=>
  obtain⟨Wk,Wl,cd⟩:=hR;exact⟨.outgrown,Wk,Wl,cd,.inr (Outgrown.of_steps (.one zg) Gn)⟩
 | returned v=>
  have br:(lone fr (b.atR {a with defers:=mark++a.defers} (.inRangeFunc l::k)::cs) w3).fenced P F:=fenced_leaving (pI▸hF) Gm Cq;obtain⟨jump,qR,r6,cm⟩:=hR;have Mt:StepsIn (Machine.fenced P F) P (lone (b.atR a (.code (.rangeFunc g bZ assign body)::k)) cs w) (lone (b.atR {a with defers:=mark++a.defers} ((jump.map Item.code).toList++k)) cs qR):=by
   refine .head af zg (StepsIn.trans Gn (.head br ?_ (.one (fenced_calm (fr:=b.atR {a with defers:=mark++a.defers} (.endRangeFunc l::k)) a8 bH rfl) (stepR_endRangeFunc r6))));rw[<-finish_atR_inRangeFunc l v];exact step_leave_returned Cq
  cases jump with
  | none=>exact⟨.normal,_,qR,cm,Mt⟩
  | some c=>
   obtain⟨e',Wm,Wn,cd,et⟩:=cm b k cs nO a8 bH;exact⟨e',Wm,Wn,cd,.of_steps Mt et⟩
 | panicked chain=>
  have br:(lone fr (b.atR {a with defers:=mark++a.defers} (.inRangeFunc l::k)::cs) w3).fenced P F:=fenced_leaving (pI▸hF) Gm Cq;refine⟨.panic chain,_,w3,hR,.inRangeFunc l::k,.head af zg (StepsIn.trans Gn (.one br ?_))⟩;rw[<-Frame.raise_atR];exact step_leave_panicked Cq
end
end Go

