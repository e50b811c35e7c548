/- Part 5 of the proof: contracts of functions of the program and what they need. No condition beyond those that each theorem names. -/
import Derived.Test.YtodccgailpkgeaaGreatKindLeastP4
import Derived.RecoverIn
set_option maxHeartbeats 1000000
set_option linter.unusedVariables false
set_option linter.unusedSimpArgs false
namespace Go.Eng
open Go.RowKit (Below)
structure dt where
 e:Nat
 d:Nat
 t:TypeId
 bY:List Value
 s:Nat
 ys:List aa
def dt.iW(S:Nat->Bool)(b9:Nat->Nat)(v:dt):Option aj:=if S v.e then some (.aI (b9 v.d) v.t (if S v.s then v.ys else v.bY.map .val)) else none
def dt.gR(S:Nat->Bool)(b9:Nat->Nat)(vs:List dt):List aj:=vs.filterMap (dt.iW S b9)
def uj(H:List aj)(vs:List dt)(S:Nat->Bool):Mem:=λB a I w=>
 ∃b9:Nat->Nat,(∀v∈vs,S v.e=true->a.tmps.getD v.d undef= .pointer (some ⟨b9 v.d,0,none⟩))/\br B I w (dt.gR S b9 vs++H)
def x8(l:List Oper)(vs:List dt)(k m:Nat):Bool:=(vs.all λv=>Nat.ble k v.e && Nat.blt v.e m && Nat.ble k v.s && Nat.blt v.s m && ((h5 l []).getD v.s 0).testBit v.e && vs.all λu=>!Nat.beq u.e v.s) && decide (vs.map (·.e)).Nodup && decide (vs.map (·.s)).Nodup && decide (vs.map (·.d)).Nodup
theorem Dl{α:Type}(f:α->Nat){l pre post:List α}{v u:α}(h:(l.map f).Nodup)(ax:l=pre++v::post)(hu:u∈pre\/u∈post):f u≠f v:=by
 subst ax;rw[List.map_append,List.map_cons] at h;have ae:=List.nodup_append.1 h;rcases hu with hu | hu
 ·exact λe=>ae.2.2 (f u) (List.mem_map_of_mem hu) (f v) bj e
 ·exact λe=>(List.nodup_cons.1 ae.2.1).1 (by rw[<-e];exact List.mem_map_of_mem hu)
theorem x9{S NI:Nat->Bool}{b9 qR:Nat->Nat}:∀{vs:List dt},(∀v∈vs,dt.iW S b9 v=dt.iW NI qR v)->dt.gR S b9 vs=dt.gR NI qR vs
 | [],_=>rfl
 | v::r,h=>by
  have ab:=h v (.head _);have ae:=x9 (vs:=r) λu hu=>h u (.tail _ hu);unfold dt.gR at*;rw[List.filterMap_cons,List.filterMap_cons,ab,ae]
theorem Dm{S:Nat->Bool}{b9:Nat->Nat}{a b:List dt}:dt.gR S b9 (a++b)=dt.gR S b9 a++dt.gR S b9 b:=List.filterMap_append
theorem Dn{S:Nat->Bool}{b9:Nat->Nat}{v:dt}{r:List dt}{e:aj}(h:dt.iW S b9 v=some e):dt.gR S b9 (v::r)=e::dt.gR S b9 r:=List.filterMap_cons_some h
theorem NJ{S:Nat->Bool}{b9:Nat->Nat}{v:dt}{r:List dt}(h:dt.iW S b9 v=none):dt.gR S b9 (v::r)=dt.gR S b9 r:=List.filterMap_cons_none h
theorem bu.under{e e':aj}{H:List aj}:∀(X:List aj),bu (X++e::H) e e' (X++e'::H)
 | []=>.head _ _ _
 | f::X=>.tail _ _ _ _ _ (bu.under X)
section
variable{c:Ctx}{r:Option Nat}{P:Program}{l:List Oper}{Q:Exit->Act->World->Prop}
theorem NK{b9:Nat->Nat}{k:Nat}:∀{vs:List dt},(∀v∈vs,Nat.blt v.e k=false)->dt.gR (λi=>Nat.blt i k) b9 vs= []
 | [],_=>rfl
 | v::r,h=>by rw[NJ (by rw[dt.iW,if_neg (by rw[h v (.head _)];simp)]),NK λu hu=>h u (.tail _ hu)]
theorem NL{b9:Nat->Nat}{m:Nat}:∀{vs:List dt},(∀v∈vs,Nat.blt v.e m=true/\Nat.blt v.s m=true)->dt.gR (λi=>Nat.blt i m) b9 vs=vs.map λv=>aj.aI (b9 v.d) v.t v.ys
 | [],_=>rfl
 | v::r,h=>by
  have:=h v (.head _);rw[Dn (e:=.aI (b9 v.d) v.t v.ys) (by rw[dt.iW,if_pos this.1,if_pos this.2]),NL λu hu=>h u (.tail _ hu)];rfl
theorem fs.vars{I:a8}{w:World}{a:Act}{env:List (Nat×aa)}{b9:Nat->Nat}(h:fs I w (aX env) a):∀(vs:List dt),(∀v∈vs,a.tmps.getD v.d undef= .pointer (some ⟨b9 v.d,0,none⟩))->fs I w (aX (vs.map (λv=>(v.d,aa.p (b9 v.d) 0))++env)) a
 | [],_=>h
 | v::r,aC=>λt x ag=>by
  rw[List.map_cons,List.cons_append,l0] at ag;split at ag
  ·rename_i e;cases ag;subst e;rw[aC v (.head _)];exact .val _
  ·exact fs.vars h r (λu hu=>aC u (.tail _ hu)) t x ag
theorem bk.Hl{env:List (Nat×aa)}{H:List aj}(vs:List dt)(k m n:Nat)(hn:c.n=n)(dQ:o2 l k m=true)(dT:x8 l vs k m=true)(gv:Nat.ble k m=true)(en:Nat.ble m l.length=true)(iR:(l.all λo=>(looks l o).all λt=>Nat.blt t n)=true)
  (h:bp P (uj H vs) l c.n k ((l.drop k).take (m - k)) env λenv=>∀b9:Nat->Nat,bk c r P l Q m ⟨vs.map (λv=>(v.d,aa.p (b9 v.d) 0))++env,vs.map (λv=>aj.aI (b9 v.d) v.t v.ys)++H⟩):bk c r P l Q k ⟨env,H⟩:=by
 simp only[x8,Bool.and_eq_true,List.all_eq_true,decide_eq_true_eq,Bool.not_eq_true'] at dT;obtain⟨⟨⟨gI,sX⟩,tU⟩,Hm⟩:=dT;refine bk.Ae (M:=uj H vs) dQ (Nat.le_of_ble_eq_true gv) (Nat.le_of_ble_eq_true en) sq (λB a I w az=>⟨λ_=>0,λv aC aH=>?_,?_⟩) (h.mono λenv aN a w I dg dh ea gP jA kV=>?_)
 ·have ab:=Nat.le_of_ble_eq_true (gI v aC).1.1.1.1.1;have:Nat.blt v.e k=false:=by rw[Bool.eq_false_iff];intro aw;have:=Nat.lt_of_succ_le zp;omega
  have aH:Nat.blt v.e k=true:=aH;rw[this] at aH;cases aH
 ·rw[NK λv aC=>by
   have ab:=Nat.le_of_ble_eq_true (gI v aC).1.1.1.1.1;rw[Bool.eq_false_iff];intro aw;have:=Nat.lt_of_succ_le zp;omega]
  exact az
 ·obtain⟨b9,aw,az⟩:=jA;have cW:br c.B I w (vs.map (λv=>aj.aI (b9 v.d) v.t v.ys)++H):=by rwa [NL λv aC=>⟨(gI v aC).1.1.1.1.2,(gI v aC).1.1.2⟩] at az
  exact aN b9 a w ⟨dg,dh,I,ea,gP,cW,kV.vars vs λv aC=>aw v aC (gI v aC).1.1.1.1.2⟩
end
section
variable{P:Program}{L rest:List Oper}{vs:List dt}{n i d:Nat}{o:Oper}{env:List (Nat×aa)}{K:List (Nat×aa)->Prop}{x:aa}{H:List aj}
theorem bp.nil{X:jP}{M:(Nat->Bool)->Mem}(h:K env):kA X P M L n i [] env K:=h
theorem bp.gx(av:(vs.all λv=>!Nat.beq v.e i && !Nat.beq v.s i && !Nat.beq v.d d)=true)(al:o.guard=none)(aN:o.dst=some d)(hn:Nat.blt d n=true)(h:af P H (aX env) o x)(next:bp P (uj H vs) L n (i+1) rest ((d,x)::env) K):bp P (uj H vs) L n i (o::rest) env K:=
 ⟨x,λS _ _ mA=>iU.of al (λB I w r a hw hm aA an=>by
  obtain⟨b9,aw,az⟩:=hm;simp only[List.all_eq_true,Bool.and_eq_true,Bool.not_eq_true'] at av;have ne:∀{a b:Nat},Nat.beq a b=false->a≠b:=λh e=>by subst e;simp at h
  have he:∀v∈vs,dt.iW (fu S i) b9 v=dt.iW S b9 v:=λv aC=>by
   rw[dt.iW,dt.iW,lB (ne (av v aC).1.1),lB (ne (av v aC).1.2)]
  refine (h B I w r a _ hw az (λe he=>List.mem_append_right _ he) aA).mono (λv w' ⟨aQ,cI,a2,a3,a4⟩=>⟨aQ,cI,a2,⟨b9,λu hu aH=>?_,?_⟩,a4⟩) (λ_ _ h=>h)
  ·rw[lB (ne (av u hu).1.1)] at aH;rw[aN,oR (ne (av u hu).2)];exact aw u hu aH
  ·rw[x9 he];exact a3),jg aN hn,ih⟩
theorem bp.Dp(pre post:List dt)(v:dt)(dT:vs=pre++v::post)(ak:∃k m,x8 L vs k m=true){bY:List Value}[an:hr P v.t bY](jv:v.bY=bY)(av:v.e=i)(al:o.guard=none)(aN:o.dst=some v.d)(hn:Nat.blt v.d n=true)(h:o.op= .alloc v.t)(df:Nat.blt v.s L.length=true)
  (next:bp P (uj H vs) L n (i+1) rest ((v.d,.any)::env) K):bp P (uj H vs) L n i (o::rest) env K:=by
 obtain⟨k,m,ak⟩:=ak;simp only[x8,Bool.and_eq_true,List.all_eq_true,decide_eq_true_eq,Bool.not_eq_true'] at ak;obtain⟨⟨⟨gI,sX⟩,tU⟩,Hm⟩:=ak;have qS:v∈vs:=by rw[dT];simp
 have ne:∀{a b:Nat},Nat.beq a b=false->a≠b:=λh e=>by subst e;simp at h
 refine⟨.any,λS m1 _ mA=>iU.of al (λB I w r a hw hm aA l2=>?_),jg aN hn,ih⟩;obtain⟨b9,aw,az⟩:=hm;have qT:=an.h;unfold zeroCells at qT;cases iH:P.info? v.t with
 | none=>simp[iH] at qT
 | some inf=>
  cases kM:inf.zero with
  | none=>simp[iH,kM] at qT
  | some z=>
   simp[iH,kM] at qT;have ab:bZ I w (bY.map .val) z.cells.toList:=by rw[qT];exact l1 bY
   have lZ:v.s≠i:=λe=>ne ((gI v qS).2 v qS) (by rw[av,e]);have Xg:S v.s=false:=by
    rw[Bool.eq_false_iff];intro aH;have cO:v.s<L.length:=Nat.lt_of_succ_le (by simpa [Nat.blt] using df);have:=m1 v.s L[v.s] (List.getElem?_eq_getElem cO) aH v.e (gI v qS).1.2;rw[av,mA] at this;cases this
   let qR:Nat->Nat:=λd=>if d=v.d then w.heap.size else b9 d
   have Ar:∀u,u∈pre\/u∈post->dt.iW (fu S i) qR u=dt.iW S b9 u:=λu hu=>by
    have Hn:u∈vs:=by rw[dT];rcases hu with hu | hu <;> simp[hu]
    have a6:u.e≠i:=by rw[<-av];exact Dl (·.e) sX dT hu
    have aW:u.d≠v.d:=Dl (·.d) Hm dT hu;have cN:u.s≠i:=λe=>ne ((gI u Hn).2 v qS) (by rw[av,e]);rw[dt.iW,dt.iW,lB a6,lB cN,show qR u.d=b9 u.d from if_neg aW]
   have om:dt.iW (fu S i) qR v=some (.aI w.heap.size v.t (bY.map .val)):=by
    rw[dt.iW,av,xZ,if_pos rfl,lB lZ,Xg,show qR v.d=w.heap.size from if_pos rfl,jv];rfl
   have hold:dt.iW S b9 v=none:=by rw[dt.iW,av,mA];rfl
   have a6:dt.gR S b9 vs=dt.gR S b9 pre++dt.gR S b9 post:=by rw[dT,Dm,NJ hold]
   have aW:dt.gR (fu S i) qR vs=dt.gR S b9 pre++.aI w.heap.size v.t (bY.map .val)::dt.gR S b9 post:=by
    rw[dT,Dm,Dn om,x9 λu hu=>Ar u (.inl hu),x9 λu hu=>Ar u (.inr hu)]
   rw[a6] at az;refine cM.fN (v:=.pointer (some ⟨w.heap.size,0,none⟩)) (w':=w.alloc (.cells z.cells v.t)) cB Mk ⟨I,hw.alloc _,kN hw _,⟨qR,λu hu aH=>?_,?_⟩,.any _⟩
   ·by_cases e:u.d=v.d
    ·rw[e,aN,tN (l2 v.d aN),show qR v.d=w.heap.size from if_pos rfl]
    ·rw[aN,oR e,show qR u.d=b9 u.d from if_neg e];refine aw u hu ?_;have m4:u∈pre\/u∈post:=by
      rw[dT] at hu;rcases List.mem_append.1 hu with cf | cf
      ·exact .inl cf
      ·rcases List.mem_cons.1 cf with cf | cf
       ·exact absurd (by rw[cf]) e
       ·exact .inr cf
     have:u.e≠i:=by rw[<-av];exact Dl (·.e) sX dT m4
     rwa [lB this] at aH
   ·rw[aW];have:=br.new az hw v.t _ _ ab;exact this.perm (by rw[List.append_assoc,List.append_assoc];exact List.perm_middle.symm)
theorem bp.Dq(pre post:List dt)(v:dt)(dT:vs=pre++v::post)(ak:∃k m,x8 L vs k m=true)(av:v.s=i)(al:o.guard=none)(aN:o.dst=none)(h:∀b H' nC,bu H' (.aI b v.t (v.bY.map .val)) (.aI b v.t v.ys) nC->ow P H' nC (aX ((v.d,.p b 0)::env)) o)(next:bp P (uj H vs) L n (i+1) rest env K):bp P (uj H vs) L n i (o::rest) env K:=by
 obtain⟨k,m,ak⟩:=ak;simp only[x8,Bool.and_eq_true,List.all_eq_true,decide_eq_true_eq,Bool.not_eq_true'] at ak;obtain⟨⟨⟨gI,sX⟩,tU⟩,Hm⟩:=ak;have qS:v∈vs:=by rw[dT];simp
 have ne:∀{a b:Nat},Nat.beq a b=false->a≠b:=λh e=>by subst e;simp at h
 refine⟨.any,λS m1 qU mA=>iU.of al (λB I w r a hw hm aA l2=>?_),by rw[aN];rfl,ih⟩;obtain⟨b9,aw,az⟩:=hm;have Ho:S v.e=true:=qU _ (by rw[<-av];exact (gI v qS).1.2);have aB:=aw v qS Ho;have iJ:gi I w (aX ((v.d,.p (b9 v.d) 0)::env)) a o:=λx ag y hy=>by
  cases x with
  | tmp t=>
   simp only[kO] at hy;rw[l0] at hy;split at hy
   ·rename_i e;subst e;cases hy;show Rel I w (.p (b9 v.d) 0) (a.tmps.getD v.d undef);rw[aB];exact .val _
   ·exact aA _ ag y hy
  | const v=>exact aA _ ag y hy
  | global g=>exact aA _ ag y hy
  | func f=>exact aA _ ag y hy
 have Ar:∀u,u∈pre\/u∈post->dt.iW (fu S i) b9 u=dt.iW S b9 u:=λu hu=>by
  have Hn:u∈vs:=by rw[dT];rcases hu with hu | hu <;> simp[hu]
  have a6:u.s≠i:=by rw[<-av];exact Dl (·.s) tU dT hu
  have cN:u.e≠i:=λe=>ne ((gI v qS).2 u Hn) (by rw[av,e]);rw[dt.iW,dt.iW,lB a6,lB cN]
 have lC:v.e≠i:=λe=>ne ((gI v qS).2 v qS) (by rw[av,e]);have hold:dt.iW S b9 v=some (.aI (b9 v.d) v.t (v.bY.map .val)):=by
  rw[dt.iW,if_pos Ho,av,if_neg (by rw[mA];simp)]
 have om:dt.iW (fu S i) b9 v=some (.aI (b9 v.d) v.t v.ys):=by
  rw[dt.iW,lB lC,if_pos Ho,av,xZ,if_pos rfl]
 have a6:dt.gR S b9 vs++H=dt.gR S b9 pre++.aI (b9 v.d) v.t (v.bY.map .val)::(dt.gR S b9 post++H):=by rw[dT,Dm,Dn hold,List.append_assoc];rfl
 have aW:dt.gR (fu S i) b9 vs++H=dt.gR S b9 pre++.aI (b9 v.d) v.t v.ys::(dt.gR S b9 post++H):=by
  rw[dT,Dm,Dn om,x9 λu hu=>Ar u (.inl hu),x9 λu hu=>Ar u (.inr hu),List.append_assoc];rfl
 rw[a6] at az;refine (h (b9 v.d) _ _ (bu.under _) B I w r a hw az iJ).mono (λx w' ⟨aQ,cI,a2,a3⟩=>⟨aQ,cI,a2,⟨b9,λu hu aH=>?_,by rw[aW];exact a3⟩,.any _⟩) (λ_ _ h=>h);rw[aN];refine aw u hu ?_;have:u.e≠i:=λe=>ne ((gI v qS).2 u hu) (by rw[av,e]);rwa [lB this] at aH
end
structure cg where
 i:Nat
 d:Nat
 u:Bool
def cg.inst(es:List cg)(p:List Bool)(f:Nat->Value):List (Option Value):=List.zipWith (λe b=>if b then some (f e.d) else none) es p
def cg.kS:List cg->List Bool->(Nat->Value)->List (Nat×aa)
 | e::es,b::p,f=>match b,e.u with
  | true,true=>(e.d,.val (f e.d))::cg.kS es p f
  | _,_=>cg.kS es p f
 | _,_,_=>[]
def cg.pat(es:List cg)(S:Nat->Bool):List Bool:=es.map λe=>S e.i
def ya{G:Type}(hd:G->List (Option Value)->List aj)(es:List cg)(S:Nat->Bool):Mem:=λB a I w=>∃g,br B I w (hd g (cg.inst es (cg.pat es S) λd=>a.tmps.getD d undef))
def cg.Hp(L:List Oper)(es:List cg)(i:Nat)(p:List Bool):Bool:=(es.zip p).all λx=>(!((h5 L []).getD i 0).testBit x.1.i || x.2) && (!x.2 || (!((h5 L []).getD x.1.i 0).testBit i && !Nat.beq x.1.i i && (es.zip p).all λy=>!((h5 L []).getD x.1.i 0).testBit y.1.i || y.2))
def da:Nat->List (List Bool)
 | 0=>[[]]
 | n+1=>(da n).flatMap λp=>[false::p,true::p]
def cg.fits(L:List Oper)(es:List cg)(i:Nat)(lH:List (List Bool)):Bool:=(es.all λe=>Nat.blt e.i L.length) && (da es.length).all λp=>!cg.Hp L es i p || lH.contains p
def sY{α:Type}:List α->(α->Prop)->Prop
 | [],_=>True
 | a::r,Q=>Q a/\sY r Q
theorem sY.at{α:Type}{Q:α->Prop}:∀{l:List α},sY l Q->∀a∈l,Q a
 | _::_,⟨h,_⟩,_,.head _=>h
 | _::_,⟨_,h⟩,_,.tail _ bN=>sY.at h _ bN
theorem NM:∀(p:List Bool),p∈da p.length
 | []=>.head _
 | b::p=>List.mem_flatMap.2 ⟨p,NM p,by cases b <;> simp⟩
theorem rJ(es:List cg)(S:Nat->Bool)(f:Nat->Value):cg.inst es (cg.pat es S) f=es.map λe=>if S e.i then some (f e.d) else none:=by
 induction es with
 | nil=>rfl
 | cons e r bm=>simp only[cg.inst,cg.pat,List.map_cons,List.zipWith_cons_cons] at bm ⊢;rw[bm]
theorem NN{es:List cg}{S:Nat->Bool}:∀x∈es.zip (cg.pat es S),x.1∈es/\x.2=S x.1.i:=by
 induction es with
 | nil=>intro x ag;cases ag
 | cons e r bm=>
  intro x ag;simp only[cg.pat,List.map_cons,List.zip_cons_cons,List.mem_cons] at ag;rcases ag with rfl | ag
  ·exact⟨.head _,rfl⟩
  ·exact⟨.tail _ (bm x ag).1,(bm x ag).2⟩
theorem cg.As{L:List Oper}{es:List cg}{i:Nat}{lH:List (List Bool)}{S:Nat->Bool}(h:cg.fits L es i lH=true)(aH:GU L S)(hm:∀j,((h5 L []).getD i 0).testBit j=true->S j=true)(av:S i=false):cg.pat es S∈lH:=by
 simp only[cg.fits,Bool.and_eq_true,List.all_eq_true] at h;obtain⟨aw,h⟩:=h;have cO:∀e∈es,e.i<L.length:=λe he=>Nat.lt_of_succ_le (by simpa [Nat.blt] using aw e he);have ab:=h (cg.pat es S) (by have:=NM (cg.pat es S);rwa [cg.pat,List.length_map] at this);have key:cg.Hp L es i (cg.pat es S)=true:=by
  rw[cg.Hp,List.all_eq_true];intro x ag;obtain⟨kY,sZ⟩:=NN x ag;rw[Bool.and_eq_true];refine⟨?_,?_⟩
  ·cases aw:((h5 L []).getD i 0).testBit x.1.i with
   | false=>rfl
   | true=>rw[sZ,hm _ aw];rfl
  ·cases vP:x.2 with
   | false=>rfl
   | true=>
    rw[vP] at sZ;have NO:=aH x.1.i _ (List.getElem?_eq_getElem (cO _ kY)) sZ.symm;simp only[Bool.not_true,Bool.false_or,Bool.and_eq_true,Bool.not_eq_true',List.all_eq_true];refine⟨⟨?_,?_⟩,λy hy=>?_⟩
    ·cases aw:((h5 L []).getD x.1.i 0).testBit i with
     | false=>rfl
     | true=>rw[NO i aw] at av;cases av
    ·cases aw:Nat.beq x.1.i i with
     | false=>rfl
     | true=>rw[Nat.eq_of_beq_eq_true aw,av] at sZ;cases sZ
    ·obtain⟨nH,nI⟩:=NN y hy;cases aw:((h5 L []).getD x.1.i 0).testBit y.1.i with
     | false=>rfl
     | true=>rw[nI,NO _ aw];rfl
 rw[key] at ab;simpa using ab
theorem Dr{f:Nat->Value}{env:List (Nat×aa)}{t:Nat}{y:aa}:∀(es:List cg) (p:List Bool),aX (cg.kS es p f++env) t=some y->y= .val (f t)\/aX env t=some y
 | [],p,h=>.inr h
 | _::_,[],h=>.inr h
 | e::es,b::p,h=>by
  unfold cg.kS at h;split at h
  ·rw[List.cons_append,l0] at h;split at h
   ·rename_i a6;cases h;rw[a6];exact .inl rfl
   ·exact Dr es p h
  ·exact Dr es p h
theorem NP{I:a8}{w:World}{a:Act}{o:Oper}{env:List (Nat×aa)}(es:List cg)(p:List Bool)(h:gi I w (aX env) a o):gi I w (aX (cg.kS es p (λd=>a.tmps.getD d undef)++env)) a o:=λx ag y hy=>by
 cases x with
 | tmp u=>
  simp only[kO] at hy;rcases Dr es p hy with rfl | hy
  ·exact .val _
  ·exact h _ ag y hy
 | const v=>exact h _ ag y hy
 | global g=>exact h _ ag y hy
 | func f=>exact h _ ag y hy
theorem fs.kS{I:a8}{w:World}{a:Act}{env:List (Nat×aa)}(es:List cg)(p:List Bool)(h:fs I w (aX env) a):fs I w (aX (cg.kS es p (λd=>a.tmps.getD d undef)++env)) a:=λt x ag=>by
 rcases Dr es p ag with rfl | ag
 ·exact .val _
 ·exact h t x ag
def jD{G:Type}(P:Program)(H:List aj)(H':G->Value->List aj)(ρ:Nat->Option aa)(o:Oper)(x:aa):Prop:=∀(B:Nat) (I:a8) (w:World) (r:Option Nat) (a:Act),ck B I w->br B I w H->gi I w ρ a o->
 cM P r o a w (λv w'=>∃aQ g,ck B aQ w'/\Ext B I w aQ w'/\br B aQ w' (H' g v)/\Rel aQ w' x v) (λ_ _=>False)
section
variable{c:Ctx}{r:Option Nat}{P:Program}{l:List Oper}{Q:Exit->Act->World->Prop}{G:Type}
theorem bk.Xh{env:List (Nat×aa)}{H:List aj}(es:List cg)(g0:G)(hd:G->List (Option Value)->List aj)(k m n:Nat)(hn:c.n=n)(dQ:o2 l k m=true)(lC:(es.all λe=>Nat.ble k e.i && Nat.blt e.i m)=true)(gv:Nat.ble k m=true)(en:Nat.ble m l.length=true)(iR:(l.all λo=>(looks l o).all λt=>Nat.blt t n)=true)
  (ai:hd g0 (es.map λ_=>none)=H)
  (h:bp P (ya hd es) l c.n k ((l.drop k).take (m - k)) env λenv=>∀(g:G) (f:Nat->Value),bk c r P l Q m ⟨cg.kS es (es.map λ_=>true) f++env,hd g (es.map λe=>some (f e.d))⟩):bk c r P l Q k ⟨env,H⟩:=by
 simp only[List.all_eq_true,Bool.and_eq_true] at lC;have aI:∀i,Nat.ble k i=true->Nat.blt i k=false:=λi av=>by
  have ab:=Nat.le_of_ble_eq_true av;rw[Bool.eq_false_iff];intro aw;have:=Nat.lt_of_succ_le zp;omega
 refine bk.Ae (M:=ya hd es) dQ (Nat.le_of_ble_eq_true gv) (Nat.le_of_ble_eq_true en) sq (λB a I w az=>⟨g0,?_⟩) (h.mono λenv aN a w I dg dh ea gP jA kV=>?_)
 ·have e:cg.inst es (cg.pat es λi=>Nat.blt i k) (λd=>a.tmps.getD d undef)=es.map λ_=>none:=by
   rw[rJ];exact List.map_congr_left λe he=>by rw[aI _ (lC e he).1];rfl
  rw[e,ai];exact az
 ·obtain⟨g,az⟩:=jA;have e:cg.inst es (cg.pat es λi=>Nat.blt i m) (λd=>a.tmps.getD d undef)=es.map λe=>some (a.tmps.getD e.d undef):=by
   rw[rJ];exact List.map_congr_left λe he=>by rw[(lC e he).2];rfl
  rw[e] at az;exact aN g (λd=>a.tmps.getD d undef) a w ⟨dg,dh,I,ea,gP,az,kV.kS es _⟩
end
section
variable{P:Program}{L rest:List Oper}{es:List cg}{n i d:Nat}{o:Oper}{env:List (Nat×aa)}{K:List (Nat×aa)->Prop}{x:aa}{G:Type}{hd:G->List (Option Value)->List aj}
theorem bp.sU(lH:List (List Bool))(av:(es.all λe=>!Nat.beq e.i i && !Nat.beq e.d d)=true)(aP:cg.fits L es i lH=true)(al:o.guard=none)(aN:o.dst=some d)(hn:Nat.blt d n=true)
  (h:sY lH λp=>∀g f,af P (hd g (cg.inst es p f)) (aX (cg.kS es p f++env)) o x) (next:bp P (ya hd es) L n (i+1) rest ((d,x)::env) K):bp P (ya hd es) L n i (o::rest) env K:=
 ⟨x,λS m1 qU mA=>iU.of al (λB I w r a hw hm aA an=>by
  obtain⟨g,hm⟩:=hm;simp only[List.all_eq_true,Bool.and_eq_true,Bool.not_eq_true'] at av;have ne:∀{a b:Nat},Nat.beq a b=false->a≠b:=λh e=>by subst e;simp at h
  refine (h.at _ (cg.As aP m1 qU mA) g (λd=>a.tmps.getD d undef) B I w r a _ hw hm (λe he=>he) (NP es _ aA)).mono (λv w' ⟨aQ,cI,a2,a3,a4⟩=>⟨aQ,cI,a2,⟨g,?_⟩,a4⟩) (λ_ _ h=>h);have e:cg.inst es (cg.pat es (fu S i)) (λd=>(a.put o.dst v).tmps.getD d undef)=cg.inst es (cg.pat es S) (λd=>a.tmps.getD d undef):=by
   rw[rJ,rJ];exact List.map_congr_left λe he=>by rw[lB (ne (av e he).1),aN,oR (ne (av e he).2)]
  rw[e];exact a3),jg aN hn,ih⟩
theorem Hq{S:Nat->Bool}{f f':Nat->Value}{q:Nat}{e:cg}{u:Value}(he:es[q]? =some e)(hu:f' e.d=u)(aA:∀ff e',ff≠q->es[ff]? =some e'->e'.i≠e.i/\f' e'.d=f e'.d):cg.inst es (cg.pat es (fu S e.i)) f'=(cg.inst es (cg.pat es S) f).set q (some u):=by
 rw[rJ,rJ];refine List.ext_getElem? λj=>?_;rw[List.getElem?_set,List.length_map,List.getElem?_map,List.getElem?_map];have bd:=(List.getElem?_eq_some_iff.1 he).1;by_cases aU:q=j
 ·subst aU;rw[if_pos rfl,if_pos bd,he];show some (if fu S e.i e.i=true then some (f' e.d) else none)=_;rw[xZ,hu];rfl
 ·rw[if_neg aU];cases hje:es[j]? with
  | none=>rfl
  | some e'=>
   have:=aA j e' (λh=>aU h.symm) hje;show some (if fu S e.i e'.i=true then some (f' e'.d) else none)=some (if S e'.i=true then some (f e'.d) else none);rw[lB this.1,this.2]
theorem bp.Hb(q:Nat)(lH:List (List Bool)){e:cg}(he:es[q]? =some e)(av:e.i=i)(aA:((es.take q++es.drop (q+1)).all λe'=>!Nat.beq e'.i i && !Nat.beq e'.d e.d)=true)(aP:cg.fits L es i lH=true)(al:o.guard=none)(aN:o.dst=some e.d)(hn:Nat.blt e.d n=true)
  (h:sY lH λp=>∀g f,jD P (hd g (cg.inst es p f)) (λjb v=>hd jb ((cg.inst es p f).set q (some v))) (aX (cg.kS es p f++env)) o x) (next:bp P (ya hd es) L n (i+1) rest ((e.d,x)::env) K):bp P (ya hd es) L n i (o::rest) env K:=
 ⟨x,λS m1 qU mA=>iU.of al (λB I w r a hw hm oh an=>by
  obtain⟨g,hm⟩:=hm;simp only[List.all_eq_true,Bool.and_eq_true,Bool.not_eq_true'] at aA;have ne:∀{a b:Nat},Nat.beq a b=false->a≠b:=λh e=>by subst e;simp at h
  refine (h.at _ (cg.As aP m1 qU mA) g (λd=>a.tmps.getD d undef) B I w r a hw hm (NP es _ oh)).mono (λv w' ⟨aQ,jb,cI,a2,a3,a4⟩=>⟨aQ,cI,a2,⟨jb,?_⟩,a4⟩) (λ_ _ h=>h);rw[<-av,Hq (S:=S) (f:=λd=>a.tmps.getD d undef) (f':=λd=>(a.put o.dst v).tmps.getD d undef) (u:=v) he (by rw[aN];exact tN (an _ aN)) (λff e' bd cc=>?_)]
  ·exact a3
  ·have vQ:e'∈es.take q++es.drop (q+1):=by
    rw[List.mem_append];rcases Nat.lt_or_gt_of_ne bd with ab | ab
    ·exact .inl (List.mem_of_getElem? (i:=ff) (by rw[List.getElem?_take,if_pos ab];exact cc))
    ·exact .inr (List.mem_of_getElem? (i:=ff - (q+1)) (by rw[List.getElem?_drop,show q+1+(ff - (q+1))=ff by omega];exact cc))
   refine⟨by rw[av];exact ne (aA _ vQ).1,?_⟩;show (a.put o.dst v).tmps.getD e'.d undef=_;rw[aN];exact oR (ne (aA _ vQ).2)),jg aN hn,ih⟩
theorem jD.zF{H:List aj}{H':List aj}{ρ:Nat->Option aa}(g:G)(h:ow P H H' ρ o):jD P H (λ(_:G) _=>H') ρ o .any:=λB I w r a hw az aA=>(h B I w r a hw az aA).mono (λv w' ⟨aQ,cI,a2,a3⟩=>⟨aQ,g,cI,a2,a3,.any _⟩) (λ_ _ h=>h)
theorem jD.app{H:List aj}{ρ:Nat->Option aa}{s z:Operand}{t e k dA m:Nat}{cs:List aa}{news:List (List aa)}{v:Value}{y:aa}{g1 g2:Bool}{H':G->Value->List aj}(g:G)[cy:hv P t (e,k,dA)]
  (h:o.op= .call {callee:=.builtin .append,args:=#[s,z],argTypes:=#[t,t]}) (aH:bf ρ s=some (g1,.val v)) (dB:g1=true) (an:bf ρ z=some (g2,y)) (dY:g2=true) (hy:aL y (.aF k news)) (bq:news≠ [])
  (ab:news.all eG=true) (hu:∀dr,bu H (.row e k v m cs) (.row e k dr (m+news.length) (cs++news.flatten)) (H' g dr)) (aw:(m+news.length)*dA<=140737488355328) (gr:m+news.length<=9223372036854775807):jD P H H' ρ o .any:=λB I w r a hw az aA=>
 (G8 h aH dB an dY hy bq ab hu aw gr hw az aA).mono (λv w' ⟨aQ,cI,a2,a3⟩=>⟨aQ,g,cI,a2,a3,.any _⟩) (λ_ _ h=>h)
theorem jD.qI{H:List aj}{ρ:Nat->Option aa}{f:FuncId}{xs:List aa}{bw:aa->List aj->Prop}{H':G->Value->List aj}(ak:gZ P ρ o f xs)(h:∀B,dC B P f xs H bw (λ_ _=>False))(bd:∀y H1,bw y H1->∃g,y=x/\∀v,H' g v=H1):jD P H H' ρ o x:=λB I w r a hw az aA=>
 (x3 (c:=⟨B,I,w,0,[]⟩) ak (h B) hw az aA).mono (λv w' hR=>by
  obtain⟨aQ,H1,y,cI,a2,a3,a4,a5⟩:=hR;obtain⟨g,rfl,aC⟩:=bd _ _ a5;exact⟨aQ,g,cI,a2,by rw[aC];exact a3,a4⟩) (λ_ _ h=>h)
end
def Xi(v:Value)(dK:List aj):jP:=λB I w ch w'=>ch= [{v:=v,recovered:=false}]/\∃J,ck B J w'/\Ext B I w J w'/\br B J w' dK
section
variable{c:Ctx}{r:Option Nat}{P:Program}{l:List Oper}{Q:Exit->Act->World->Prop}
end
section
variable{P:Program}{L rest:List Oper}{n i d q:Nat}{o:Oper}{env:List (Nat×aa)}{K:List (Nat×aa)->Prop}{x:aa}{H dK:List aj}{X:jP}
end
section
variable{P:Program}{H:List aj}{ρ:Nat->Option aa}{o:Oper}{x:aa}{G:Type}
end
section
variable{c:Ctx}{r:Option Nat}{P:Program}{st:dn}{Q:Exit->Act->World->Prop}
theorem aq.kz{p:Code}{H':List aj}(aB:st.H=H')(h:aq c r P p ⟨st.env,H'⟩ Q):aq c r P p st Q:=aq.perm (.of_eq aB) h
theorem aR.kz{e:Exit}{H':List aj}(aB:st.H=H')(h:aR c ⟨st.env,H'⟩ e Q):aR c st e Q:=aR.perm (.of_eq aB) h
end
section
variable{P:Program}{f:FuncId}{bM xs cs:List aa}{H H1 dK:List aj}{y pv:aa}{B:Nat}
theorem o9.fP(h:o9 P f (bM++xs++cs) H (some (y,H1)) dK pv):e4 B P (.fn (.func f) bM cs) xs H (λ_ H'=>H'=H1) (λ_ _=>False):=
 e4.fn (b1.qz h.ok (λ_ _ e=>e.2) (λ_ _ e=>e))
theorem o9.gk(h:o9 P f (bM++xs++cs) H none dK pv):e4 B P (.fn (.func f) bM cs) xs H (λ_ _=>False) (λy H'=>y=pv/\H'=dK):=
 e4.fn (b1.qz (show b1 P f _ H _ _ from h) (λ_ _ e=>by cases e) (λ_ _ e=>e.2))
end
section
variable{P:Program}{r:Option Nat}{o:Oper}{H:List aj}
end
section
variable{c:Ctx}{r:Option Nat}{P:Program}{l:List Oper}{Q:Exit->Act->World->Prop}
end
section
variable{P:Program}{L rest:List Oper}{ss:List Nat}{n i d:Nat}{o:Oper}{env:List (Nat×aa)}{K:List (Nat×aa)->Prop}{x:aa}{H:List aj}{e k:Nat}{aj9 aka:List (List aa)}{d1 d2:Nat}
end
def Xj(P:Program)(t:TypeId)(f:Nat):Option Nat:=
 match P.underlying t with
 | some (.struct bM)=>match bM[f]? with
  | some fd=>match oT P fd.type with
   | some (false,_)=>some fd.offset
   | _=>none
  | none=>none
 | _=>none
class Xk (P:Program) (t f:Nat) (x:outParam Nat):Prop where h:Xj P t f=some x
section
variable{P:Program}{H:List aj}{ρ:Nat->Option aa}{o:Oper}
end
abbrev NQ(l:List Oper)(k m gd:Nat):Bool:=z8 l k m (Nat.beq gd)
section
variable{c:Ctx}{r:Option Nat}{P:Program}{l:List Oper}{st:dn}{Q:Exit->Act->World->Prop}
theorem bk.Xl{k m:Nat}{Hs:Nat->Mem}{ss:List Nat}(gd:Nat)(eh:aX st.env gd=some .any)(dQ:NQ l k m gd=true)(p4:uf ss k m=true)(gv:k<=m)(en:m<=l.length)(iR:(l.all λo=>(looks l o).all λt=>Nat.blt t c.n)=true){Hr:List (Nat×aa)}(e5:∀a w I,fs I w (aX Hr) a->fs I w (aX st.env) a)(b0:∀a w I,br c.B I w st.H->fs I w (aX Hr) a->Hs 0 c.B a I w)
  (h:b6 P Hs l ss c.n k ((l.drop k).take (m - k)) st.env λenv=>aX env gd=some .any/\∀a w I,a.defers=c.ds->a.tmps.size=c.n->ck c.B I w->Ext c.B c.cl c.aO I w->Hs ss.length c.B a I w->fs I w (aX env) a->hc c r P l Q m a w):bk c r P l Q k ⟨Hr,st.H⟩:=by
 obtain⟨o8,o7⟩:=Nq p4;intro a w s;obtain⟨I,hw,he,az,aC⟩:=s.mem;have at_:∀{env:List (Nat×aa)},aX env gd=some .any->∀t,Nat.beq gd t=true->aX env t=some .any:=λh t ht=>by rw[<-Nat.eq_of_beq_eq_true ht];exact h
 refine hc.G0 (M:=λS=>Hs (ss.countP S)) (at_ eh) dQ gv en iR (λ_ _ _ _ _ _ _ _ _ h=>h.elim) (kA.mono (λenv ⟨ab,aN⟩=>⟨at_ ab,λa w I dg dh ea gP jA kV=>aN a w I dg dh ea gP (by rwa [show ss.countP (λi=>Nat.blt i m)=ss.length from List.countP_eq_length.2 λs aH=>M7 (o8 s aH).2] at jA) kV⟩) (h.u o7 λs aH=>by have:=(o8 s aH).2;omega)) s.ds s.size hw he ?_ (e5 _ _ _ aC);rw[show ss.countP (λi=>Nat.blt i k)=0 from List.countP_eq_zero.2 λs aH aw=>by have:=(o8 s aH).1;have:=tZ aw;omega];exact b0 _ _ _ az aC
end
abbrev uk(H:List aj)(hf kY:aa)(gd:Nat):Nat->Mem:=λj B a I w=>br B I w H/\match j with
 | 0=>Rel I w hf (a.tmps.getD gd undef)
 | _=>Rel I w kY (a.tmps.getD gd undef)
section
variable{c:Ctx}{r:Option Nat}{P:Program}{l:List Oper}{Q:Exit->Act->World->Prop}
theorem bk.Xm{env:List (Nat×aa)}{H:List aj}{hf:aa}(kY:aa)(gd e:Nat)(k m n:Nat)(ai:aX env gd=some hf)(hn:c.n=n)(dQ:NQ l k m gd=true)(p4:uf [e] k m=true)(gv:Nat.ble k m=true)(en:Nat.ble m l.length=true)(iR:(l.all λo=>(looks l o).all λt=>Nat.blt t n)=true)
  (h:b6 P (uk H hf kY gd) l [e] c.n k ((l.drop k).take (m - k)) ((gd,.any)::env) λenv=>aX env gd=some .any/\bk c r P l Q m ⟨(gd,kY)::env,H⟩):bk c r P l Q k ⟨env,H⟩:=by
 refine bk.Xl (Hs:=uk H hf kY gd) (st:=⟨(gd,.any)::env,H⟩) gd (by simp[l0]) dQ p4 (Nat.le_of_ble_eq_true gv) (Nat.le_of_ble_eq_true en) sq (λa w I aC=>Sat.tS aC (.any _)) (λa w I az aC=>⟨az,aC gd hf ai⟩) (h.mono λfF aN=>⟨aN.1,λa w I dg dh ea gP jA kV=>aN.2 a w ⟨dg,dh,I,ea,gP,jA.1,Sat.tS kV jA.2⟩⟩)
end
section
variable{P:Program}{L rest:List Oper}{n i d e:Nat}{o:Oper}{env:List (Nat×aa)}{K:List (Nat×aa)->Prop}{x:aa}{H:List aj}{hf kY:aa}{gd:Nat}
theorem NR{I:a8}{w:World}{a:Act}{o:Oper}{env:List (Nat×aa)}{d:Nat}{y:aa}(aA:gi I w (aX env) a o)(h:Rel I w y (a.tmps.getD d undef)):gi I w (aX ((d,y)::env)) a o:=λz an u hu=>by
 cases z with
 | tmp t=>
  simp only[kO] at hu;rw[l0] at hu;split at hu
  ·rename_i e;subst e;cases hu;exact h
  ·exact aA _ an u hu
 | const v=>exact aA _ an u hu
 | global g=>exact aA _ an u hu
 | func f=>exact aA _ an u hu
theorem b6.Xn(az:ue L [e] i=0)(aH:o6 [e] i=0)(al:o.guard=none)(aN:o.dst=some d)(hn:Nat.blt d n=true)(bq:Nat.beq d gd=false)(h:af P H (aX ((gd,hf)::env)) o x)(next:b6 P (uk H hf kY gd) L [e] n (i+1) rest ((d,x)::env) K):b6 P (uk H hf kY gd) L [e] n i (o::rest) env K:=
 ⟨x,λj ab ae=>by
  obtain rfl:j=0:=by omega
  rw[aH];refine iU.of al (λB I w r a hw hm aA an=>?_);refine (h B I w r a _ hw hm.1 (λ_ h=>h) (NR aA hm.2)).mono (λv w' ⟨aQ,cI,a2,a3,a4⟩=>⟨aQ,cI,a2,⟨a3,?_⟩,a4⟩) (λ_ _ h=>h);show Rel aQ w' hf ((a.put o.dst v).tmps.getD gd undef);rw[aN,oR (λe=>by subst e;simp at bq)];exact hm.2.bQ a2.keeps,jg aN hn,ih⟩
theorem b6.Xo(aH:o6 [e] i=0)(al:o.guard=none)(aN:o.dst=some d)(hn:Nat.blt d n=true)(bq:Nat.beq d gd=false)(h:af P H (aX env) o x)(next:b6 P (uk H hf kY gd) L [e] n (i+1) rest ((d,x)::env) K):b6 P (uk H hf kY gd) L [e] n i (o::rest) env K:=
 ⟨x,λj ab ae=>by
  rw[aH];refine iU.of al (λB I w r a hw hm aA an=>?_);refine (h B I w r a _ hw hm.1 (λ_ h=>h) aA).mono (λv w' ⟨aQ,cI,a2,a3,a4⟩=>⟨aQ,cI,a2,⟨a3,?_⟩,a4⟩) (λ_ _ h=>h);have e:(a.put o.dst v).tmps.getD gd undef=a.tmps.getD gd undef:=by rw[aN];exact oR (λe=>by subst e;simp at bq)
  match j with
  | 0=>show Rel aQ w' hf _;rw[e];exact Rel.bQ a2.keeps hm.2
  | j+1=>show Rel aQ w' kY _;rw[e];exact Rel.bQ a2.keeps hm.2,jg aN hn,ih⟩
theorem b6.Xp(az:ue L [e] i=0)(aH:o6 [e] i=1)(al:o.guard=none)(aN:o.dst=some gd)(hn:Nat.blt gd n=true)(h:af P H (aX env) o kY)(next:b6 P (uk H hf kY gd) L [e] n (i+1) rest ((gd,.any)::env) K):b6 P (uk H hf kY gd) L [e] n i (o::rest) env K:=
 ⟨.any,λj ab ae=>by
  obtain rfl:j=0:=by omega
  rw[aH];refine iU.of al (λB I w r a hw hm aA an=>?_);refine (h B I w r a _ hw hm.1 (λ_ h=>h) aA).mono (λv w' ⟨aQ,cI,a2,a3,a4⟩=>⟨aQ,cI,a2,⟨a3,?_⟩,.any _⟩) (λ_ _ h=>h);show Rel aQ w' kY ((a.put o.dst v).tmps.getD gd undef);rw[aN,tN (an gd aN)];exact a4,jg aN hn,ih⟩
end
theorem NS{P:Program}{t e:TypeId}{n k:Nat}{bY:List Value}(NT:P.underlying t=some (.slice e))(aK:zK P t=some (k,bY))(parts:Array (Nat×Value))(us:Array Value)(eY:n*k<=16777216)(ju:0<n*k)
  (h:Instr.fill (λi=>some (i*k,k)) (l4 n k bY).toArray parts.toList=some us) (w:World):
  (Instr.buildSlice t n parts).run P w= .ok (.slice (some ⟨w.heap.size,0,none⟩) n n) (w.alloc (.cells us e)):=by
 obtain⟨e',i,z,hu,av,an,ao,jv⟩:=Gl aK;obtain rfl:e'=e:=by rw[hu] at NT;cases NT;rfl
 have Gm: ¬n*i.size>2^24:=by rw[ao];omega
 have Gn: ¬n*i.size=0:=by rw[ao];omega
 have aP:Instr.fill (λj=>some (j*i.size,i.size)) ((Array.range (n*i.size)).map (z.cells[· %z.cells.size]!)) parts.toList=some us:=?_
 ·simp[Instr.buildSlice,run_underlying hu,sizeOf,typeInfo,zeroValue,av,an,Gm,Gn,aP,newRow]
 rw[ao, <-h];congr 1;apply Array.ext';simp only[l4,Array.toList_map,Array.toList_range, <-jv];refine List.map_congr_left λj _=>?_;simp[Array.getElem!_eq_getD,Array.getD_eq_getD_getElem?,List.getD_eq_getElem?_getD]
section
variable{c:Ctx}{r:Option Nat}{P:Program}{ops:Array Oper}{l rest:List Oper}{o:Oper}{env:List (Nat×aa)}{H:List aj}{Q:Exit->Act->World->Prop}{d:Nat}
theorem NU{ρ:Nat->Option aa}{t e dA:Nat}{n k:Nat}{bH:Array (Nat×Operand)}{bY:List Value}{ys:List (Bool×aa)}{els:List (List aa)}[cy:hv P t (e,k,dA)][hR:la P t (k,bY)](h:o.op= .buildSlice t n bH)
  (hy:j2 ρ (bH.toList.map (·.2))=some ys) (al:ys.all (·.1)=true) (vx:(partsOf bH.toList ys).map (λx=>dq x.2)=els) (hlen:Nat.beq els.length n=true) (ao:els.all (λe=>Nat.beq e.length k)=true)
  (eY:Nat.ble (n*k) 16777216=true) (ju:Nat.blt 0 (n*k)=true)
  (aP:nx (λi=>some (i*k,k)) ((l4 n k bY).map .val) (partsOf bH.toList ys)=some els.flatten)
  {B:Nat} {I:a8} {w:World} {r:Option Nat} {a:Act} (hw:ck B I w) (az:br B I w H) (aA:gi I w ρ a o):
  cM P r o a w (λv w'=>∃aQ,ck B aQ w'/\Ext B I w aQ w'/\br B aQ w' (.own e k v::H)/\Rel aQ w' (.as (.aF k els) v) v) (λ_ _=>False):=by
 obtain⟨a6,aW⟩:=CX aA bH cx hy al;obtain⟨us,ab,ae⟩:=zG _ _ ((l4 n k bY).map .val) (l4 n k bY).toArray els.flatten (by simpa using l1 _) a6 aW aP;have eY:=Nat.le_of_ble_eq_true eY;have ju:0<n*k:=Nat.le_of_ble_eq_true ju;obtain⟨i,z,hu,av,an,rG,lx,jv,jw⟩:=qB cy.h;have dW:=NS hu hR.h (bH.map λ(i,x)=>(i,a.eval x)) us eY ju ab w;obtain⟨cI,a2,a3,a4⟩:=a8.vj hw e us;have CV:=Nat.eq_of_beq_eq_true hlen;have V8:n<=n*k:=by
  rcases Nat.eq_zero_or_pos k with rfl | h6
  ·simp at ju
  ·exact Nat.le_mul_of_pos_right n h6
 have dP:∀x∈els,x.length=k:=λx ag=>Nat.eq_of_beq_eq_true (List.all_eq_true.1 ao x ag);have qD:us.size=n*k:=by
  have:=ae.length;rw[qE dP,CV] at this;simpa using this
 have fx:(w.alloc (.cells us e)).ownsRow B e k (.slice (some ⟨w.heap.size,0,none⟩) n n) n us.toList:=⟨by simpa using qD,.inr ⟨w.heap.size,n,us,rfl,hw.base,heap_alloc_new w _,Nat.le_refl _,lu,qD,by rw[<-qD, <-Array.length_toList];exact List.take_length⟩⟩;have aD:=a3 _ az;refine cM.fN cB (v:=.slice (some ⟨w.heap.size,0,none⟩) n n) (w':=w.alloc (.cells us e)) xJ ⟨_,cI,a2,⟨λf aP=>?_,List.pairwise_cons.2 ⟨λf aP b aw e=>?_,aD.apart⟩⟩,?_⟩
 ·rcases List.mem_cons.1 aP with rfl | aP
  ·refine⟨n,us.toList,fx,λg al o yb aA=>?_⟩;simp[Value.ownBlock] at al;subst al;rcases aA with aA | ⟨_,aA⟩
   ·exact absurd (hw.lt aA) (Nat.lt_irrefl _)
   ·omega
  ·exact aD.ok f aP
 ·simp[aj.eX,Value.ownBlock] at aw;subst aw;exact absurd (aj.nu (az.ok f aP) e).2 (Nat.lt_irrefl _)
 ·refine .as _ _ (.aF _ _ _ _ _ _ CV (Nat.le_refl _) lu ?_);exact oj els 0 dP (a4 _ ae)
theorem au.Ds{t e dA:Nat}{n k:Nat}{bH:Array (Nat×Operand)}{bY:List Value}{ys:List (Bool×aa)}{els:List (List aa)}[cy:hv P t (e,k,dA)][hR:la P t (k,bY)](cU:o.guard=none)(aN:o.dst=some d)(hn:Nat.blt d c.n=true)(h:o.op= .buildSlice t n bH)
  (hy:j2 (aX env) (bH.toList.map (·.2))=some ys) (al:ys.all (·.1)=true) (vx:(partsOf bH.toList ys).map (λx=>dq x.2)=els) (hlen:Nat.beq els.length n=true) (ao:els.all (λe=>Nat.beq e.length k)=true)
  (eY:Nat.ble (n*k) 16777216=true) (ju:Nat.blt 0 (n*k)=true)
  (aP:nx (λi=>some (i*k,k)) ((l4 n k bY).map .val) (partsOf bH.toList ys)=some els.flatten)
  (next:∀v,au c r P ops rest ⟨(d,.as (.aF k els) v)::env,.own e k v::H⟩ Q):au c r P ops (o::rest) ⟨env,H⟩ Q:=by
 intro a w s;refine wpListIn_plain cU λK ca=>?_;obtain⟨I,hw,he,az,aC⟩:=s.mem;refine (NU h hy al vx hlen ao eY ju aP hw az (aC.ops o)) K Q ?_ (λ_ _ h=>h.elim);rintro v w' ⟨aQ,aW,cN,gO,mv⟩;refine ca _ _ (next v _ _ ⟨jr,jq,aQ,aW,he.trans cN,gO,?_⟩);have:=(aC.bQ cN.keeps).put (dst:=some d) oQ mv;rw[aN];exact this
end
def Ht(P:Program)(f:FuncId)(xs:List aa)(e k:Nat)(y:aa):Prop:=∀H,b1 P f xs H (λx H'=>∃v,x= .as y v/\H'= .own e k v::H) (λ_ _=>False)
section
variable{c:Ctx}{r:Option Nat}{P:Program}{l:List Oper}{Q:Exit->Act->World->Prop}
end
section
variable{P:Program}{L rest:List Oper}{ss:List Nat}{n i d:Nat}{o:Oper}{env:List (Nat×aa)}{K:List (Nat×aa)->Prop}{x:aa}{H:List aj}{a6 lI aW c1 d1 d2:Nat}
theorem Ht.runs{f:FuncId}{xs:List aa}{e k:Nat}{y:aa}{ρ:Nat->Option aa}(ak:gZ P ρ o f xs)(h:Ht P f xs e k y)(H:List aj){B:Nat}{I:a8}{w:World}{r:Option Nat}{a:Act}(hw:ck B I w)(az:br B I w H)(aA:gi I w ρ a o):
  cM P r o a w (λv w'=>∃aQ,ck B aQ w'/\Ext B I w aQ w'/\br B aQ w' (.own e k v::H)/\Rel aQ w' y v) (λ_ _=>False):=by
 obtain⟨vs,ab,ae⟩:=ak.run I w a aA;obtain⟨cA,ij⟩:=h H;refine cM.qs ak.rA (ae cA) ((ij B I w vs hw az ab).mono λe w' aK=>?_);obtain⟨aQ,H',dc,cc,cW,aK⟩:=aK;rcases aK with⟨v,x,rfl,ag,u,rfl,rfl⟩ | ⟨v,x,rfl,_,e5⟩
 ·cases ag with
  | as _ _ ag=>exact⟨aQ,dc,cc,cW,ag⟩
 ·exact e5.elim
end
def kc:Value->Nat
 | .pointer (some a)=>a.block
 | _=>0
inductive gy where
 | own (i d e k:Nat) (y:aa)
 | mX (i d:Nat) (t:TypeId) (bY:List Value)
def gy.i:gy->Nat
 | .own i _ _ _ _=>i
 | .mX i _ _ _=>i
def gy.d:gy->Nat
 | .own _ d _ _ _=>d
 | .mX _ d _ _=>d
def gy.cv:gy->Value->aj
 | .own _ _ e k _,v=>.own e k v
 | .mX _ _ t bY,v=>.aI (kc v) t (bY.map .val)
def gy.NV:gy->Value->Prop
 | .own _ _ _ _ _,_=>True
 | .mX _ _ _ _,v=>v= .pointer (some ⟨kc v,0,none⟩)
def gy.NW:gy->Value->aa
 | .own _ _ _ _ y,v=>.as y v
 | .mX _ _ _ _,v=>.p (kc v) 0
def gy.y:gy->aa
 | .own _ _ _ _ y=>y
 | .mX _ _ _ _=>.any
def gy.mem(S:Nat->Bool)(f:Nat->Value)(es:List gy):List aj:=es.filterMap λs=>if S s.i then some (s.cv (f s.d)) else none
structure rK where
 i:Nat
 d:Nat
 ds:List Nat
 x:List Value->aa
def NX(H:List aj)(es:List gy)(ls:List rK)(S:Nat->Bool):Mem:=λB a I w=>
 (∀s∈es,S s.i=true->s.NV (a.tmps.getD s.d undef))/\br B I w (gy.mem S (λd=>a.tmps.getD d undef) es++H)/\∀t∈ls,S t.i=true->Rel I w (t.x (t.ds.map λd=>a.tmps.getD d undef)) (a.tmps.getD t.d undef)
def Hu(l:List Oper)(es:List gy)(ls:List rK)(k m:Nat):Bool:=(es.all λs=>Nat.ble k s.i && Nat.blt s.i m) && (ls.all λt=>Nat.ble k t.i && Nat.blt t.i m && (es.all λs=>!Nat.beq s.i t.i && !Nat.beq s.d t.d) && t.ds.all λd=>es.any λs=>Nat.beq s.d d && ((h5 l []).getD t.i 0).testBit s.i) && decide (es.map gy.i).Nodup && decide (es.map gy.d).Nodup && decide (ls.map rK.i).Nodup && decide (ls.map rK.d).Nodup
theorem Xq{l:List Oper}{es:List gy}{ls:List rK}{k m:Nat}(h:Hu l es ls k m=true):(∀s∈es,Nat.ble k s.i=true/\Nat.blt s.i m=true)/\(∀t∈ls,Nat.ble k t.i=true/\Nat.blt t.i m=true/\(∀s∈es,s.i≠t.i/\s.d≠t.d)/\∀d∈t.ds,∃s∈es,s.d=d/\((h5 l []).getD t.i 0).testBit s.i=true)/\(es.map gy.i).Nodup/\(es.map gy.d).Nodup/\(ls.map rK.i).Nodup/\(ls.map rK.d).Nodup:=by
 have ne:∀{a b:Nat},Nat.beq a b=false->a≠b:=λh e=>by subst e;simp at h
 simp only[Hu,Bool.and_eq_true,List.all_eq_true,decide_eq_true_eq,List.any_eq_true,Bool.not_eq_true'] at h;obtain⟨⟨⟨⟨⟨ab,ae⟩,aD⟩,aV⟩,bl⟩,cP⟩:=h;refine⟨ab,λt ht=>?_,aD,aV,bl,cP⟩;obtain⟨⟨⟨cI,a2⟩,a3⟩,a4⟩:=ae t ht;refine⟨cI,a2,λs aH=>⟨ne (a3 s aH).1,ne (a3 s aH).2⟩,λd aN=>?_⟩;obtain⟨s,aH,kd,kf⟩:=a4 d aN;exact⟨s,aH,Nat.eq_of_beq_eq_true kd,kf⟩
theorem mem_some{S:Nat->Bool}{f:Nat->Value}{s:gy}{r:List gy}(h:S s.i=true):gy.mem S f (s::r)=s.cv (f s.d)::gy.mem S f r:=List.filterMap_cons_some (by rw[if_pos h])
theorem Xr{S:Nat->Bool}{f:Nat->Value}{s:gy}{r:List gy}(h:S s.i=false):gy.mem S f (s::r)=gy.mem S f r:=List.filterMap_cons_none (by rw[if_neg zq])
theorem NY{f:Nat->Value}{k:Nat}:∀{es:List gy},(∀s∈es,Nat.blt s.i k=false)->gy.mem (λi=>Nat.blt i k) f es= []
 | [],_=>rfl
 | s::r,h=>by rw[Xr (h s (.head _)),NY λu hu=>h u (.tail _ hu)]
theorem NZ{f:Nat->Value}{m:Nat}:∀{es:List gy},(∀s∈es,Nat.blt s.i m=true)->gy.mem (λi=>Nat.blt i m) f es=es.map λs=>s.cv (f s.d)
 | [],_=>rfl
 | s::r,h=>by rw[mem_some (h s (.head _)),NZ λu hu=>h u (.tail _ hu)];rfl
theorem fs.made{I:a8}{w:World}{a:Act}{env:List (Nat×aa)}(h:fs I w (aX env) a):∀(es:List gy),(∀s∈es,s.NV (a.tmps.getD s.d undef)/\aX env s.d=some s.y)->fs I w (aX (es.map (λs=>(s.d,s.NW (a.tmps.getD s.d undef)))++env)) a
 | [],_=>h
 | s::r,aC=>λt x ag=>by
  rw[List.map_cons,List.cons_append,l0] at ag;split at ag
  ·rename_i e;cases ag;subst e;have ab:=aC s (.head _);cases s with
   | own i d e k y=>exact .as _ _ (h d y ab.2)
   | mX i d t bY=>
    have ae:a.tmps.getD d undef= .pointer (some ⟨kc (a.tmps.getD d undef),0,none⟩):=ab.1;show Rel I w (.p (kc (a.tmps.getD d undef)) 0) (a.tmps.getD d undef);generalize a.tmps.getD d undef=v at ae;rw[ae];exact .val _
  ·exact fs.made h r (λu hu=>aC u (.tail _ hu)) t x ag
section
variable{c:Ctx}{r:Option Nat}{P:Program}{l:List Oper}{Q:Exit->Act->World->Prop}
theorem fs.late{I:a8}{w:World}{a:Act}{env:List (Nat×aa)}(h:fs I w (aX env) a):∀(ls:List rK),(∀t∈ls,Rel I w (t.x (t.ds.map λd=>a.tmps.getD d undef)) (a.tmps.getD t.d undef))->fs I w (aX (ls.map (λt=>(t.d,t.x (t.ds.map λd=>a.tmps.getD d undef)))++env)) a
 | [],_=>h
 | t::r,aC=>λu x ag=>by
  rw[List.map_cons,List.cons_append,l0] at ag;split at ag
  ·rename_i e;cases ag;subst e;exact aC t (.head _)
  ·exact fs.late h r (λs aH=>aC s (.tail _ aH)) u x ag
theorem bk.G0{env:List (Nat×aa)}{H:List aj}(es:List gy)(ls:List rK)(k m n:Nat)(hn:c.n=n)(dQ:o2 l k m=true)(lC:Hu l es ls k m=true)(gv:Nat.ble k m=true)(en:Nat.ble m l.length=true)(iR:(l.all λo=>(looks l o).all λt=>Nat.blt t n)=true)
  (h:bp P (NX H es ls) l c.n k ((l.drop k).take (m - k)) env λenv=>(∀s∈es,aX env s.d=some s.y)/\∀f:Nat->Value,bk c r P l Q m ⟨ls.map (λt=>(t.d,t.x (t.ds.map f)))++(es.map (λs=>(s.d,s.NW (f s.d)))++env),es.map (λs=>s.cv (f s.d))++H⟩):bk c r P l Q k ⟨env,H⟩:=by
 obtain⟨gI,CZ,sX,tU,_⟩:=Xq lC;have aI:∀i,Nat.ble k i=true->Nat.blt i k=false:=λi av=>by
  have ab:=Nat.le_of_ble_eq_true av;rw[Bool.eq_false_iff];intro aw;have:=Nat.lt_of_succ_le zp;omega
 have an:∀s∈es,Nat.blt s.i k=false:=λs aH=>aI _ (gI s aH).1;refine bk.Ae (M:=NX H es ls) dQ (Nat.le_of_ble_eq_true gv) (Nat.le_of_ble_eq_true en) sq (λB a I w az=>⟨λs aH ab=>?_,?_,λt ht ab=>?_⟩) (h.mono λenv ⟨he,aN⟩ a w I dg dh ea gP jA kV=>?_)
 ·have ab:Nat.blt s.i k=true:=ab;rw[an s aH] at ab;cases ab
 ·rw[NY an];exact az
 ·have ab:Nat.blt t.i k=true:=ab;rw[aI _ (CZ t ht).1] at ab;cases ab
 ·obtain⟨aw,az,ax⟩:=jA;have cW:br c.B I w (es.map (λs=>s.cv (a.tmps.getD s.d undef))++H):=by rwa [NZ λs aH=>(gI s aH).2] at az
  exact aN (λd=>a.tmps.getD d undef) a w ⟨dg,dh,I,ea,gP,cW,(kV.made es λs aH=>⟨aw s aH (gI s aH).2,he s aH⟩).late ls λt ht=>ax t ht (CZ t ht).2.1⟩
end
section
variable{P:Program}{L rest:List Oper}{es:List gy}{ls:List rK}{n i d:Nat}{o:Oper}{env:List (Nat×aa)}{K:List (Nat×aa)->Prop}{x:aa}{H:List aj}
end
abbrev p5:=List (Option Value)
def mB(xs:Nat->p5->aa)(J:p5):Nat->List cg->List Bool->List (Nat×aa)
 | q,e::es,true::p=>(e.d,xs q J)::mB xs J (q+1) es p
 | q,_::es,false::p=>mB xs J (q+1) es p
 | _,_,_=>[]
def um(hd:p5->List aj)(xs:Nat->p5->aa)(es:List cg)(S:Nat->Bool):Mem:=λB a I w=>
 br B I w (hd (cg.inst es (cg.pat es S) λd=>a.tmps.getD d undef))/\∀q e,es[q]? =some e->S e.i=true->Rel I w (xs q (cg.inst es (cg.pat es S) λd=>a.tmps.getD d undef)) (a.tmps.getD e.d undef)
theorem Dt{xs:Nat->p5->aa}{J:p5}{env:List (Nat×aa)}{t:Nat}{y:aa}{S:Nat->Bool}:∀(es:List cg) (q:Nat),aX (mB xs J q es (cg.pat es S)++env) t=some y->(∃j e,es[j]? =some e/\S e.i=true/\e.d=t/\y=xs (q+j) J)\/aX env t=some y
 | [],q,h=>.inr h
 | e::es,q,h=>by
  simp only[cg.pat,List.map_cons] at h;cases aw:S e.i with
  | true=>
   rw[aw] at h;simp only[mB,List.cons_append,l0] at h;split at h
   ·rename_i a6;cases h;exact .inl ⟨0,e,rfl,aw,a6.symm,rfl⟩
   ·rcases Dt es (q+1) h with⟨j,e',ab,ae,aD,aV⟩ | h
    ·exact .inl ⟨j+1,e',ab,ae,aD,by rw[aV,show q+1+j=q+(j+1) by omega]⟩
    ·exact .inr h
  | false=>
   rw[aw] at h;rcases Dt es (q+1) h with⟨j,e',ab,ae,aD,aV⟩ | h
   ·exact .inl ⟨j+1,e',ab,ae,aD,by rw[aV,show q+1+j=q+(j+1) by omega]⟩
   ·exact .inr h
theorem Hv{I:a8}{w:World}{a:Act}{o:Oper}{env:List (Nat×aa)}{xs:Nat->p5->aa}{J:p5}{S:Nat->Bool}{es:List cg}(ao:∀q e,es[q]? =some e->S e.i=true->Rel I w (xs q J) (a.tmps.getD e.d undef))(h:gi I w (aX env) a o):
  gi I w (aX (mB xs J 0 es (cg.pat es S)++env)) a o:=λx ag y hy=>by
 cases x with
 | tmp u=>
  simp only[kO] at hy;rcases Dt es 0 hy with⟨j,e,ab,ae,aD,aV⟩ | hy
  ·have:=ao j e ab ae;rw[Nat.zero_add] at aV;rw[aV, <-aD];exact this
  ·exact h _ ag y hy
 | const v=>exact h _ ag y hy
 | global g=>exact h _ ag y hy
 | func f=>exact h _ ag y hy
def et(X:jP)(P:Program)(H:List aj)(H':Value->List aj)(x:Value->aa)(ρ:Nat->Option aa)(o:Oper):Prop:=∀(B:Nat) (I:a8) (w:World) (r:Option Nat) (a:Act),ck B I w->br B I w H->gi I w ρ a o->
 cM P r o a w (λv w'=>∃aQ,ck B aQ w'/\Ext B I w aQ w'/\br B aQ w' (H' v)/\Rel aQ w' (x v) v) (X B I w)
section
variable{c:Ctx}{r:Option Nat}{P:Program}{l:List Oper}{Q:Exit->Act->World->Prop}{X:jP}
theorem bk.uo{env:List (Nat×aa)}{H:List aj}(es:List cg)(hd:p5->List aj)(xs:Nat->p5->aa)(k m n:Nat)(hn:c.n=n)(dQ:o2 l k m=true)(lC:(es.all λe=>Nat.ble k e.i && Nat.blt e.i m)=true)(gv:Nat.ble k m=true)(en:Nat.ble m l.length=true)(iR:(l.all λo=>(looks l o).all λt=>Nat.blt t n)=true)
  (ai:hd (es.map λ_=>none)=H)
  (oe:∀(I:a8) (w:World) (a:Act) ch w',a.defers=c.ds->a.tmps.size=c.n->ck c.B I w->Ext c.B c.cl c.aO I w->X c.B I w ch w'->Q (.panic ch) a w')
  (h:kA X P (um hd xs es) l c.n k ((l.drop k).take (m - k)) env λenv=>∀(f:Nat->Value),bk c r P l Q m ⟨mB xs (es.map λe=>some (f e.d)) 0 es (es.map λ_=>true)++env,hd (es.map λe=>some (f e.d))⟩):bk c r P l Q k ⟨env,H⟩:=by
 simp only[List.all_eq_true,Bool.and_eq_true] at lC;have aI:∀i,Nat.ble k i=true->Nat.blt i k=false:=λi av=>by
  have ab:=Nat.le_of_ble_eq_true av;rw[Bool.eq_false_iff];intro aw;have:=Nat.lt_of_succ_le zp;omega
 refine bk.Ng (M:=um hd xs es) dQ (Nat.le_of_ble_eq_true gv) (Nat.le_of_ble_eq_true en) sq (λB a I w az=>⟨?_,λq e he aH=>?_⟩) oe (h.mono λenv aN a w I dg dh ea gP jA kV=>?_)
 ·have e:cg.inst es (cg.pat es λi=>Nat.blt i k) (λd=>a.tmps.getD d undef)=es.map λ_=>none:=by
   rw[rJ];exact List.map_congr_left λe he=>by rw[aI _ (lC e he).1];rfl
  rw[e,ai];exact az
 ·have aD:Nat.blt e.i k=true:=aH;rw[aI _ (lC e (List.mem_of_getElem? he)).1] at aD;cases aD
 ·obtain⟨az,aK⟩:=jA;have e:cg.inst es (cg.pat es λi=>Nat.blt i m) (λd=>a.tmps.getD d undef)=es.map λe=>some (a.tmps.getD e.d undef):=by
   rw[rJ];exact List.map_congr_left λe he=>by rw[(lC e he).2];rfl
  have aW:cg.pat es (λi=>Nat.blt i m)=es.map λ_=>true:=List.map_congr_left λe he=>(lC e he).2;rw[e] at az aK;refine aN (λd=>a.tmps.getD d undef) a w ⟨dg,dh,I,ea,gP,az,λt y hy=>?_⟩;rw[<-aW] at hy;rcases Dt es 0 hy with⟨j,e',ab,ae,aD,aV⟩ | hy
  ·have:=aK j e' ab ae;rw[Nat.zero_add] at aV;rw[aV, <-aD];exact this
  ·exact kV t y hy
end
section
variable{P:Program}{L rest:List Oper}{es:List cg}{n i d:Nat}{o:Oper}{env:List (Nat×aa)}{K:List (Nat×aa)->Prop}{x:aa}{hd:p5->List aj}{xs:Nat->p5->aa}{X:jP}
theorem bp.cS(lH:List (List Bool))(av:(es.all λe=>!Nat.beq e.i i && !Nat.beq e.d d)=true)(aP:cg.fits L es i lH=true)(al:o.guard=none)(aN:o.dst=some d)(hn:Nat.blt d n=true)
  (h:sY lH λp=>∀f,af P (hd (cg.inst es p f)) (aX (mB xs (cg.inst es p f) 0 es p++env)) o x) (next:kA X P (um hd xs es) L n (i+1) rest ((d,x)::env) K):kA X P (um hd xs es) L n i (o::rest) env K:=
 ⟨x,λS m1 qU mA=>iU.of al (λB I w r a hw hm aA an=>by
  obtain⟨hm,aK⟩:=hm;simp only[List.all_eq_true,Bool.and_eq_true,Bool.not_eq_true'] at av;have ne:∀{a b:Nat},Nat.beq a b=false->a≠b:=λh e=>by subst e;simp at h
  refine (h.at _ (cg.As aP m1 qU mA) (λd=>a.tmps.getD d undef) B I w r a _ hw hm (λe he=>he) (Hv aK aA)).mono (λv w' ⟨aQ,cI,a2,a3,a4⟩=>⟨aQ,cI,a2,?_,a4⟩) (λ_ _ h=>h.elim);have e:cg.inst es (cg.pat es (fu S i)) (λd=>(a.put o.dst v).tmps.getD d undef)=cg.inst es (cg.pat es S) (λd=>a.tmps.getD d undef):=by
   rw[rJ,rJ];exact List.map_congr_left λe he=>by rw[lB (ne (av e he).1),aN,oR (ne (av e he).2)]
  refine⟨by rw[e];exact a3,λq e' cc aH=>?_⟩;have N0:=List.mem_of_getElem? cc;rw[e,show (a.put o.dst v).tmps.getD e'.d undef=a.tmps.getD e'.d undef by rw[aN,oR (ne (av e' N0).2)]];rw[lB (ne (av e' N0).1)] at aH;exact (aK q e' cc aH).bQ a2.keeps),jg aN hn,ih⟩
theorem bp.mC(q:Nat)(lH:List (List Bool)){e:cg}(he:es[q]? =some e)(av:e.i=i)(aA:((es.take q++es.drop (q+1)).all λe'=>!Nat.beq e'.i i && !Nat.beq e'.d e.d)=true)(aP:cg.fits L es i lH=true)(al:o.guard=none)(aN:o.dst=some e.d)(hn:Nat.blt e.d n=true)
  (h:sY lH λp=>∀f,et X P (hd (cg.inst es p f)) (λv=>hd ((cg.inst es p f).set q (some v))) (λv=>xs q ((cg.inst es p f).set q (some v))) (aX (mB xs (cg.inst es p f) 0 es p++env)) o/\∀v ff,p[ff]? =some true->xs ff ((cg.inst es p f).set q (some v))=xs ff (cg.inst es p f))
  (next:kA X P (um hd xs es) L n (i+1) rest ((e.d,.any)::env) K):kA X P (um hd xs es) L n i (o::rest) env K:=
 ⟨.any,λS m1 qU mA=>iU.of al (λB I w r a hw hm oh an=>by
  obtain⟨hm,aK⟩:=hm;simp only[List.all_eq_true,Bool.and_eq_true,Bool.not_eq_true'] at aA;have ne:∀{a b:Nat},Nat.beq a b=false->a≠b:=λh e=>by subst e;simp at h
  obtain⟨ao,eh⟩:=h.at _ (cg.As aP m1 qU mA) (λd=>a.tmps.getD d undef);refine (ao B I w r a hw hm (Hv aK oh)).mono (λv w' ⟨aQ,cI,a2,a3,a4⟩=>⟨aQ,cI,a2,?_,.any _⟩) (λ_ _ h=>h);have Au:∀ff e',ff≠q->es[ff]? =some e'->e'.i≠e.i/\(a.put o.dst v).tmps.getD e'.d undef=a.tmps.getD e'.d undef:=λff e' bd cc=>by
   have vQ:e'∈es.take q++es.drop (q+1):=by
    rw[List.mem_append];rcases Nat.lt_or_gt_of_ne bd with ab | ab
    ·exact .inl (List.mem_of_getElem? (i:=ff) (by rw[List.getElem?_take,if_pos ab];exact cc))
    ·exact .inr (List.mem_of_getElem? (i:=ff - (q+1)) (by rw[List.getElem?_drop,show q+1+(ff - (q+1))=ff by omega];exact cc))
   refine⟨by rw[av];exact ne (aA _ vQ).1,?_⟩;rw[aN];exact oR (ne (aA _ vQ).2)
  have Av:(a.put o.dst v).tmps.getD e.d undef=v:=by rw[aN];exact tN (an _ aN)
  have h4:=Hq (es:=es) (S:=S) (f:=λd=>a.tmps.getD d undef) (f':=λd=>(a.put o.dst v).tmps.getD d undef) (u:=v) he Av Au;rw[<-av];refine⟨by rw[h4];exact a3,λff e' cc aH=>?_⟩;rw[h4];by_cases bd:ff=q
  ·subst bd;rw[he] at cc;cases cc;rw[Av];exact a4
  ·obtain⟨cV,c7⟩:=Au ff e' bd cc;rw[lB cV] at aH;rw[c7,eh v ff (by rw[cg.pat,List.getElem?_map,cc];exact congrArg some aH)];exact (aK ff e' cc aH).bQ a2.keeps),jg aN hn,ih⟩
theorem bp.N1(q:Nat)(lH:List (List Bool)){e:cg}(he:es[q]? =some e)(av:e.i=i)(aA:((es.take q++es.drop (q+1)).all λe'=>!Nat.beq e'.i i)=true)(aP:cg.fits L es i lH=true)(al:o.guard=none)(aN:o.dst=none)
  (h:sY lH λp=>∀f u,(et X P (hd (cg.inst es p f)) (λ_=>hd ((cg.inst es p f).set q (some u))) (λ_=>.any) (aX (mB xs (cg.inst es p f) 0 es p++env)) o/\xs q ((cg.inst es p f).set q (some u))= .any)/\∀ff,p[ff]? =some true->xs ff ((cg.inst es p f).set q (some u))=xs ff (cg.inst es p f))
  (next:kA X P (um hd xs es) L n (i+1) rest env K):kA X P (um hd xs es) L n i (o::rest) env K:=
 ⟨.any,λS m1 qU mA=>iU.of al (λB I w r a hw hm oh an=>by
  obtain⟨hm,aK⟩:=hm;simp only[List.all_eq_true,Bool.not_eq_true'] at aA;have ne:∀{a b:Nat},Nat.beq a b=false->a≠b:=λh e=>by subst e;simp at h
  obtain⟨⟨ao,ag⟩,eh⟩:=h.at _ (cg.As aP m1 qU mA) (λd=>a.tmps.getD d undef) (a.tmps.getD e.d undef);refine (ao B I w r a hw hm (Hv aK oh)).mono (λv w' ⟨aQ,cI,a2,a3,a4⟩=>⟨aQ,cI,a2,?_,.any _⟩) (λ_ _ h=>h);have N2:a.put o.dst v=a:=by rw[aN];rfl
  have Au:∀ff e',ff≠q->es[ff]? =some e'->e'.i≠e.i/\(a.put o.dst v).tmps.getD e'.d undef=a.tmps.getD e'.d undef:=λff e' bd cc=>by
   have vQ:e'∈es.take q++es.drop (q+1):=by
    rw[List.mem_append];rcases Nat.lt_or_gt_of_ne bd with ab | ab
    ·exact .inl (List.mem_of_getElem? (i:=ff) (by rw[List.getElem?_take,if_pos ab];exact cc))
    ·exact .inr (List.mem_of_getElem? (i:=ff - (q+1)) (by rw[List.getElem?_drop,show q+1+(ff - (q+1))=ff by omega];exact cc))
   exact⟨by rw[av];exact ne (aA _ vQ),by rw[N2]⟩
  have h4:=Hq (es:=es) (S:=S) (f:=λd=>a.tmps.getD d undef) (f':=λd=>(a.put o.dst v).tmps.getD d undef) (u:=a.tmps.getD e.d undef) he (by rw[N2]) Au;rw[<-av];refine⟨by rw[h4];exact a3,λff e' cc aH=>?_⟩;rw[h4];by_cases bd:ff=q
  ·subst bd;rw[ag];exact .any _
  ·obtain⟨cV,c7⟩:=Au ff e' bd cc;rw[lB cV] at aH;rw[c7,eh ff (by rw[cg.pat,List.getElem?_map,cc];exact congrArg some aH)];exact (aK ff e' cc aH).bQ a2.keeps),by rw[aN];rfl,ih⟩
end
section
variable{P:Program}{H:List aj}{ρ:Nat->Option aa}{o:Oper}{X:jP}
theorem et.qI{f:FuncId}{ys:List aa}{bw:aa->List aj->Prop}{H':Value->List aj}{x:Value->aa}(ak:gZ P ρ o f ys)(h:∀B,dC B P f ys H bw (λ_ _=>False))(bd:∀v y H1,bw y H1->H' v=H1/\x v=y):et X P H H' x ρ o:=λB I w r a hw az aA=>
 (x3 (c:=⟨B,I,w,0,[]⟩) ak (h B) hw az aA).mono (λv w' hR=>by
  obtain⟨aQ,db,z,cI,a2,a3,a4,a5⟩:=hR;obtain⟨a6,aW⟩:=bd v _ _ a5;exact⟨aQ,cI,a2,by rw[a6];exact a3,by rw[aW];exact a4⟩) (λ_ _ h=>h.elim)
theorem et.oe{f:FuncId}{ys:List aa}{dK:List aj}{pv:aa}{v0:Value}{H':Value->List aj}{x:Value->aa}(ak:gZ P ρ o f ys)(h:o9 P f ys H none dK pv)(aC:pv.Const v0):et (Xi v0 dK) P H H' x ρ o:=λB I w r a hw az aA=>by
 obtain⟨vs,ab,ae⟩:=ak.run I w a aA;obtain⟨cA,ij⟩:=h;refine cM.qs ak.rA (ae cA) ((ij B I w vs hw az ab).mono λe w' aK=>?_);obtain⟨aQ,H1,kd,kf,vR,aK⟩:=aK;rcases aK with⟨dr,lb,rfl,_,e⟩ | ⟨dr,lb,rfl,ag,_,rfl,rfl⟩
 ·cases e
 ·rw[aC.is _ _ _ ag];exact⟨rfl,aQ,kd,kf,vR⟩
theorem et.pop{y:aa}{H':Value->List aj}{x:Value->aa}(h:af P H ρ o y)(b0:∀v,H' v=H)(ag:∀v,x v=y):et X P H H' x ρ o:=λB I w r a hw az aA=>
 (h B I w r a _ hw az (λe he=>he) aA).mono (λv w' ⟨aQ,cI,a2,a3,a4⟩=>⟨aQ,cI,a2,by rw[b0];exact a3,by rw[ag];exact a4⟩) (λ_ _ h=>h.elim)
theorem et.zF{H1:List aj}{H':Value->List aj}{x:Value->aa}(h:ow P H H1 ρ o)(b0:∀v,H' v=H1)(ag:∀v,x v= .any):et X P H H' x ρ o:=λB I w r a hw az aA=>
 (h B I w r a hw az aA).mono (λv w' ⟨aQ,cI,a2,a3⟩=>⟨aQ,cI,a2,by rw[b0];exact a3,by rw[ag];exact .any _⟩) (λ_ _ h=>h.elim)
abbrev Du:List aj:=[.obj 0 (.deferred none),.obj 0 (.deferred (some []))]
theorem Hw{B:Nat}{I:a8}{w:World}{eo:List aj}(h:br B I w eo)(hm:∀e∈Du,e∈eo):False:=by
 have ab:=(h.ok _ (hm _ (.head _))).2.1;have ae:=(h.ok _ (hm _ (.tail _ (.head _)))).2.1;rw[ab] at ae;cases ae
theorem Sat.no{c:Ctx}{env:List (Nat×aa)}{a:Act}{w:World}(s:Sat c ⟨env,Du⟩ a w):False:=let ⟨_,_,_,az,_⟩:=s.mem;Hw az λ_ h=>h
theorem et.no{H':Value->List aj}{x:Value->aa}:et X P Du H' x ρ o:=λB I w r a hw az aA=>(Hw az λ_ h=>h).elim
theorem af.no{x:aa}:af P Du ρ o x:=λB I w r a eo hw az aH aA=>(Hw az aH).elim
theorem et.box{t:TypeId}{z:Operand}{y:aa}{g:Bool}{H':Value->List aj}{x:Value->aa}(h:o.op= .box t z)(an:bf ρ z=some (g,y))(al:g=true)(aw:ha y=true)(b0:∀v,H' v= .aI (kc v) t (dq y)::H)(ag:∀v,x v= .p (kc v) 0):et X P H H' x ρ o:=λB I w r a hw az aA=>by
 have ab:=xR (aA.get cx an al) aw;refine cM.fN cB (v:=.pointer (some ⟨w.heap.size,0,none⟩)) (w':=w.alloc (.cells (a.eval z).cells t)) F4 ⟨I,hw.alloc _,kN hw _,?_,?_⟩
 ·rw[b0];exact az.new hw t _ _ ab
 ·rw[ag];exact .val _
theorem et.mX{t:TypeId}{bY:List Value}{H':Value->List aj}{x:Value->aa}[an:hr P t bY](h:o.op= .alloc t)(b0:∀v,H' v= .aI (kc v) t (bY.map .val)::H)(ag:∀v,x v= .p (kc v) 0):et X P H H' x ρ o:=λB I w r a hw az aA=>by
 have qT:=an.h;unfold zeroCells at qT;cases iH:P.info? t with
 | none=>simp[iH] at qT
 | some inf=>
  cases kM:inf.zero with
  | none=>simp[iH,kM] at qT
  | some z=>
   simp[iH,kM] at qT;have ab:bZ I w (bY.map .val) z.cells.toList:=by rw[qT];exact l1 bY
   refine cM.fN cB (v:=.pointer (some ⟨w.heap.size,0,none⟩)) (w':=w.alloc (.cells z.cells t)) Mk ⟨I,hw.alloc _,kN hw _,?_,?_⟩
   ·rw[b0];exact az.new hw t _ _ ab
   ·rw[ag];exact .val _
end
end Go.Eng

namespace Go
def lJ(f:FuncId)(F:Fence)(n:Nat)(P:Program)(c:Code)(Q:Exit->Act->World->Prop)(a:Act)(w:World):Prop:=
 ∀(b:Frame) (k:List Item) (cs:List Frame),b.roundOf=F.round->b.fn=f->F.fn b.fn->F.room (cs.length+1+n)->∃e fY w',Q e fY w'/\ArrivesIn (Machine.fenced P F) P (lone (b.atR a (.code c::k)) cs w) b k cs e fY w'
section
variable{f:FuncId}{F:Fence}{n:Nat}{P:Program}{Q:Exit->Act->World->Prop}{a:Act}{w:World}
theorem lJ.of{c:Code}(h:c.wpIn F n P Q a w):lJ f F n P c Q a w:=λb k cs mr _ aw aK=>h b k cs mr aw aK
theorem lJ.mono{c:Code}{vI:Exit->Act->World->Prop}(h:lJ f F n P c Q a w)(bd:∀e a w,Q e a w->vI e a w):lJ f F n P c vI a w:=λb k cs mr he aw aK=>
 let ⟨e,fY,w',ab,ae⟩:=h b k cs mr he aw aK;⟨e,fY,w',bd _ _ _ ab,ae⟩
theorem lJ.seq{x y:Code}(h:lJ f F n P x (Exit.then (lJ f F n P y Q) Q) a w):lJ f F n P (.seq x y) Q a w:=by
 intro b k cs mr he aw aK;have ai:(lone (b.atR a (.code (.seq x y)::k)) cs w).fenced P F:=fenced_calm aw aK rfl;obtain⟨e,gY,gG,bd,eR⟩:=h b (.code y::k) cs mr he aw aK;cases e with
 | normal=>
  obtain⟨vn,qt,od,pS,qu⟩:=bd b k cs mr he aw aK;exact⟨vn,qt,od,pS,.of_steps (.head ai stepR_seq eR) qu⟩
 | exit id=>exact⟨_,gY,gG,bd,.of_steps (.one ai stepR_seq) (.pass (x:=.code y) rfl (λ_ _=>.inl bj) eR)⟩
 | goto l=>exact⟨_,gY,gG,bd,.of_steps (.one ai stepR_seq) (.pass (x:=.code y) rfl (λ_ _=>.inl bj) eR)⟩
 | ret=>exact⟨_,gY,gG,bd,.of_steps (.one ai stepR_seq) (.pass (x:=.code y) rfl (λ_ _=>.inl bj) eR)⟩
 | panic ch=>exact⟨_,gY,gG,bd,.of_steps (.one ai stepR_seq) (.pass (x:=.code y) rfl (λ_ _=>.inl bj) eR)⟩
 | outgrown=>exact⟨_,gY,gG,bd,.of_steps (.one ai stepR_seq) (.pass (x:=.code y) rfl (λ_ _=>.inl bj) eR)⟩
theorem lJ.block{id:Nat}{c:Code}(h:lJ f F n P c (Exit.inBlock id Q) a w):lJ f F n P (.block id c) Q a w:=by
 intro b k cs mr he aw aK;have ai:(lone (b.atR a (.code (.block id c)::k)) cs w).fenced P F:=fenced_calm aw aK rfl;obtain⟨e,gY,gG,bd,eR⟩:=h b (.inBlock id::k) cs mr he aw aK;cases e with
 | normal=>exact⟨.normal,gY,gG,bd,.head ai stepR_block (StepsIn.trans eR (.one (fenced_calm aw aK rfl) stepR_inBlock))⟩
 | exit sv=>
  by_cases Dv:sv=id
  ·simp only[Exit.inBlock,Dv,if_true] at bd;exact⟨.normal,gY,gG,bd,.head ai stepR_block (eR.1 k (by simp[exitTo,Dv]))⟩
  ·simp only[Exit.inBlock,Dv,if_false] at bd;have this:(id==sv)=false:=by simp;exact λh=>Dv h.symm
   have ag:exitTo sv (.inBlock id::k)=exitTo sv k:=by simp[exitTo,this]
   exact⟨.exit sv,gY,gG,bd,λcJ ao=>.head ai stepR_block (eR.1 cJ (by rw[ag];exact ao)),
    λnD ao=>let ⟨k₁,ab,ae⟩:=eR.2 nD (by rw[ag];exact ao);⟨k₁,ab,.head ai stepR_block ae⟩⟩
 | goto l=>
  have ag:gotoIn l (.inBlock id::k)=gotoIn l k:=by simp[gotoIn]
  exact⟨_,gY,gG,bd,λcJ ao=>.head ai stepR_block (eR.1 cJ (by rw[ag];exact ao)),
   λnD ao=>let ⟨k₁,ab,ae⟩:=eR.2 nD (by rw[ag];exact ao);⟨k₁,ab,.head ai stepR_block ae⟩⟩
 | ret=>exact⟨_,gY,gG,bd,.of_steps (.one ai stepR_block) eR⟩
 | panic ch=>exact⟨_,gY,gG,bd,.of_steps (.one ai stepR_block) eR⟩
 | outgrown=>exact⟨_,gY,gG,bd,.of_steps (.one ai stepR_block) eR⟩
theorem Xs{fn:Func}{c:Code}{args:Array Value}{R:Ending->World->Prop}(aP:P.funcs[f]? =some fn)(aw:fn.body=some c)(hF:F.fn f)
  (h:lJ f F n P c (bodyPostM F n P fn R) {tmps:=args++Array.replicate (fn.ntmps - args.size) undef,defers:=[]} w) (mr:F.round=none:=by rfl):CallsIn F n P f args w R:=by
 refine⟨hF,λcs aK=>?_⟩
 let b:Frame:={(default:Frame) with fn:=f,kind:=.normal,roundOf:=none}
 have Aw:Frame.enter P f args .normal=b.atR {tmps:=args++Array.replicate (fn.ntmps - args.size) undef,defers:=[]} [.code c]:=by
  simp[Frame.enter,Frame.atR,aP,aw,b]
 obtain⟨e,fY,w',bd,eR⟩:=h b [] cs mr.symm rfl hF aK;rw[<-Aw] at eR;cases e with
 | normal=>
  obtain⟨e',j1,Ax,hR,aH,qK,ax⟩:=leaves_stepsInM fY.defers .returning w' {b.atR fY [] with mode:=.returning} cs rfl rfl rfl aP rfl hF aK bd;exact⟨e',j1,Ax,hR,ComesIn.of_steps (StepsIn.trans eR (.one (fenced_calm (fr:=b.atR fY []) hF aK rfl) (stepR_end rfl))) aH,qK,ax⟩
 | ret=>
  obtain⟨todo,Hy⟩:=eR.1 rfl;obtain⟨e',j1,Ax,hR,aH,qK,ax⟩:=leaves_stepsInM fY.defers .returning w' {b.atR fY todo with mode:=.returning} cs rfl rfl rfl aP rfl hF aK bd;exact⟨e',j1,Ax,hR,ComesIn.of_steps Hy aH,qK,ax⟩
 | panic chain=>
  obtain⟨todo,Hy⟩:=eR;obtain⟨e',j1,Ax,hR,aH,qK,ax⟩:=leaves_stepsInM fY.defers (.panicking chain) w' {b.atR fY todo with mode:=.panicking chain} cs rfl rfl rfl aP rfl hF aK bd;exact⟨e',j1,Ax,hR,ComesIn.of_steps Hy aH,qK,ax⟩
 | exit id=>exact bd.elim
 | goto l=>exact bd.elim
 | outgrown=>exact⟨.outgrown,w',b,bd,eR.resolve_left (by simp[b]),rfl,trivial⟩
def Xt(P:Program)(l:Nat)(R:Ending->World->Prop):Exit->Act->World->Prop
 | .panic chain,a,w=>a.defers= []/\R (.panicked chain) w
 | e,a,w=>roundPost P l R e a w
theorem Xu{l:Nat}{fn:Func}{tmps:Array Value}{assign body:Code}{R:Ending->World->Prop}(hF:F.fn f)(qK:P.funcs[f]? =some fn)
  (h:assign.wpIn (F.inRound l) n P (Exit.then (λgY gG=>∃od,(Instr.beginRound l).run P gG= .ok () od/\body.wpIn (F.inRound l) n P (Xt P l R) gY od) (λ_ _ _=>False)) {tmps:=tmps,defers:=[]} w):
  RoundIn F n P l f tmps assign body w R:=by
 refine⟨hF,λc cs aK=>?_⟩
 let b:Frame:={(default:Frame) with fn:=f,kind:=.normal,roundOf:=some l}
 have hg:Frame.round l f tmps assign body .normal=b.atR {tmps:=tmps,defers:=[]} [.code assign,.beginRound,.code body]:=by
  simp[Frame.round,Frame.atR,b]
 have nD:(F.inRound l).room ((c::cs).length+1+n):=aK;have uq:(F.inRound l).fn b.fn:=hF;obtain⟨e,gY,gG,bd,eR⟩:=h b [.beginRound,.code body] (c::cs) rfl uq nD;rw[<-hg] at eR;cases e with
 | normal=>
  obtain⟨od,Xv,Xw⟩:=bd;have s1:StepsIn (Machine.fenced P (F.inRound l)) P (lone (b.atR gY [.beginRound,.code body]) (c::cs) gG) (lone (b.atR gY [.code body]) (c::cs) od):=
   .one (fenced_calm (fr:=b.atR gY [.beginRound,.code body]) uq nD rfl) (stepR_beginRound rfl Xv)
  obtain⟨vn,qt,yc,pS,qu⟩:=Xw b [] (c::cs) rfl uq nD;cases vn with
  | normal=>
   obtain⟨v,rL,s0,hR⟩:=pS;exact⟨.returned v,rL,hR,(StepsIn.trans eR s1).trans (StepsIn.trans qu (.one (fenced_calm (fr:=b.atR qt []) uq nD rfl) (stepR_round_end rfl rfl s0)))⟩
  | ret=>
   obtain⟨v,rL,s0,hR⟩:=pS;obtain⟨k₁,aH⟩:=qu.2 rfl;exact⟨.returned v,rL,hR,(StepsIn.trans eR s1).trans (StepsIn.trans aH (.one (fenced_calm (fr:=b.atR qt (.code .ret::k₁)) uq nD rfl) (stepR_round_ret rfl rfl s0)))⟩
  | exit id=>
   obtain⟨v,rL,s0,hR⟩:=pS;obtain⟨k₁,ao,aH⟩:=qu.2 rfl rfl;exact⟨.returned v,rL,hR,(StepsIn.trans eR s1).trans (StepsIn.trans aH (.one (fenced_calm (fr:=b.atR qt (.code (.exit id)::k₁)) uq nD rfl) (stepR_round_exit rfl rfl ao s0)))⟩
  | goto t=>
   obtain⟨v,rL,s0,hR⟩:=pS;obtain⟨k₁,ao,aH⟩:=qu.2 rfl rfl;exact⟨.returned v,rL,hR,(StepsIn.trans eR s1).trans (StepsIn.trans aH (.one (fenced_calm (fr:=b.atR qt (.code (.goto t)::k₁)) uq nD rfl) (stepR_round_goto rfl rfl ao s0)))⟩
  | panic chain=>
   obtain⟨aN,hR⟩:=pS;obtain⟨todo,aH⟩:=qu;have ax:({b.atR qt todo with mode:=.panicking chain}:Frame).leaving P yc (.panicked chain):=⟨rfl,aN,fn,qK⟩;exact⟨.panicked chain,yc,hR,(StepsIn.trans eR s1).trans (StepsIn.trans aH (.one (fenced_leaving (n:=n) uq nD ax) (step_leave_panicked ax)))⟩
  | outgrown=>exact pS.elim
 | exit id=>exact bd.elim
 | goto t=>exact bd.elim
 | ret=>exact bd.elim
 | panic chain=>exact bd.elim
 | outgrown=>exact bd.elim
theorem lJ.rangeFunc{g:Operand}{bH:Array Tmp}{assign body:Code}
  (h:∃(l:Nat) (mark:List Deferred) (gG:World) (d:Deferred) (Dw:World) (f':FuncId) (args:Array Value) (od:World),
   (Instr.enterLoop f a.tmps bH assign body F.round).run P w= .ok (l,mark) gG/\
   (resolve a.eval (rangeCall g l) 0).run P gG= .ok d Dw/\
   (∀f',Target.leads P Dw d.target d.args=some f'->F.fn f')/\
   (invoke d.target d.args).run P Dw= .ok (.enter f' args) od/\
   (F.depth.isSome=true->1<=n)/\
   CallsIn F (n - 1) P f' args od (rangePost F n P l Q {a with defers:=mark++a.defers})):
  lJ f F n P (Code.rangeFunc g bH assign body) Q a w:=by
 intro b k cs mr cc aw aK;obtain⟨l,mark,gG,d,Dw,f',args,od,he,Ao,Xx,hinv,hn,hF,ij⟩:=h;rw[<-mr, <-cc] at he;have ai:(lone (b.atR a (.code (.rangeFunc g bH assign body)::k)) cs w).fenced P F:=by
  refine fenced_lone (.inl aw) (λf' Al=>Xx f' ?_) (Fence.room_le aK ad);have xX:=Frame.eval_atR b a (.code (.rangeFunc g bH assign body)::k);simp only[Frame.atR] at xX;simp only[Frame.about,Frame.atR,he,xX,Ao] at Al;exact Al
 have Aw:=stepR_rangeFunc (P:=P) (b:=b) (a:=a) (k:=k) (cs:=cs) (w:=w) he Ao hinv;have qH:F.room ((b.atR {a with defers:=mark++a.defers} (.inRangeFunc l::k)::cs).length+1+(n - 1)):=Fence.room_enter aK hn;obtain⟨e,yc,fr,hR,Hz,qK,Dx⟩:=ij (b.atR {a with defers:=mark++a.defers} (.inRangeFunc l::k)::cs) qH;cases e with
 | outgrown=>
  obtain⟨Xy,Xz,bd⟩:=hR;exact⟨.outgrown,Xy,Xz,bd,.inr (Outgrown.of_steps (.one Aw) Hz)⟩
 | returned v=>
  have ax:(lone fr (b.atR {a with defers:=mark++a.defers} (.inRangeFunc l::k)::cs) yc).fenced P F:=fenced_leaving (qK▸hF) qH Dx;obtain⟨jump,rL,s0,aU⟩:=hR;have N3:StepsIn (Machine.fenced P F) P (lone (b.atR a (.code (.rangeFunc g bH assign body)::k)) cs w) (lone (b.atR {a with defers:=mark++a.defers} ((jump.map Item.code).toList++k)) cs rL):=by
   refine .head ai Aw (StepsIn.trans Hz (.head ax ?_ (.one (fenced_calm (fr:=b.atR {a with defers:=mark++a.defers} (.endRangeFunc l::k)) aw aK rfl) (stepR_endRangeFunc s0))));rw[<-finish_atR_inRangeFunc l v];exact step_leave_returned Dx
  cases jump with
  | none=>exact⟨.normal,_,rL,aU,N3⟩
  | some c=>
   obtain⟨e',XA,XB,bd,eR⟩:=aU b k cs mr aw aK;exact⟨e',XA,XB,bd,.of_steps N3 eR⟩
 | panicked chain=>
  have ax:(lone fr (b.atR {a with defers:=mark++a.defers} (.inRangeFunc l::k)::cs) yc).fenced P F:=fenced_leaving (qK▸hF) qH Dx;refine⟨.panic chain,_,yc,hR,.inRangeFunc l::k,.head ai Aw (StepsIn.trans Hz (.one ax ?_))⟩;rw[<-Frame.raise_atR];exact step_leave_panicked Dx
end
end Go

