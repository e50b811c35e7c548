/- A part of the proof. No condition. -/
import Derived.Test.YtodccgailpkgeaaGreatKindClosesP1
import Derived.OrdersIn
import Derived.Deep.Upon
import Derived.RangeFuncBound
set_option linter.defProp false
set_option maxHeartbeats 1000000
set_option linter.unusedVariables false
set_option linter.unusedSimpArgs false
set_option linter.unnecessarySimpa false
namespace Go.Eng
open Go.RowKit (Below)
def nn(o:Oper):du:=o.after.toList.filterMap λe=>if Region.binds .any e then some e.on else none
def LH(acc:du)(o:Oper):Nat:=(nn o).foldl (λs j=>s ||| 2^j ||| acc.getD j 0) 0
def hP:cg->du->du
 | [],acc=>acc
 | o::r,acc=>hP r (acc++[LH acc o])
theorem LI(a:du):∀(l:du) (s j:Nat),(l.foldl (λs j=>s ||| 2^j ||| a.getD j 0) s).testBit j=true->s.testBit j=true\/∃k∈l,j=k\/(a.getD k 0).testBit j=true
 | [],s,j,h=>.inl h
 | k::l,s,j,h=>by
  rcases LI a l _ j h with h | ⟨f,c,h⟩
  ·simp[Nat.testBit_or,Bool.or_eq_true,Nat.testBit_two_pow,decide_eq_true_eq] at h;rcases h with (h | h) | h
   ·exact .inl h
   ·exact .inr ⟨k,aT,.inl h.symm⟩
   ·exact .inr ⟨k,aT,.inr h⟩
  ·exact .inr ⟨f,by simp[c],h⟩
def Fo(ops:cg)(L:Nat->Prop):Prop:=∀i o,L i->ops[i]? =some o->∀j∈nn o,L j
def LJ(ops)(L)(A:Fo ops L):∀(l:cg) (a:du),a.length+l.length=ops.length->(∀k,l[k]? =ops[a.length+k]?)->
  (∀(i m:Nat) (o:Oper),a[i]? =some m->ops[i]? =some o->(∀k∈nn o,L k)->∀j,m.testBit j=true->L j)->
  ∀(i m:Nat) (o:Oper),(hP l a)[i]? =some m->ops[i]? =some o->(∀k∈nn o,L k)->∀j,m.testBit j=true->L j
 | [],a,_,_,h=>h
 | o::l,a,q,D,h=>by
  refine LJ ops L A l (a++[LH a o]) (by simp at q ⊢;omega) (λk=>?_) ?_
  ·have:=D (k+1);simp at this;rw[this];congr 1;simp;omega
  ·intro i m x g s v j E;by_cases z:i<a.length
   ·rw[List.getElem?_append_left z] at g;exact h i m x g s v j E
   ·have r:i=a.length:=by
     have:=(List.getElem?_eq_some_iff.1 g).1;simp at this;omega
    subst r;rw[List.getElem?_append_right (Nat.le_refl _)] at g;simp at g;subst g;have w:x=o:=by
     have C:=D 0;simp at C;rw[<-C] at s;exact (Option.some.inj s).symm
    subst w;rcases LI a (nn x) 0 j E with f | ⟨k,B,f⟩
    ·simp at f
    ·rcases f with rfl | f
     ·exact v j B
     ·cases hak:a[k]? with
      | none=>simp[List.getD,hak] at f
      | some mk=>
       simp[List.getD,hak] at f;have F:=(List.getElem?_eq_some_iff.1 hak).1;have c:∃ok,ops[k]? =some ok:=⟨ops[k]'aa,List.getElem?_eq_getElem aa⟩;obtain⟨ok,c⟩:=c;exact h k mk ok hak c (λgW t=>A k ok (v k B) c gW t) j f
def looks(ops:cg)(o:Oper):du:=
 (o.op.operands.toList.filterMap λ| .tmp t=>some t | _=>none)++(match o.guard with | some (g,_)=>((ops[g]?).bind (·.dst)).toList | none=>[])
def wF{a:Type}{l:List a}{i}{x}(h:l[i]? =some x):(x,i)∈l.zipIdx:=by
 rw[List.mem_zipIdx_iff_getElem?];exact h
def yC(P:Program)(H:aC)(ops:cg)(env:List (Nat×ab))(o:Oper)(y:ab):Prop:=
 (o.guard=none/\ad P H (aE env) o y)\/
 (∃j want d G x,o.guard=some (j,want)/\(ops[j]?).bind (·.dst)=some d/\nj (aE env d) want=some G/\(G=true->ad P H (aE env) o x)/\y= .opt G x)
def ed(P:Program)(H:aC)(ops:cg)(n:Nat):cg->List (Nat×ab)->(List (Nat×ab)->Prop)->Prop
 | [],env,K=>K env
 | o::rest,env,K=>∃x,yC P H ops env o x/\iF n o.dst=true/\ed P H ops n rest (iT o.dst x env) K
def lD:List (Nat×ab)->cg->bl->List (Nat×ab)
 | env,o::r,x::xs=>lD (iT o.dst x env) r xs
 | env,_,_=>env
def LK{dst}{x}{env}{t}:aE (iT dst x env) t=if dst=some t then some x else aE env t:=by
 cases dst with
 | none=>simp[iT]
 | some d=>
  simp[iT,k6,Option.some.injEq];by_cases h:t=d
  ·subst h;simp
  ·rw[if_neg h,if_neg (Ne.symm h)]
theorem yD:∀(l:cg) (c:bl) (a:List (Nat×ab)) (t:Nat),(∀(i:Nat) (o:Oper),l[i]? =some o->o.dst≠some t)->aE (lD a l c) t=aE a t
 | [],_,_,_,_=>by simp[lD]
 | o::l,[],_,_,_=>by simp[lD]
 | o::l,x::c,a,t,h=>by
  rw[lD,yD l c _ t (λi g f=>h (i+1) g (by simpa using f)),LK,if_neg (h 0 o aT)]
theorem LL:∀(l:cg) (f:bl) (a:List (Nat×ab)) (i t:Nat) (o:Oper) (x:ab),l[i]? =some o->f[i]? =some x->o.dst=some t->(∀j c,l[j]? =some c->c.dst=some t->j=i)->aE (lD a l f) t=some x
 | [],_,_,i,_,_,_,h,_,_,_=>by simp at h
 | o::l,[],_,i,_,_,_,_,h,_,_=>by simp at h
 | o::l,y::f,a,0,t,c,x,m,g,q,r=>by
  simp at m g;subst m;subst g;rw[lD,yD l f _ t (λi c s e=>by have:=r (i+1) c (by simpa using s) e;omega),LK,if_pos q]
 | o::l,y::f,a,i+1,t,c,x,m,g,q,r=>by
  rw[lD];exact LL l f _ i t c x (by simpa using m) (by simpa using g) q (λj v ak e=>by have:=r (j+1) v ta e;omega)
theorem LM:∀(i:Nat) (l:cg) (c:bl) (a:List (Nat×ab)),c.length=l.length->lD a l c=lD (lD a (l.take i) (c.take i)) (l.drop i) (c.drop i)
 | 0,l,c,a,_=>by simp[lD]
 | i+1,[],c,a,h=>by simp[lD]
 | i+1,o::l,[],a,h=>by simp at h
 | i+1,o::l,x::c,a,h=>by
  simp[List.take_succ_cons,List.drop_succ_cons,lD];exact LM i l c _ gU
def LN{l}{o}{t}(h: .tmp t∈o.op.operands.toList):t∈looks l o:=
 List.mem_append_left _ (List.mem_filterMap.2 ⟨.tmp t,h,rfl⟩)
def yC.run{c:Ctx}{r}{P}{l}{H}{env}{o}{y}{Q}(h:yC P H l env o y){i}(aN:l[i]? =some o)
  {a} {w} {I} (hw:bY c.B I w) (aW:a7 c.B I w H) (bd:∀t∈looks l o,∀z,aE env t=some z->Rel I w z (a.tmps.getD t undef)) (hn:∀t∈looks l o,t<a.tmps.size)
  {K} (eX:∀v w' C,bY c.B C w'->Ext c.B I w C w'->a7 c.B C w' H->Rel C w' y v->K (a.put o.dst v) w'):wpOpIn (bx r) 0 P l.toArray Q i K a w:=by
 have BU:fo I w (aE env) a o:=λx aK z aD=>by
  cases x with
  | tmp t=>exact bd t (LN (by simpa using aK)) z aD
  | const v=>simp[iU] at aD;subst aD;exact Fg v
  | global g=>simp[iU] at aD;subst aD;exact .val _
  | func f=>simp[iU] at aD;subst aD;exact .fn _ _ _ _ _ .nil .nil
 have Vo:l.toArray[i]? =some o:=by simpa using aN
 unfold wpOpIn;simp[Vo];rcases h with⟨av,bV⟩ | ⟨j,want,d,G,x,av,cp,fb,bV,rfl⟩
 ·have Fp:Region.wanted o (yielded l.toArray a.tmps)=true:=by simp[Region.wanted,av]
  rw[if_pos Fp];exact bV c.B I w r a H hw aW (λ_ x=>x) BU K Q (λv w' ⟨C,ae,ak,aL,bo⟩=>eX v w' C ae ak aL bo) λ_ _ h=>h.elim
 ·have LO:d∈looks l o:=List.mem_append_right _ (by simp[av,cp]);have Fp:=Fh (ops:=l.toArray) (I:=I) (w:=w) (a:=a) (o:=o) (j:=j) (d:=d) (y:=aE env d) (by simpa using cp) av (λz aD=>bd d LO z aD) fb (hn d LO);rw[Fp];cases G with
  | true=>
   rw[if_pos rfl];exact bV rfl c.B I w r a H hw aW (λ_ x=>x) BU K Q (λv w' ⟨C,ae,ak,aL,bo⟩=>eX v w' C ae ak aL (.opt _ _ _ (λ_=>bo) λe=>by cases e)) λ_ _ h=>h.elim
  | false=>
   rw[if_neg aT];exact⟨λ_ _=>trivial,eX undef w I hw (.refl _ _ _) aW (.opt _ _ _ (λe=>by cases e) λ_=>rfl)⟩
def uD(a:Array Bool)(i j)(h:i<a.size):(a.setIfInBounds i true).getD j false=if i=j then true else a.getD j false:=by
 by_cases e:i=j
 ·subst e;simp[Array.getD,h]
 ·rw[if_neg e];exact getD_set_ne false e
def Fq{a:Array Bool}{j}(h:j<a.size)(d):a.getD j d=a.getD j false:=by
 simp[Array.getD,h]
def ed.nil{P}{H}{ops}{n}{env}{K}(h:K env):ed P H ops n [] env K:=h
def ed.pop{P}{H}{ops}{n}{env}{K}{o}{a}{x}(f:o.guard=none)(c:iF n o.dst)(h:ad P H (aE env) o x)
  (next:ed P H ops n a (iT o.dst x env) K):ed P H ops n (o::a) env K:=⟨x,.inl ⟨f,h⟩,c,next⟩
def ed.guarded{P}{H}{ops}{n}{env}{K}{o}{c}{x}{j d}{a G}(g:o.guard=some (j,a))(m:(ops[j]?).bind (·.dst)=some d)
  (l:nj (aE env d) a=some G) (f:iF n o.dst) (h:G=true->ad P H (aE env) o x) (next:ed P H ops n c (iT o.dst (.opt G x) env) K):ed P H ops n (o::c) env K:=
 ⟨.opt G x,.inr ⟨j,a,d,G,x,g,m,l,h,rfl⟩,f,next⟩
class cQ (P:Program) (t:Nat) (x:outParam (Bool×Nat)):Prop where h:nZ P t=some x
class cK (P:Program) (t f:Nat) (x:outParam Nat):Prop where h:yA P t f=some x
class eE (P:Program) (t:Nat) (x:outParam Nat):Prop where h:qE P t=some x
class uE (P:Program) (t:Nat) (x:outParam (Nat×Nat)):Prop where h:uB P t=some x
class gp (P:Program) (t:Nat) (x:outParam dj):Prop where h:zeroCells P t=some x
class Fs (P:Program) (t:Nat):Prop where h:P.underlying t=some .bool
class rT (P:Program) (t:Nat) (k:outParam IntKind):Prop where h:P.underlying t=some (.int k)
class pI {α:Type} (F:List α->List bl) (enc:outParam (α->bl)):Prop where h:∀l,F l=l.map enc
instance{α:Type}(enc:α->bl):pI (List.map enc) enc:=⟨λ_=>rfl⟩
def BV{P}{t k}(h:qE P t=some k):pH P t=true:=by
 obtain⟨e,i,a,_⟩:=nY h;simp[pH,a]
section
variable{P:Program}{H:aC}{ρ:Nat->Option ab}{o:Oper}
def ad.KM{x}{t}{k f}{els}{g}[ht:eE P t f](h:o.op= .call {callee:=.builtin .len,args:=#[x],argTypes:=#[t]})(a:aO ρ x=some (g,.aj k els))(c:g=true):ad P H ρ o (.i els.length):=
 .len h a c (BV ht.h)
def ad.qy{a:Type}{F:List a->List bl}{enc:a->bl}{l:List a}{x}{t}{k j}{g}[ht:eE P t j][hF:pI F enc](h:o.op= .call {callee:=.builtin .len,args:=#[x],argTypes:=#[t]})(c:aO ρ x=some (g,.aj k (F l)))(f:g=true):ad P H ρ o (.i l.length):=by
 rw[hF.h] at c;have:=ad.len (H:=H) h c f (BV ht.h);rw[List.length_map] at this;exact this
def ad.KL{x}{t}{k f}{els}{v}{g}[ht:eE P t f](h:o.op= .call {callee:=.builtin .len,args:=#[x],argTypes:=#[t]})(a:aO ρ x=some (g,.as (.aj k els) v))(c:g=true):ad P H ρ o (.i els.length):=
 .U9 h a c (BV ht.h)
def ad.Bo{x}{t}{l}{a}{n c}{g}[ht:eE P t l](h:o.op= .call {callee:=.builtin .len,args:=#[x],argTypes:=#[t]})(f:aO ρ x=some (g,.val (.slice a n c)))(j:g=true):ad P H ρ o (.i n):=
 .Va h f j (BV ht.h)
def ad.fC{f}[Inhabited f]{F}{enc:f->bl}{l:List f}{t:TypeId}{x y:Operand}{k:Nat}{s:IntKind}{i:Nat}{q m:Bool}[ht:eE P t k][hF:pI F enc](h:o.op= .indexAddr t x y)(j:aO ρ x=some (q,.aj k (F l)))(g:q=true)
  (hy:aO ρ y=some (m,.val (.int s (i:Int)))) (c:m=true) (r:i<l.length):ad P H ρ o (.ptr (enc (l.getD i default))):=
 .Vb h (by rw[hF.h] at j;exact j) hy g c ht.h r
def ad.ep{f}[Inhabited f]{F}{enc:f->bl}{l:List f}{t:TypeId}{x y:Operand}{k}{s}{i}{r q}[ht:eE P t k][hF:pI F enc](h:o.op= .indexAddr t x y)(j:aO ρ x=some (r,.aj k (F l)))(g:r=true)
  (hy:aO ρ y=some (q,.val (.int s i))) (c:q=true) (m:0<=i/\i<l.length):ad P H ρ o (.ptr (enc (l.getD i.toNat default))):=
 .Vc h (by rw[hF.h] at j;exact j) hy g c ht.h m.1 m.2
def ad.qv{t}{x}{cs}{n}{g}[ht:cQ P t (true,n)](h:o.op= .load t x)(a:aO ρ x=some (g,.ptr cs))(c:g=true)(hn:Nat.ble n cs.length):ad P H ρ o (.agg (cs.take n)):=.Vf h a c ht.h hn
def ad.cE{t}{x}{cs}{y}{n}{g}[ht:cQ P t (false,n)](h:o.op= .load t x)(a:aO ρ x=some (g,.ptr cs))(c:g=true)(hn:cs[0]? =some y):ad P H ρ o y:=.Vg h a c ht.h hn
def ad.Bg{t tb}{x}{b off}{cs ys}{n}{g}[ht:cQ P t (true,n)](h:o.op= .load t x)(a:aO ρ x=some (g,.p b off))(c:g=true)(hm:.au b tb cs∈H)(hy:(cs.drop off).take n=ys)(hn:Nat.beq ys.length n):ad P H ρ o (.agg ys):=.Vh h a c hm ht.h hy hn
def ad.iv{t tb}{x}{b off}{cs}{y}{n}{g}[ht:cQ P t (false,n)](h:o.op= .load t x)(a:aO ρ x=some (g,.p b off))(c:g=true)(hm:.au b tb cs∈H)(hy:cs[off]? =some y):ad P H ρ o y:=.Vi h a c hm ht.h hy
def ad.EO{t}{x}{f off b o' d}{g}[l:cK P t f off](h:o.op= .fieldAddr t x f)(a:aO ρ x=some (g,.p b o'))(j:g=true)(c:o'+off=d):ad P H ρ o (.p b d):=c▸ .field h a j l.h
def ad.EP{t}{x}{f off}{cs ys}{g}[l:cK P t f off](h:o.op= .fieldAddr t x f)(a:aO ρ x=some (g,.ptr cs))(j:g=true)(c:cs.drop off=ys):ad P H ρ o (.ptr ys):=c▸ .Vj h a j l.h
def ad.Bw{t}{x y}{b o' n k}{m}{i}{j g}[ht:uE P t (n,k)](h:o.op= .indexAddr t x y)(l:aO ρ x=some (j,.p b o'))(c:j=true)(hy:aO ρ y=some (g,.val (.int m i)))(a:g=true)(f:0<=i/\i<n):
  ad P H ρ o (.p b (o'+i.toNat*k)):=.Vk h l hy c a ht.h f.1 f.2
def ad.Bx{t}{x y}{cs}{n k}{m}{i}{j g}[ht:uE P t (n,k)](h:o.op= .indexAddr t x y)(l:aO ρ x=some (j,.ptr cs))(c:j=true)(hy:aO ρ y=some (g,.val (.int m i)))(a:g=true)(f:0<=i/\i<n):
  ad P H ρ o (.ptr (cs.drop (i.toNat*k))):=.Vl h l hy c a ht.h f.1 f.2
def ad.LP{op:BinOp}{t m}{x y}{a b}{j g}[ht:Fs P t](h:o.op= .binOp .eql t x y m)(l:aO ρ x=some (j,.b a))(f:j=true)(hy:aO ρ y=some (g,.b b))(c:g=true):ad P H ρ o (.b (a==b)):=.te h l hy f c ht.h (.inl ⟨rfl,rfl⟩)
def ad.LQ{op:BinOp}{t m}{x y}{a b}{j g}[ht:Fs P t](h:o.op= .binOp .neq t x y m)(l:aO ρ x=some (j,.b a))(f:j=true)(hy:aO ρ y=some (g,.b b))(c:g=true):ad P H ρ o (.b (a !=b)):=.te h l hy f c ht.h (.inr ⟨rfl,rfl⟩)
def ad.Ft{s d}{x}{k r a}{n m}{g}[l:rT P s r][j:rT P d a](h:o.op= .convert s d x)(f:aO ρ x=some (g,.val (.int k n)))(q:g=true)(c:a.wrap n=m):ad P H ρ o (.val (.int a m)):=.Vm h f q (by rw[l.h];rfl) j.h c
def ad.Vp{t}{x}{w z}{k}{els}{l n:Nat}{s gl gh:Bool}{kl kh:IntKind}[ht:eE P t k](h:o.op= .slice t x w z none)(A:aO ρ x=some (s,.aj k els))(c:s=true)
  (m:match w with | none=>l=0 | some y=>aO ρ y=some (gl,.val (.int kl (l:Int)))) (a:gl=true) (g:match z with | none=>n=els.length | some y=>aO ρ y=some (gh,.val (.int kh (n:Int)))) (f:gh=true)
  (v:l<=n/\n<=els.length):ad P H ρ o (.aj k ((els.take n).drop l)):=.slice h A c m a g f ht.h v.1 v.2
end
section
variable{c:Ctx}{r:Option Nat}{P:Program}{ops:Array Oper}{l rest:cg}{o:Oper}{st:dT}{Q:Exit->Act->World->Prop}{x:ab}
def ai.rU{t}{f}[j:gp P t f](a:o.guard=none)(g:iF c.n o.dst)(h:o.op= .alloc t)
  (next:∀b,ai c r P ops rest ⟨iT o.dst (.p b 0) st.env,.au b t (f.map .val)::st.H⟩ Q):ai c r P ops (o::rest) st Q:=.alloc a g h j.h next
def ai.BW{t tb}{p z}{y}{q g}{b off n}{cs ds}{H'}{agg}[ht:cQ P t (agg,n)](l:o.guard=none)(s:iF c.n o.dst)(h:o.op= .store t p z)
  (v:aO (aE st.env) p=some (q,.p b off)) (m:q=true) (x:aO (aE st.env) z=some (g,y)) (A:g=true) (B:fa y) (w:dG (cJ y))
  (hn:Nat.beq (cJ y).length n) (hu:bG st.H (.au b tb cs) (.au b tb ds) H') (hfit:Nat.ble (off+n) cs.length) (hds:cs.take off++cJ y++cs.drop (off+n)=ds)
  (next:ai c r P ops rest ⟨iT o.dst .any st.env,H'⟩ Q):ai c r P ops (o::rest) st Q:=by
 have j:=Nat.eq_of_beq_eq_true hn;subst hds;subst j;exact .store l s h v m x A B w ht.h hfit hu next
def aA.bound{p}{t k}{els}(ht:aE st.env t=some (.aj k els))(h:els.length<=maxLen->aA c r P p st Q):aA c r P p st Q:=by
 intro a w s;refine h ?_ a w s;obtain⟨I,hw,A,v,g⟩:=s.mem;have f:=g t _ ht;generalize a.tmps.getD t undef=u at f;cases f with
 | dQ=>simp
 | aj k els b off len j x q o h=>omega
def aA.ez{a:Type}{F:List a->List bl}{enc:a->bl}[hF:pI F enc]{xs:List a}{p}{t k}(ht:aE st.env t=some (.aj k (F xs)))(h:xs.length<=9223372036854775807->aA c r P p st Q):aA c r P p st Q:=
 .bound ht λba=>h (by rw[hF.h,List.length_map] at ba;simpa [maxLen] using ba)
def aA.Fu(J:Nat->dT->Prop){p}(t:∃m st',J m st'/\nk st'.env st.env/\st'.H.Sublist st.H)
  (round:∀m st',J m st'->aA c r P p st' (Exit.then (λa w=>∃l l1,l<m/\J l l1/\Sat c l1 a w) Q)):aA c r P (.loop p) st Q:=by
 obtain⟨m,st',o,C,z⟩:=t;refine .loop (ι:={x:Nat×dT // J x.1 x.2}) (λi=>i.1.2) (λi=>i.1.1) ⟨(m,st'),o⟩ C z λ⟨⟨m,st'⟩,o⟩ a w s=>wpIn_mono (round m st' o a w s) λe a w q=>?_;cases e with
 | normal=>obtain⟨l,l1,A,v,B⟩:=q;exact⟨⟨(l,l1),v⟩,A,B⟩
 | _=>exact q
def aZ.LR{J:Nat->dT->Prop}{m g}{st'}(h:J g st')(hm:g<m)(l:nk st'.env st.env)(j:st'.H.Sublist st.H):
  aZ c st .normal (Exit.then (λa w=>∃g f,g<m/\J g f/\Sat c f a w) Q):=
 λa w s=>⟨g,st',hm,h,s.weaken (lZ l) j⟩
def aA.k7(J:dT->Prop){p q}(h:aA c r P p st (Exit.then (λa w=>∃st',J st'/\Sat c st' a w) Q))(m:∀st',J st'->aA c r P q st' Q):aA c r P (.seq p q) st Q:=by
 intro a w s;refine wpIn_seq (wpIn_mono (h a w s) λe a w j=>?_);cases e with
 | normal=>obtain⟨i,o,l⟩:=j;exact m i o a w l
 | _=>exact j
def aZ.k7{J:dT->Prop}{st'}(g:J st')(j:nk st'.env st.env)(h:st'.H.Sublist st.H):aZ c st .normal (Exit.then (λa w=>∃st',J st'/\Sat c st' a w) Q):=
 λa w s=>⟨st',g,s.weaken (lZ j) h⟩
end
def np:Nat->bl->List (Nat×ab)
 | _,[]=>[]
 | i,x::xs=>(i,x)::np (i+1) xs
theorem E5:∀(a:bl) (i t:Nat) (y:ab),aE (np i a) t=some y->i<=t/\a[t - i]? =some y
 | [],i,t,y,h=>by simp[np,aE] at h
 | x::a,i,t,y,h=>by
  rw[np,k6] at h;split at h
  ·rename_i e;subst e;simp at h;subst h;simp
  ·rename_i e;obtain⟨g,c⟩:=E5 a (i+1) t y h;refine⟨aa,?_⟩;have f:t - i=(t - (i+1))+1:=by omega
   rw[f];simpa using c
def bP.mk'{P}{f}{fn}{a}{xs}{H}{g}{E}{n}(m:P.funcs[f]? =some fn)(o:fn.body=some a)(c:(fn.name== "runtime.NumGoroutine")=false)
  (hn:fn.ntmps=n) (j:Nat.ble xs.length n) (h:∀B I w,aA ⟨B,I,w,n,[]⟩ none P a ⟨np 0 xs,H⟩ (bodyPost P fn (e5 B I w g E))):bP P f xs H g E:=
 .of m o c hn (np 0 xs) (λt y l=>by have:=(E5 xs 0 t y l).2;simpa using this) (Nat.le_of_ble_eq_true j) h
def bP.rV{P}{f}{xs}{H}{g c}{E j}(h:bP P f xs H g E)(s:∀x H,g x H->c x H)(l:∀x H,E x H->j x H):bP P f xs H c j:=
 ⟨h.1,λB I w o t m q=>(h.2 B I w o t m q).mono λe z ⟨r,H',a,b,d,bK⟩=>⟨r,H',a,b,d,bK.elim (λ⟨v,x,bM,bJ,e6⟩=>.inl ⟨v,x,bM,bJ,s _ _ e6⟩) (λ⟨v,x,bM,bJ,e6⟩=>.inr ⟨v,x,bM,bJ,l _ _ e6⟩)⟩⟩
def aq(x y:ab):Prop:=∀I w v,Rel I w x v->Rel I w y v
inductive c5:List ab->List ab->Prop
 | nil:c5 [] []
 | cons {x y:ab} {xs ys:List ab} (h:aq x y) (t:c5 xs ys):c5 (x::xs) (y::ys)
def aq.refl(x):aq x x:=λ_ _ _ h=>h
def aq.nil(k):aq (.val (.slice none 0 0)) (.aj k []):=λI w v h=>by cases h;exact .dQ _ _ _
def aq.fm(k):aq .fm (.aj k []):=λI w v h=>by cases h;exact .dQ _ _ _
def aq.Vq:aq (.val (.slice none 0 0)) .fm:=λI w v h=>by cases h;exact .fm _
def aq.eY(x)(v):aq (.as x v) x:=λI w u h=>by cases h;assumption
def aq.one{x}(f:fa x)(a:∀c,x≠ .agg c):aq x .one:=λI w v h=>.single _ (h.one f a)
theorem c5.rel{I}{w}:∀{a c:bl} {vs:dj},c5 a c->bU I w a vs->bU I w c vs
 | _,_,_,.nil,h=>h
 | _,_,_,.cons h t,.cons _ _ _ _ f g=>.cons _ _ _ _ (h _ _ _ f) (c5.rel t g)
theorem c5.refl:∀a:bl,c5 a a
 | []=>.nil
 | _::a=>.cons (.refl _) (.refl a)
def c5.length{xs ys}(h:c5 xs ys):ys.length=xs.length:=by
 induction h with
 | nil=>rfl
 | cons _ _ a=>simp[a]
def aq.agg{xs ys}(h:c5 xs ys):aq (.agg xs) (.agg ys):=λI w v r=>by cases r;exact .agg _ _ (h.rel wA)
def aq.bj{xs ys}(h:c5 xs ys):aq (.bj xs) (.bj ys):=λI w v r=>by cases r;exact .bj _ _ (h.rel wA)
def aq.iface{t}{x y}(h:aq x y):aq (.iface t x) (.iface t y):=λI w v r=>by cases r;exact .iface _ _ _ (h _ _ _ wA)
theorem c5.cells{I}{w}{b}:∀{o:Nat} {xs ys:bl},c5 xs ys->Cells I w b o xs->Cells I w b o ys
 | _,_,_,.nil,h=>h
 | _,_,_,.cons h t,.cons _ _ _ c _ f g a j=>.cons _ _ _ c _ f g (h _ _ _ a) (c5.cells t j)
def aq.ptr{xs ys}(h:c5 xs ys):aq (.ptr xs) (.ptr ys):=λI w v r=>by cases r;exact .ptr _ _ _ (h.cells wA)
inductive n0:List (List ab)->List (List ab)->Prop
 | nil:n0 [] []
 | cons {x y:List ab} {xs ys:List (List ab)} (h:c5 x y) (t:n0 xs ys):n0 (x::xs) (y::ys)
theorem n0.refl:∀a:List bl,n0 a a
 | []=>.nil
 | _::a=>.cons (.refl _) (n0.refl a)
def n0.length{xs ys}(h:n0 xs ys):ys.length=xs.length:=by
 induction h with
 | nil=>rfl
 | cons _ _ a=>simp[a]
theorem n0.els{I}{w}{k b}:∀{o:Nat} {xs ys:List bl},n0 xs ys->fK I w k b o xs->fK I w k b o ys
 | _,_,_,.nil,h=>h
 | _,_,_,.cons h t,.cons _ _ _ _ _ c a f=>.cons _ _ _ _ _ (by rw[h.length];exact c) (h.cells a) (n0.els t f)
def aq.aj{k}{xs ys}(h:n0 xs ys):aq (.aj k xs) (.aj k ys):=λI w v r=>by
 cases r with
 | dQ=>cases h;exact .dQ _ _ _
 | aj _ _ b off len f g c a m=>exact .aj _ _ _ _ _ _ (by rw[h.length];exact g) c a (h.els m)
section
variable{P:Program}{H:aC}{ρ:Nat->Option ab}{o:Oper}
def ad.le{x y}(h:ad P H ρ o x)(c:aq x y):ad P H ρ o y:=by
 intro B I w r a l m g q f;exact (h B I w r a l m g q f).mono (λv s ⟨j,ae,ak,aL,bo⟩=>⟨j,ae,ak,aL,c _ _ _ bo⟩) λ_ _ h=>h
def gG.le{f}{xs ys}(h:gG P ρ o f xs)(c:c5 xs ys):gG P ρ o f ys:=
 ⟨λI w a g=>let ⟨vs,ae,ak⟩:=h.run I w a g;⟨vs,c.rel ae,ak⟩,h.rS⟩
def ad.tf{f}{xs ys}{y}(c:gG P ρ o f xs)(a:c5 xs ys)(h:aI P f ys y):ad P H ρ o y:=.call (c.le a) h
def ad.BX{t}{z}{y}{g}(h:o.op= .box t z)(x:aO ρ z=some (g,y))(A:g=true)(C:fa y):ad P H ρ o (.ptr (cJ y)):=by
 intro B I w r a E D j _ f;have s:=yB (f.get cd x A) C;obtain⟨l,q,m,c⟩:=cr.ux D t (a.eval z).cells;refine .e4 (v:=.pointer (some ⟨w.heap.size,0,none⟩)) (w':=w.alloc (.cells (a.eval z).cells t)) ck Lw ⟨_,l,q,m _ j,.ptr _ _ _ (c _ s)⟩
def LS:∀(c:dj) (a j:Nat) (cells:Array Value),a+j+c.length<=cells.size->
  (c.zipIdx j).foldl (λ(o:Array Value) (x:Value×Nat)=>o.setIfInBounds (a+x.2) x.1) cells=(cells.toList.take (a+j)++c++cells.toList.drop (a+j+c.length)).toArray
 | [],a,j,cells,h=>by simp
 | v::c,a,j,cells,h=>by
  simp[List.length_cons] at h;rw[List.zipIdx_cons,List.foldl_cons,LS c a (j+1) _ cF];congr 1;have f:a+j<cells.toList.length:=by simp;omega
  simp only[Array.toList_setIfInBounds];have m:a+(j+1)=a+j+1:=by omega
  rw[m,List.take_set,List.drop_set_of_lt aa];have l:a+j+(v::c).length=a+j+1+c.length:=by simp;omega
  rw[l,List.take_succ_eq_append_getElem f,List.set_append_right _ _ (by simp[Nat.min_le_left]),List.append_assoc,List.append_assoc,List.append_assoc];have g:a+j - (cells.toList.take (a+j)).length=0:=by simp;omega
  rw[g];rfl
def n1(place:Nat->Option (Nat×Nat)):bl->List (Nat×ab)->Option bl
 | cs,[]=>some cs
 | cs,(i,x)::rest=>
  match place i with
  | none=>none
  | some (off,size)=>bif fa x && Nat.beq (cJ x).length size && Nat.ble (off+size) cs.length then n1 place (cs.take off++cJ x++cs.drop (off+size)) rest else none
def BY{I}{w}{j}:∀(c:List (Nat×ab)) (k8:List (Nat×Value)) (q:bl) (g:Array Value) (r:bl),bU I w q g.toList->
  c.map (·.1)=k8.map (·.1)->bU I w (c.map (·.2)) (k8.map (·.2))->n1 j q c=some r->∃B,Instr.fill j g k8=some B/\bU I w r B.toList
 | [],[],q,g,r,h,_,_,l=>by simp[n1] at l;subst l;exact⟨g,rfl,h⟩
 | [],_::_,_,_,_,_,m,_,_=>by simp at m
 | _::_,[],_,_,_,_,m,_,_=>by simp at m
 | (i,x)::c,(P,v)::k8,q,g,r,h,m,L,l=>by
  simp[List.map_cons,List.cons.injEq] at m;obtain⟨O,m⟩:=m;subst O;cases L with
  | cons _ _ _ _ D N=>
   simp[n1] at l;split at l
   ·cases l
   ·rename_i f a E;cases a1:(fa x && Nat.beq (cJ x).length a && Nat.ble (f+a) q.length) with
    | false=>simp[a1] at l
    | true=>
     simp[a1,cond_true] at l;simp only[Bool.and_eq_true] at a1;obtain⟨⟨J,C⟩,o⟩:=a1;have C:=Nat.eq_of_beq_eq_true C;have o:=Nat.le_of_ble_eq_true o;have s:=yB D J;have t:v.cells.size=a:=by have:=s.length;simp at this;omega
     have G:g.size=q.length:=by have:=h.length;simpa using this
     have A:bU I w (q.take f++cJ x++q.drop (f+a)) (g.toList.take f++v.cells.toList++g.toList.drop (f+a)):=((h.take f).append s).append (h.drop _);obtain⟨B,M,F⟩:=BY c k8 _ (g.toList.take f++v.cells.toList++g.toList.drop (f+a)).toArray r (by simpa using A) m N l;refine⟨B,?_,F⟩;rw[Instr.fill,E];have H: ¬(v.cells.size≠a\/f+v.cells.size>g.size):=by omega
     have z:=LS v.cells.toList f 0 g cF;simp only[t,ne_eq,not_true_eq_false,false_or,gt_iff_lt,decide_eq_true_eq,Bool.or_eq_true,bne_self_eq_false,Bool.false_or];rw[if_neg cF];rw[<-M];congr 1;have K:v.cells.zipIdx=(v.cells.toList.zipIdx 0).toArray:=by
      apply Array.ext';simp
     rw[K,List.foldl_toArray];simp only[Nat.add_zero,Array.length_toList,t] at z;rw[<-z]
def Fv(P:Program)(t:TypeId):Option (dj×List (Nat×Nat)):=
 match P.info? t,P.underlying t with
 | some it,some (.struct fields)=>
  match it.zero,fields.toList.mapM (λf=>(P.info? f.type).map λi=>(f.offset,i.size)) with
  | some z,some Vr=>some (z.cells.toList,Vr)
  | _,_=>none
 | some it,some (.array n e)=>
  match it.zero,P.info? e with
  | some z,some LU=>some (z.cells.toList,(List.range n).map λi=>(i*LU.size,LU.size))
  | _,_=>none
 | _,_=>none
class hv (P:Program) (t:Nat) (x:outParam (dj×List (Nat×Nat))):Prop where h:Fv P t=some x
def partsOf(b5:List (Nat×Operand))(ys:List (Bool×ab)):List (Nat×ab):=(b5.map (·.1)).zip (ys.map (·.2))
theorem LV{p q}:∀(a:List (Nat×Value)) (g:Array Value) (f:Array Value),(∀i x,p i=some x->q i=some x)->Instr.fill p g a=some f->Instr.fill q g a=some f
 | [],g,f,_,h=>h
 | (i,v)::a,g,f,c,h=>by
  rw[Instr.fill] at h ⊢;cases bV:p i with
  | none=>simp[bV] at h
  | some x=>
   rw[bV] at h;rw[c i x bV];simp only at h ⊢;split at h
   ·cases h
   ·rename_i j;rw[if_neg j];exact LV a _ _ c h
def Vs{t}{r}{c}(g:Fv P t=some (r,c))(a)(us)(h:Instr.fill (c[·]?) r.toArray a.toList=some us)(w):
  (Instr.build t a).run P w= .ok (.agg us) w:=by
 refine run_build w t a us ?_;unfold Fv at g;unfold Program.built;split at g
 ·rename_i it l o m;cases aD:it.zero with
  | none=>simp[aD] at g
  | some z=>
   simp[o,m,aD];cases bV:l.toList.mapM (λf=>(P.info? f.type).map λi=>(f.offset,i.size)) with
   | none=>simp[aD,bV] at g
   | some C=>
    simp[aD,bV] at g;obtain⟨rfl,rfl⟩:=g;simpa using h
 ·rename_i it n e o m;cases aD:it.zero with
  | none=>simp[aD] at g
  | some z=>
   cases hie:P.info? e with
   | none=>simp[aD,hie] at g
   | some B=>
    simp[aD,hie] at g;obtain⟨rfl,rfl⟩:=g;simp[o,m,aD,hie];refine LV _ _ _ (λi x q=>?_) gU;cases bK:(List.range n)[i]? with
    | none=>simp[bK] at q
    | some j=>
     have A:j=i:=by
      have:=List.getElem?_eq_some_iff.1 bK;obtain⟨v,s⟩:=this;simpa using s.symm
     subst A;simpa [bK] using q
 ·cases g
def Fw{I}{w}{a}(h:fo I w ρ a o)(c:Array (Nat×Operand))(hm:∀x∈c.toList.map (·.2),x∈o.op.operands){ys:List (Bool×ab)}(hy:js ρ (c.toList.map (·.2))=some ys)(j:ys.all (·.1)=true):
  (partsOf c.toList ys).map (·.1)=((c.map λ(i,x)=>(i,a.eval x)).toList).map (·.1)/\bU I w ((partsOf c.toList ys).map (·.2)) (((c.map λ(i,x)=>(i,a.eval x)).toList).map (·.2)):=by
 have g:=td h _ ys hm hy (by simpa using j);have f:ys.length=c.toList.length:=by have:=g.length;simp at this;simp[this]
 constructor
 ·show ((c.toList.map (·.1)).zip (ys.map (·.2))).map (·.1)=_;rw[List.map_fst_zip (by simp[f])];simp[Function.comp_def]
 ·show bU I w (((c.toList.map (·.1)).zip (ys.map (·.2))).map (·.2)) _;rw[List.map_snd_zip (by simp[f])];simpa [Function.comp_def] using g
def ad.BZ{t}{g}{f}{c}{ys}{cs}[l:hv P t (f,c)](h:o.op= .build t g)
  (hy:js ρ (g.toList.map (·.2))=some ys) (r:ys.all (·.1)=true) (x:n1 (c[·]?) (f.map .val) (partsOf g.toList ys)=some cs):ad P H ρ o (.agg cs):=by
 refine .same ck λI w a v=>?_;obtain⟨s,m⟩:=Fw v g cd hy r;obtain⟨j,q,z⟩:=BY _ _ (f.map .val) f.toArray cs (by simpa using lA f) s m x;refine⟨.agg j,?_,.agg _ _ z⟩;simp[execOp,h,Vs l.h _ j q w]
def yE(P:Program)(t:TypeId):Option (Nat×dj):=
 match P.underlying t with
 | some (.slice e)=>match P.info? e with
  | some i=>i.zero.map λz=>(i.size,z.cells.toList)
  | none=>none
 | _=>none
class j9 (P:Program) (t:Nat) (x:outParam (Nat×dj)):Prop where h:yE P t=some x
def Fx{t}{k}{a}(h:yE P t=some (k,a)):∃e i z,P.underlying t=some (.slice e)/\P.info? e=some i/\i.zero=some z/\i.size=k/\z.cells.toList=a:=by
 unfold yE at h;split at h
 ·rename_i e c;split at h
  ·rename_i i f;cases aD:i.zero with
   | none=>simp[aD] at h
   | some z=>simp[aD] at h;exact⟨e,i,z,c,f,aD,h.1,h.2⟩
  ·cases h
 ·cases h
def mG(n k:Nat)(ga:dj):dj:=(List.range (n*k)).map λi=>ga.getD (i%ga.length) default
theorem nq{I}{w}{k b}:∀(els:List bl) (o:Nat),(∀e∈els,e.length=k)->Cells I w b o els.flatten->fK I w k b o els
 | [],o,_,_=>.nil _ _ _
 | e::els,o,a,h=>by
  rw[List.flatten_cons] at h;have c:=a e (.head _);have f:Cells I w b o e:=by have:=h.take e.length;rwa [List.take_left] at this
  have g:Cells I w b (o+k) els.flatten:=by have:=h.drop e.length;rw[List.drop_left,c] at this;exact this
  exact .cons _ _ _ _ _ c f (nq els _ (λe j=>a e (.tail _ j)) g)
def Vt{t}{n k}{m}(q:yE P t=some (k,m))(a)(us)(r:n*k<=16777216)(o:0<n*k)
  (h:Instr.fill (λi=>some (i*k,k)) (mG n k m).toArray a.toList=some us) (w):
  ∃e,(Instr.buildSlice t n a).run P w= .ok (.slice (some ⟨w.heap.size,0,none⟩) n n) (w.alloc (.cells us e)):=by
 obtain⟨e,i,z,x,A,s,g,l⟩:=Fx q;have f: ¬n*i.size>2^24:=by rw[g];omega
 have c: ¬n*i.size=0:=by rw[g];omega
 have v:Instr.fill (λj=>some (j*i.size,i.size)) ((Array.range (n*i.size)).map (z.cells[· %z.cells.size]!)) a.toList=some us:=?_
 ·exact⟨e,by simp[Instr.buildSlice,run_underlying x,sizeOf,typeInfo,zeroValue,A,s,f,c,v,newRow]⟩
 rw[g, <-h];congr 1;apply Array.ext';simp only[mG,Array.toList_map,Array.toList_range, <-l];refine List.map_congr_left λj _=>?_;simp[Array.getElem!_eq_getD,Array.getD_eq_getD_getElem?,List.getD_eq_getElem?_getD]
def ad.row{t}{n k}{g}{l}{ys}{els}[hR:j9 P t (k,l)](h:o.op= .buildSlice t n g)
  (hy:js ρ (g.toList.map (·.2))=some ys) (R:ys.all (·.1)=true) (s:(partsOf g.toList ys).map (λx=>cJ x.2)=els) (j:Nat.beq els.length n) (C:els.all (λe=>Nat.beq e.length k)=true)
  (f:Nat.ble (n*k) 16777216) (c:Nat.blt 0 (n*k))
  (J:n1 (λi=>some (i*k,k)) ((mG n k l).map .val) (partsOf g.toList ys)=some els.flatten):ad P H ρ o (.aj k els):=by
 intro B I w r a U T M _ F;obtain⟨E,K⟩:=Fw F g cd hy R;obtain⟨q,Q,D⟩:=BY _ _ ((mG n k l).map .val) (mG n k l).toArray els.flatten (by simpa using lA _) E K J;have f:=Nat.le_of_ble_eq_true f;have c:0<n*k:=Nat.le_of_ble_eq_true c;obtain⟨e,uu⟩:=Vt hR.h (g.map λ(i,x)=>(i,a.eval x)) q f c Q w;obtain⟨N,O,G,A⟩:=cr.ux T e q;have S:=Nat.eq_of_beq_eq_true j;have L:n<=n*k:=by
  rcases Nat.eq_zero_or_pos k with rfl | m
  ·simp at c
  ·exact Nat.le_mul_of_pos_right n m
 refine .e4 (v:=.slice (some ⟨w.heap.size,0,none⟩) n n) (w':=w.alloc (.cells q e)) ck yt ⟨_,N,O,G _ M,.aj _ _ _ _ _ _ S (Nat.le_refl _) ia (nq els 0 (λx z=>?_) (A _ D))⟩;have:=List.all_eq_true.1 C x z;exact Nat.eq_of_beq_eq_true this
def ad.lW{t}{k}{f}[hR:j9 P t (k,f)](h:o.op= .buildSlice t 0 #[]):ad P H ρ o .fm:=by
 intro B I w r a x c g _ s;obtain⟨e,i,z,l,m,A,q,j⟩:=Fx hR.h;have uu:(Instr.buildSlice t 0 #[]).run P w= .ok (.slice (some ⟨w.heap.size,0,none⟩) 0 0) (w.alloc (.cells #[] e)):=by
  simp[Instr.buildSlice,run_underlying l,sizeOf,typeInfo,m,Instr.fill,newRow,show Array.range 0= #[] from by decide+kernel]
 exact .e4 (v:=.slice (some ⟨w.heap.size,0,none⟩) 0 0) (w':=w.alloc (.cells #[] e)) ck yt ⟨I,c.alloc _,jJ c _,g.alloc c _,.fm _⟩
end
inductive fV:List br->br->List br->Prop
 | head (e:br) (H:List br):fV (e::H) e H
 | tail (f e:br) (H H':List br) (h:fV H e H'):fV (f::H) e (f::H')
def fV.mem{H H'}{e}(h:fV H e H'):e∈H:=by
 induction h with
 | head=>exact .head _
 | tail _ _ _ _ _ a=>exact .tail _ a
def fV.sub{H H'}{e}(h:fV H e H'):H'.Sublist H:=by
 induction h with
 | head=>exact List.sublist_cons_self _ _
 | tail _ _ _ _ _ a=>exact a.cons_cons _
def fV.apart{H H'}{e}(h:fV H e H')(l:H.Pairwise λe f=>∀b,e.dY=some b->f.dY≠some b):∀f∈H',∀b,e.dY=some b->f.dY≠some b:=by
 induction h with
 | head e H=>exact (List.pairwise_cons.1 l).1
 | tail g e H H' h r=>
  obtain⟨q,o⟩:=List.pairwise_cons.1 l;intro f j b m a;rcases List.mem_cons.1 j with rfl | j
  ·exact q e h.mem b a m
  ·exact r o f j b m a
def cr.freeze{B}{I}{w}{H H'}(F:bY B I w)(J:a7 B I w H){b n}{e}(K:fV H e H')(L:e.dY=some b){vs}{t}(G:w.heap[b]? =some (.cells vs t (0,0)))(hn:n<=vs.size):
  bY B (I.add b n) w/\Ext B I w (I.add b n) w/\a7 B (I.add b n) w H'/\(∀j m,bU I w j m->m=vs.toList.take n->Cells (I.add b n) w b 0 j):=by
 have k:er I w (I.add b n) w:=⟨λ_ _ x=>.inl x,λ_ _ _=>rfl⟩;refine⟨⟨F.base,λdL o h=>?_⟩,⟨k.ix,k.cell,Below.refl _ _⟩,?_,?_⟩
 ·rcases h with h | ⟨rfl,h⟩
  ·exact F.there dL o h
  ·exact⟨vs[o]'aa,by rw[jK G];exact Array.getElem?_eq_getElem aa⟩
 ·refine (J.sub K.sub).bw k (λ_ _ _ _=>rfl) λf A dL C o z=>?_;rcases z with z | ⟨rfl,_⟩
  ·exact z
  ·exact absurd C (K.apart J.apart f A _ L)
 ·intro j m r q;have D:∀(a:bl) (g:dj) (o:Nat),bU I w a g->g=(vs.toList.take n).drop o->Cells (I.add b n) w b o a:=by
   intro a
   induction a with
   | nil=>intro g o _ _;exact .nil _ _
   | cons y a M=>
    intro g o N q;cases N with
    | cons _ v _ E r O=>
     have s:(vs.toList.take n)[o]? =some v:=by
      have:=congrArg (λl=>l[0]?) q;simpa using this.symm
     have c:o<n:=by
      have:=(List.getElem?_eq_some_iff.1 s).1;simp at this;omega
     refine .cons _ _ _ v _ ?_ (.inr ⟨rfl,c⟩) (r.bw k) (M E (o+1) O ?_)
     ·rw[jK G];rw[List.getElem?_take] at s;simpa [c] using s
     ·have:=congrArg List.tail q;simpa [List.tail_drop] using this
  exact D j m 0 r (by simpa using q)
section
variable{c:Ctx}{r:Option Nat}{P:Program}{ops:Array Oper}{l rest:cg}{o:Oper}{st:dT}{Q:Exit->Act->World->Prop}{x:ab}{H:aC}{ρ:Nat->Option ab}
def Sat.qF{a}{w}{d}{y}{env}{I}(f:fL I w (aE env) a)(h:Rel I w y (a.tmps.getD d undef)):fL I w (aE ((d,y)::env)) a:=by
 intro t z c;rw[k6] at c;split at c
 ·rename_i e;subst e;simp at c;subst c;exact h
 ·exact f t z c
def Sat.nr{a}{w}{d b off}{t}{cs}{H'}(s:Sat c st a w)(o:aE st.env d=some (.p b off))(l:fV st.H (.au b t cs) H'):Sat c ⟨(d,.ptr (cs.drop off))::st.env,H'⟩ a w:=by
 obtain⟨I,x,C,g,h⟩:=s.mem;obtain⟨D,j,z,r,B⟩:=g.ok _ l.mem;obtain⟨A,f,m,v⟩:=cr.freeze (n:=j.size) x g l (b:=b) rfl z (Nat.le_refl _);refine⟨s.ds,s.size,_,A,C.trans f,m,Sat.qF (h.bw f.keeps) ?_⟩;have q:=bZ (h d _ o);rw[q];have:=(v cs j.toList r BC).drop off;exact .ptr _ _ _ (by simpa using this)
def aA.nr{p}{d b off}{t}{cs}{H'}(f:aE st.env d=some (.p b off))(g:fV st.H (.au b t cs) H')(h:aA c r P p ⟨(d,.ptr (cs.drop off))::st.env,H'⟩ Q):aA c r P p st Q:=
 λa w s=>h a w (s.nr f g)
def Sat.oW{a}{w}{d b n cap k}{t}{els}{more}{H'}(s:Sat c st a w)(B:aE st.env d=some (.val (.slice (some ⟨b,0,none⟩) n cap)))(j:fV st.H (.au b t (els.flatten++more)) H')
  (hn:els.length=n) (x:∀e∈els,e.length=k) (v:n<=cap) (hm:cap<=maxLen):Sat c ⟨(d,.aj k els)::st.env,H'⟩ a w:=by
 obtain⟨I,D,F,f,g⟩:=s.mem;obtain⟨G,h,C,q,E⟩:=f.ok _ j.mem;obtain⟨z,l,A,r⟩:=cr.freeze (n:=h.size) D f j (b:=b) rfl C (Nat.le_refl _);refine⟨s.ds,s.size,_,z,F.trans l,A,Sat.qF (g.bw l.keeps) ?_⟩;have o:=bZ (g d _ B);rw[o];have m:=(r _ h.toList q BC).take els.flatten.length;rw[List.take_left] at m;exact .aj _ _ _ _ _ _ hn v hm (nq els 0 x m)
def aA.oW{p}{d b n cap k}{t}{els}{more}{H'}(f:aE st.env d=some (.val (.slice (some ⟨b,0,none⟩) n cap)))(l:fV st.H (.au b t (els.flatten++more)) H')
  (hn:els.length=n) (j:∀e∈els,e.length=k) (g:n<=cap) (hm:cap<=maxLen) (h:aA c r P p ⟨(d,.aj k els)::st.env,H'⟩ Q):aA c r P p st Q:=
 λa w s=>h a w (s.oW f l hn j g hm)
def Sat.le{a}{w}{d}{x y}(s:Sat c st a w)(g:aE st.env d=some x)(h:aq x y):Sat c ⟨(d,y)::st.env,st.H⟩ a w:=by
 obtain⟨I,l,m,j,f⟩:=s.mem;exact⟨s.ds,s.size,I,l,m,j,Sat.qF f (h _ _ _ (f d _ g))⟩
def aA.le{p}(d){x y}(g:aE st.env d=some x)(f:aq x y)(h:aA c r P p ⟨(d,y)::st.env,st.H⟩ Q):aA c r P p st Q:=λa w s=>h a w (s.le g f)
def ai.le(d){x y}(g:aE st.env d=some x)(f:aq x y)(h:ai c r P ops l ⟨(d,y)::st.env,st.H⟩ Q):ai c r P ops l st Q:=λa w s=>h a w (s.le g f)
def aZ.le{e}(d){x y}(g:aE st.env d=some x)(f:aq x y)(h:aZ c ⟨(d,y)::st.env,st.H⟩ e Q):aZ c st e Q:=λa w s=>h a w (s.le g f)
def aZ.nr{e}{d b off}{t}{cs}{H'}(f:aE st.env d=some (.p b off))(g:fV st.H (.au b t cs) H')(h:aZ c ⟨(d,.ptr (cs.drop off))::st.env,H'⟩ e Q):aZ c st e Q:=
 λa w s=>h a w (s.nr f g)
def Fy(P:Program)(t:TypeId):Option (TypeId×Nat×Nat):=
 match P.underlying t with
 | some (.slice e)=>match P.info? e with
  | some i=>match i.zero with
   | some z=>bif Nat.beq z.cells.size i.size && Nat.blt 0 i.size then some (e,i.size,i.bytes) else none
   | none=>none
  | none=>none
 | _=>none
class fi (P:Program) (t:Nat) (x:outParam (Nat×Nat×Nat)):Prop where h:Fy P t=some x
def oX{t e k a}(h:Fy P t=some (e,k,a)):∃i z,P.underlying t=some (.slice e)/\P.info? e=some i/\i.zero=some z/\i.size=k/\i.bytes=a/\z.cells.size=k/\0<k:=by
 unfold Fy at h;split at h
 ·rename_i j f;split at h
  ·rename_i i g;split at h
   ·rename_i z c;cases a1:(Nat.beq z.cells.size i.size && Nat.blt 0 i.size) with
    | false=>simp[a1] at h
    | true=>
     simp[a1,cond_true,Option.some.injEq,Prod.mk.injEq] at h;obtain⟨rfl,rfl,rfl⟩:=h;simp only[Bool.and_eq_true] at a1;exact⟨i,z,f,g,c,rfl,rfl,Nat.eq_of_beq_eq_true a1.1,Nat.le_of_ble_eq_true a1.2⟩
   ·cases h
  ·cases h
 ·cases h
def fK.values{I}{w}{k b o}{els}(h:fK I w k b o els):∃a,bU I w els.flatten a/\a.length=els.length*k/\∀j u,a[j]? =some u->w.cell? ((⟨b,o,none⟩:Addr).add j)=some u:=by
 obtain⟨a,c,g⟩:=h.cells.values;refine⟨a,c,?_,λj u f=>?_⟩
 ·rw[c.length,h.Ly]
 ·have:(⟨b,o,none⟩:Addr).add j=⟨b,o+j,none⟩:=by unfold Addr.add;split <;> simp_all
  rw[this];exact g j u f
def LW{els:List bl}(h:els.all dG=true):dG els.flatten=true:=by
 simp only[dG,List.all_eq_true,List.mem_flatten] at h ⊢;rintro x ⟨e,c,a⟩;exact h e c x a
def uF{I}{w}{tx e' k}{els}{v}(f:P.underlying tx=some (.slice e'))(h:Rel I w (.aj k els) v)(m:els.all dG=true):
  ∃us,bU I w els.flatten us/\Src P k tx v els.length us w:=by
 cases h with
 | dQ _ a q=>
  refine⟨[],.nil,?_⟩;cases a with
  | none=>exact Src.ofNil w f _
  | some a=>exact Src.ofSlice w f a 0 q [] aT aT aT
 | aj _ _ b r len g o z x t=>
  obtain⟨us,aB,fN,rW⟩:=t.values;subst o;exact⟨us,aB,Src.ofSlice w f _ _ g us fN rW (uC aB (LW m))⟩
def pJ{s z}{t tx}(h:o.op= .call {callee:=.builtin .append,args:=#[s,z],argTypes:=#[t,tx]})(a:Act)(w){v}{w'}
  (c:(Builtin.append_ #[t,tx] o.type #[a.eval s,a.eval z]).run P w= .ok v w'):(execOp a.eval o).run P w= .ok (.value v) w':=by
 simp[execOp,h,resolve,invoke,builtin,c]
def ad.B0{s z}{t tx e k m gW}{els}{lE y}{g1 Z}[df:fi P t (e,k,m)][ka:eE P tx gW](h:o.op= .call {callee:=.builtin .append,args:=#[s,z],argTypes:=#[t,tx]})
  (b4:aO ρ s=some (g1,lE)) (C:g1=true) (D:aq lE .fm) (aD:aO ρ z=some (Z,y)) (g:Z=true) (hy:aq y (.aj k els)) (ae:els.all dG=true) (ba:els.length*m<=140737488355328) (a9:els.length<=9223372036854775807):ad P H ρ o (.aj k els):=by
 intro B I w r a ni hw aW _ N;obtain⟨i,zv,hu,aN,l0,R,O,tg,fw⟩:=oX df.h;obtain⟨e',_,K,_⟩:=nY ka.h;obtain⟨f,uw⟩:∃f,a.eval s= .slice f 0 0:=by
  have l:=D _ _ _ (N.get gF b4 C);generalize a.eval s=u at l;cases l;exact⟨_,rfl⟩
 obtain⟨us,aB,fN⟩:=uF (P:=P) (tx:=tx) K (hy _ _ _ (N.get gF aD g)) ae;rw[<-R] at fN;by_cases hn:els.length=0
 ·have S:els= []:=List.eq_nil_of_length_eq_zero hn;subst S;have Q:us= []:=by cases aB;rfl
  subst Q;have bK:=run_append_nothing (P:=P) w t tx o.type e i hu aN f 0 0 (Nat.le_refl _) (a.eval z) fN;exact .e4 ck (pJ h a w uv) ⟨I,hw,.refl _ _ _,aW,.dQ _ _ _⟩
 ·have W:(Builtin.firstCells i.size 0 (.slice f 0 0)).run P w.drew= .ok (#[]:Array Value) w.drew:=by
   cases f with
   | none=>simp[Builtin.firstCells]
   | some f=>exact run_firstCells_some w.drew i.size 0 f 0 0 [] aT aT
  have J:Builtin.nextslicecap (0+els.length) 0*i.bytes<=281474976710656:=growslice_fits aa (by rw[O,Nat.zero_add];exact ba);have bK:=run_append_grow_src (P:=P) w t tx o.type e i zv hu aN l0 f 0 0 [] W (a.eval z) els.length us fN aa aa J;simp[Nat.zero_add,List.nil_append] at bK;generalize fb:grownCap w els.length 0 e=G at bK;have T:els.length<=G:=by rw[<-fb];exact grownCap_ge w els.length 0 e
  have L:G<=maxLen:=by rw[<-fb];exact grownCap_le_maxLen w els.length 0 e ia
  obtain⟨bI,a2,a3,a4⟩:=cr.ux hw.drew e (us.toArray++Builtin.zeroCells zv.cells (G - els.length));have eL:er I w I w.drew:=⟨λ_ _ x=>x,λ_ _ _=>rfl⟩;have Vu:=aB.bw eL;have X:=lA (I:=I) (w:=w.drew) (Builtin.zeroCells zv.cells (G - els.length)).toList;have c:=a4 (els.flatten++(Builtin.zeroCells zv.cells (G - els.length)).toList.map .val) (by simpa using Vu.append X);have q:=c.take els.flatten.length;rw[List.take_left] at q;have v:∀x∈els,x.length=k:=by
   have l:=hy _ _ _ (N.get gF aD g);generalize a.eval z=u at l;cases l with
   | dQ=>simp at hn
   | aj _ _ b off len a0 bq a1 hm he=> 
    intro x aK;obtain⟨j,cp⟩:=List.mem_iff_getElem?.1 aK;exact (he.get cp).1
  exact .e4 ck (pJ h a w uv) ⟨_,bI,(.trans ⟨eL.ix,eL.cell,(Below.refl _ _).drew⟩ a2),a3 _ aW.drew,.aj _ _ _ _ _ _ rfl T L (nq els 0 v q)⟩
def Sat.oY{a}{w}{d e k}(s:Sat c st a w)(l:aE st.env d=some (.val (.slice none 0 0))):Sat c ⟨(d,.as (.aj k []) (.slice none 0 0))::st.env,.own e k (.slice none 0 0)::st.H⟩ a w:=by
 obtain⟨I,q,r,h,j⟩:=s.mem;refine⟨s.ds,s.size,I,q,r,⟨λf g=>?_,List.pairwise_cons.2 ⟨λf g b o=>by simp[br.dY,Value.ownBlock] at o,h.apart⟩⟩,Sat.qF j ?_⟩
 ·rcases List.mem_cons.1 g with rfl | g
  ·exact⟨0,[],World.ownsRow_nil _ _ _ _,λg m=>by simp[Value.ownBlock] at m⟩
  ·exact h.ok f g
 ·rw[bZ (j d _ l)];exact .as _ _ (.dQ _ _ _)
def aA.oY{p}(d e k)(f:aE st.env d=some (.val (.slice none 0 0)))(h:aA c r P p ⟨(d,.as (.aj k []) (.slice none 0 0))::st.env,.own e k (.slice none 0 0)::st.H⟩ Q):aA c r P p st Q:=
 λa w s=>h a w (s.oY f)
def Vv{I}{w}:er I w I w.drew:=⟨λ_ _ x=>x,λ_ _ _=>rfl⟩
def Vw{B}{I}{w}:Ext B I w I w.drew:=⟨λ_ _ x=>x,λ_ _ _=>rfl,(Below.refl _ _).drew⟩
theorem pK{k}:∀{els:List bl},(∀x∈els,x.length=k)->els.flatten.length=els.length*k
 | [],_=>by simp
 | e::els,h=>by rw[List.flatten_cons,List.length_append,pK (λx a=>h x (.tail _ a)),h e (.head _),List.length_cons,Nat.add_mul];omega
def Rel.yF{I}{w}{k}{els}{v}(h:Rel I w (.aj k els) v):∀x∈els,x.length=k:=by
 cases h with
 | dQ=>intro x aK;cases aK
 | aj _ _ b off len f r q o c=>
  intro x aK;obtain⟨j,m⟩:=List.mem_iff_getElem?.1 aK;exact (c.get m).1
theorem uG{I}{w}{b}{vs}{t}(h:w.heap[b]? =some (.cells vs t (0,0))):∀(a:bl) (c:dj) (o:Nat),bU I w a c->(∀j u,c[j]? =some u->vs[o+j]? =some u)->(∀j,j<a.length->I b (o+j))->Cells I w b o a
 | [],_,o,_,_,_=>.nil _ _
 | y::a,_,o,.cons _ v _ c l m,f,g=>by
  refine .cons _ _ _ v _ (by rw[jK h];simpa using f 0 v rfl) (by simpa using g 0 aT) l (uG h a c (o+1) m (λj u q=>?_) λj r=>?_)
  ·have:=f (j+1) u (by simpa using q);have e:o+(j+1)=o+1+j:=by omega
   rwa [e] at this
  ·have:=g (j+1) cF;have e:o+(j+1)=o+1+j:=by omega
   rwa [e] at this
def LX{lE}{s z}{t tx e k ar gW}{els news}{v}{y}{g1 g2:Bool}{H':Value->aC}[df:fi P t (e,k,ar)][ka:eE P tx gW]
  (h:o.op= .call {callee:=.builtin .append,args:=#[s,z],argTypes:=#[t,tx]}) (b4:aO ρ s=some (g1,lE)) (B1:g1=true) (yG:aq lE (.as (.aj k els) v)) (aD:aO ρ z=some (g2,y)) (B2:g2=true) (hy:aq y (.aj k news))
  (ae:news.all dG=true) (hu:∀eA,bG H (.own e k v) (.own e k eA) (H' eA)) (ba:(els.length+news.length)*ar<=140737488355328) (bT:els.length+news.length<=9223372036854775807)
  {B:Nat} {I:cr} {w:World} {r:Option Nat} {a:Act} (hw:bY B I w) (aW:a7 B I w H) (bd:fo I w ρ a o):
  dw P r o a w (λx w'=>∃q,bY B q w'/\Ext B I w q w'/\a7 B q w' (H' x)/\Rel q w' (.as (.aj k (els++news)) x) x) (λ_ _=>False):=by
 obtain⟨i,zv,Fz,aN,l0,Y,Vx,tg,akY⟩:=oX df.h;obtain⟨e',_,Vy,_⟩:=nY ka.h;have hQ:=yG _ _ _ (bd.get gF b4 B1);obtain⟨Vz,L⟩:a.eval s=v/\Rel I w (.aj k els) v:=by
  generalize a.eval s=u at hQ;cases hQ with
  | as _ _ aK=>exact⟨rfl,aK⟩
 have rX:=hy _ _ _ (bd.get gF aD B2);obtain⟨us,aB,fN⟩:=uF (P:=P) (tx:=tx) Vy rX ae;rw[<-Y] at fN;obtain⟨n,xs,rR,pL⟩:=aW.ok _ (hu v).mem
 suffices hmain:∃eA q w',(Builtin.append_ #[t,tx] o.type #[v,a.eval z]).run P w= .ok eA w'/\bY B q w'/\Ext B I w q w'/\a7 B q w' (H' eA)/\Rel q w' (.aj k (els++news)) eA by
  obtain⟨eA,q,w',bM,bJ,e6,ns,th⟩:=hmain;exact dw.e4 (R:=λx w'=>∃q,bY B q w'/\Ext B I w q w'/\a7 B q w' (H' x)/\Rel q w' (.as (.aj k (els++news)) x) x) (E:=λ_ _=>False) ck (pJ h a w (by rw[Vz];exact bM)) ⟨q,bJ,e6,ns,.as _ _ th⟩
 have Q:=rX.yF;have W:=L.yF;by_cases hn:news.length=0
 ·have iy:news= []:=List.eq_nil_of_length_eq_zero hn;subst iy;have VA:us= []:=by cases aB;rfl
  subst VA;obtain⟨gH,m,nt,VB,hle⟩:∃gH m nt,v= .slice gH m nt/\m<=nt:=by
   rcases rR.2 with⟨rfl,_⟩ | ⟨g,cap,cur,rfl,_,_,a1,_⟩
   ·exact⟨_,_,_,rfl,Nat.le_refl _⟩
   ·exact⟨_,_,_,rfl,a1⟩
  have X:=run_append_nothing (P:=P) w t tx o.type e i Fz aN gH m nt hle (a.eval z) fN;rw[<-VB] at X;exact⟨v,I,w,X,hw,Ext.refl _ _ _,aW.fE (hu v) ⟨λ_ _ x=>x,λ_ _ _=>rfl⟩ (λ_ _ _=>rfl) (λ_ _ x=>.inl x) ⟨n,xs,rR,pL⟩ (λ_ ba=>.inl ba),by simpa using L⟩
 have U:∀(gH:Option Addr) (m old:Nat) (olds:dj),m=els.length->bU I w els.flatten olds->(Builtin.firstCells i.size m (.slice gH m old)).run P w.drew= .ok olds.toArray w.drew->old<m+news.length->v= .slice gH m old->
   ∃eA q w',(Builtin.append_ #[t,tx] o.type #[v,a.eval z]).run P w= .ok eA w'/\bY B q w'/\Ext B I w q w'/\a7 B q w' (H' eA)/\Rel q w' (.aj k (els++news)) eA:=by
  intro gH m old olds hm a5 VC K VD;subst hm;have a9:Builtin.nextslicecap (els.length+news.length) old*i.bytes<=281474976710656:=growslice_fits K (by rw[Vx];exact ba);have X:=run_append_grow_src (P:=P) w t tx o.type e i zv Fz aN l0 gH els.length old olds VC (a.eval z) news.length us fN K aa a9;rw[<-VD] at X;generalize fb:grownCap w (els.length+news.length) old e=G at X;have ah:els.length+news.length<=G:=by rw[<-fb];exact grownCap_ge w _ old e
  have T:G<=maxLen:=by rw[<-fb];exact grownCap_le_maxLen w _ old e ia
  generalize a3:(olds++us).toArray++Builtin.zeroCells zv.cells (G - (els.length+news.length))=cur at X;have am:olds.length=els.length*k:=by rw[a5.length,pK W]
  have yv:us.length=news.length*k:=by rw[aB.length,pK Q]
  have S:cur.size=G*k:=by
   rw[<-a3];simp only[Array.size_append,List.size_toArray,List.length_append,size_zeroCells,tg,am,yv, <-Nat.add_mul];congr 1;omega
  have LY:(olds++us).length=(els.length+news.length)*k:=by rw[List.length_append,am,yv,Nat.add_mul]
  have yH:cur.toList.take ((els.length+news.length)*k)=olds++us:=by
   rw[<-a3, <-LY,Array.toList_append];exact List.take_left
  have pM:=hw.drew
  let q:cr:=λb o=>I b o\/(b=w.heap.size/\o<(els.length+news.length)*k)
  have D:er I w q (w.drew.alloc (.cells cur e)):=⟨λ_ _ x=>.inl x,λb o x=>(lY pM _).cell b o x⟩;have a0:(w.drew.alloc (.cells cur e)).heap[w.heap.size]? =some (.cells cur e (0,0)):=heap_alloc_new w.drew _;refine⟨.slice (some ⟨w.heap.size,0,none⟩) (els.length+news.length) G,q,_,X,⟨(pM.alloc _).base,λb o aK=>?_⟩,⟨D.ix,D.cell,(Vw.trans (jJ pM (.cells cur e))).below⟩,?_,?_⟩
  ·rcases aK with aK | ⟨rfl,aK⟩
   ·exact (pM.alloc _).there b o aK
   ·have:o<cur.size:=by rw[S];exact Nat.lt_of_lt_of_le aK (Nat.mul_le_mul_right k ah)
    exact⟨cur[o],by rw[jK a0];exact Array.getElem?_eq_getElem this⟩
  ·refine aW.fE (hu _) D (λb K _=>Below.heap_alloc w.drew _ b K) (λb o aK=>aK.elim .inl (λaK=>.inr (.inr (by rw[aK.1];exact Nat.le_refl _)))) ?_ (λb ba=>.inr ?_)
   ·refine⟨els.length+news.length,olds++us,⟨LY,.inr ⟨w.heap.size,G,cur,rfl,hw.base,a0,ah,T,S,yH⟩⟩,λg av o bb jq=>?_⟩;simp[Value.ownBlock] at av;subst av;rcases jq with jq | ⟨_,jq⟩
    ·exact absurd (hw.lt jq) (Nat.lt_irrefl _)
    ·omega
   ·simp[br.dY,Value.ownBlock] at ba;omega
  ·refine .aj _ _ _ _ _ _ aT ah T (nq _ _ (λx aK=>(List.mem_append.1 aK).elim (W x) (Q x)) ?_);rw[List.flatten_append];refine uG a0 _ (olds++us) 0 ((a5.append aB).bw D) (λj u hu=>?_) (λj cp=>.inr ⟨rfl,?_⟩)
   ·rw[<-yH,List.getElem?_take] at hu;split at hu
    ·simpa using hu
    ·cases hu
   ·rw[<-List.flatten_append,pK (λx aK=>(List.mem_append.1 aK).elim (W x) (Q x)),List.length_append] at cp;omega
 rcases rR.2 with⟨hv0,uH⟩ | ⟨g,cap,cur,kb,hBg,av,a9,T,S,htake⟩
 ·-- from nil
  subst hv0;have iy:els= []:=by
   cases L with
   | dQ=>rfl
  subst iy;exact U none 0 0 [] rfl .nil (by simp[Builtin.firstCells]) cF rfl
 ·subst kb;have qG:n=els.length:=by cases L with
   | dQ=>rfl
   | aj _ _ _ _ _ _ bq _ _ _=>exact bq.symm
  subst qG;have bI:fK I w k g 0 els:=by cases L with
   | dQ=>exact .nil _ _ _
   | aj _ _ _ _ _ _ _ _ _ he=>exact he
  obtain⟨olds,gI,fF,fc⟩:=bI.values;have VE:∀j u,olds[j]? =some u->cur[j]? =some u:=λj u hu=>by
   have:=fc j u hu;have bM:(⟨g,0,none⟩:Addr).add j=⟨g,j,none⟩:=by unfold Addr.add;split <;> simp_all
   rw[bM,jK av] at this;exact this
  have qH:olds=xs:=by
   rw[<-htake];apply List.ext_getElem?;intro j;rw[List.getElem?_take];by_cases cp:j<els.length*k
   ·rw[if_pos cp];have K:j<olds.length:=by omega
    rw[List.getElem?_eq_getElem K];have:=VE j _ (List.getElem?_eq_getElem K);simpa using this.symm
   ·rw[if_neg cp,List.getElem?_eq_none aa]
  by_cases A:els.length+news.length<=cap
  ·-- in place
   have fw:els.length*i.size+us.length<=cur.size:=by rw[S,fN.newsLen,Y, <-Nat.add_mul];exact Nat.mul_le_mul_right _ A
   have yv:us.length=news.length*k:=by rw[aB.length,pK Q]
   have B3:=run_storeCells_at P g (els.length*i.size) e us 0 cur w av (by simpa using fw) fN.one;simp only[Nat.add_zero] at B3;have X:(Builtin.append_ #[t,tx] o.type #[.slice (some ⟨g,0,none⟩) els.length cap,a.eval z]).run P w= .ok (.slice (some ⟨g,0,none⟩) (els.length+news.length) cap) (w.setRow g (cur.toList.take (els.length*i.size)++us++cur.toList.drop (els.length*i.size+us.length)).toArray):=by
    rcases fN.kind with⟨e'',bD⟩ | bD <;> simp[Builtin.append_,run_underlying Fz,run_underlying bD,sizeOf,typeInfo,aN,fN.len,A,fN.cells,Addr.add_lit,B3]
   rw[Y] at X;generalize N:(cur.toList.take (els.length*k)++us++cur.toList.drop (els.length*k+us.length)).toArray=cur' at X;have O:(w.setRow g cur').heap[g]? =some (.cells cur' e (0,0)):=setRow_heap w g cur cur' e (0,0) av
   let q:cr:=λb o=>I b o\/(b=g/\o<(els.length+news.length)*k)
   have a4:cur'.size=cap*k:=by
    rw[<-N];simp only[List.size_toArray,List.length_append,List.length_take,List.length_drop,Array.length_toList];rw[Y] at fw;omega
   have gJ:cur'.toList.take ((els.length+news.length)*k)=xs++us:=by
    rw[<-N,htake];have:(els.length+news.length)*k=(xs++us).length:=by rw[List.length_append,rR.1,yv,Nat.add_mul]
    rw[this];exact List.take_left
   have ac:∀j,j<els.length*k->cur'[j]? =cur[j]? :=λj cp=>by
    rw[<-N];have af:j<cur.size:=by rw[S];exact Nat.lt_of_lt_of_le cp (Nat.mul_le_mul_right k a9)
    simp only[List.getElem?_toArray];rw[List.append_assoc,List.getElem?_append_left cF,List.getElem?_take,if_pos cp];simp
   have D:er I w q (w.setRow g cur'):=⟨λ_ _ x=>.inl x,λb o x=>by
    by_cases ba:b=g
    ·subst ba;have bb:o<els.length*k:=Nat.lt_of_not_le λhle=>pL b rfl o hle x;rw[jK O,jK av];exact ac o bb
    ·exact World.cell?_of_block (a:=⟨b,o,none⟩) (setRow_other w g b cur' ba)⟩
   refine⟨_,q,_,X,⟨wv,λb o aK=>?_⟩,⟨D.ix,D.cell,⟨rfl,rfl,rfl,aT,λj cp=>setRow_other w g j cur' aa⟩⟩,?_,?_⟩
   ·rcases aK with aK | ⟨rfl,aK⟩
    ·rw[D.cell b o aK];exact hw.there b o aK
    ·have:o<cur'.size:=by rw[a4];exact Nat.lt_of_lt_of_le aK (Nat.mul_le_mul_right k A)
     exact⟨cur'[o],by rw[jK O];exact Array.getElem?_eq_getElem this⟩
   ·refine aW.fE (hu _) D (λb K VF=>setRow_other w g b cur' (λe=>VF wB)) (λb o aK=>aK.elim .inl (λaK=>.inr (.inl (by rw[aK.1];rfl)))) ⟨els.length+news.length,xs++us,⟨U1,.inr ⟨g,cap,cur',rfl,hBg,O,A,T,a4,gJ⟩⟩,λn2 yI o bb jq=>?_⟩ (λb ba=>.inl ba);simp[Value.ownBlock] at yI;subst yI;rcases jq with jq | ⟨_,jq⟩
    ·exact pL g rfl o (Nat.le_trans (Nat.mul_le_mul_right k aa) bb) jq
    ·omega
   ·refine .aj _ _ _ _ _ _ aT A T (nq _ _ (λx aK=>(List.mem_append.1 aK).elim (W x) (Q x)) ?_);rw[List.flatten_append];rw[qH] at gI;refine uG O _ (xs++us) 0 ((gI.append aB).bw D) (λj u hu=>?_) (λj cp=>.inr ⟨rfl,?_⟩)
    ·rw[<-gJ,List.getElem?_take] at hu;split at hu
     ·simpa using hu
     ·cases hu
    ·rw[<-List.flatten_append,pK (λx aK=>(List.mem_append.1 aK).elim (W x) (Q x)),List.length_append] at cp;omega
  ·refine U (some ⟨g,0,none⟩) els.length cap olds rfl gI ?_ aa rfl;rw[Y];exact run_firstCells_some w.drew k els.length ⟨g,0,none⟩ els.length cap olds fF (by simpa using fc)
def ai.LZ{lE:ab}{s z:Operand}{t tx e k iW gW:Nat}{els news:List bl}{v:Value}{y:ab}{g1 g2:Bool}{H':Value->aC}[df:fi P t (e,k,iW)][ka:eE P tx gW](l2:o.guard=none)(a6:iF c.n o.dst)
  (h:o.op= .call {callee:=.builtin .append,args:=#[s,z],argTypes:=#[t,tx]}) (b4:aO (aE st.env) s=some (g1,lE)) (rY:g1=true) (yG:aq lE (.as (.aj k els) v)) (aD:aO (aE st.env) z=some (g2,y)) (rZ:g2=true) (hy:aq y (.aj k news))
  (ae:news.all dG=true) (hu:∀eA,bG st.H (.own e k v) (.own e k eA) (H' eA)) (ba:(els.length+news.length)*iW<=140737488355328) (wG:els.length+news.length<=9223372036854775807)
  (next:∀eA,ai c r P ops rest ⟨iT o.dst (.as (.aj k (els++news)) eA) st.env,H' eA⟩ Q):ai c r P ops (o::rest) st Q:=by
 intro a w sat;refine wpListIn_plain l2 λK eX=>?_;obtain⟨I,hw,he,aW,bd⟩:=sat.mem;refine (LX h b4 rY yG aD rZ hy ae hu ba wG hw aW (bd.ops o)) K Q ?_ (λ_ _ h=>h.elim);rintro x j7 ⟨c7,bJ,e6,ns,th⟩;exact eX _ _ (next x _ _ ⟨yq,yo,c7,bJ,he.trans e6,ns,(bd.bw e6.keeps).put (by rw[sat.size];exact a6) th⟩)
def ai.VG{s z:Operand}{t tx e k iW gW:Nat}{els news:List bl}{v:Value}{y:ab}{g1 g2:Bool}{H':Value->aC}[df:fi P t (e,k,iW)][ka:eE P tx gW](l2:o.guard=none)(a6:iF c.n o.dst)
  (h:o.op= .call {callee:=.builtin .append,args:=#[s,z],argTypes:=#[t,tx]}) (b4:aO (aE st.env) s=some (g1,.as (.aj k els) v)) (rY:g1=true) (aD:aO (aE st.env) z=some (g2,y)) (rZ:g2=true) (hy:aq y (.aj k news))
  (ae:news.all dG=true) (hu:∀eA,bG st.H (.own e k v) (.own e k eA) (H' eA)) (ba:(els.length+news.length)*iW<=140737488355328) (wG:els.length+news.length<=9223372036854775807)
  (next:∀eA,ai c r P ops rest ⟨iT o.dst (.as (.aj k (els++news)) eA) st.env,H' eA⟩ Q):ai c r P ops (o::rest) st Q:=ai.LZ l2 a6 h b4 rY (.refl _) aD rZ hy ae hu ba wG next
end
inductive iz(P:Program)(st:dT):List ResultVar->List ab->Prop
 | nil:iz P st [] []
 | tmp {t:Nat} {y:ab} {rs:List ResultVar} {ys:List ab} (h:aO (aE st.env) (.tmp t)=some (true,y)) (r:iz P st rs ys):iz P st (.tmp t::rs) (y::ys)
 | yf {t ty b off tb n:Nat} {cs ga:List ab} {rs:List ResultVar} {ys:List ab} (jt:cQ P ty (true,n)) (h:aE st.env t=some (.p b off)) (hm:br.au b tb cs∈st.H) (aD:(cs.drop off).take n=ga) (hn:Nat.beq ga.length n=true) (r:iz P st rs ys):iz P st (.cell t ty::rs) (.agg ga::ys)
 | Bi {t ty b off tb n:Nat} {cs:List ab} {z:ab} {rs:List ResultVar} {ys:List ab} (jt:cQ P ty (false,n)) (h:aE st.env t=some (.p b off)) (hm:br.au b tb cs∈st.H) (aD:cs[off]? =some z) (r:iz P st rs ys):iz P st (.cell t ty::rs) (z::ys)
 | yg {t ty n:Nat} {cs:List ab} {rs:List ResultVar} {ys:List ab} (jt:cQ P ty (true,n)) (h:aE st.env t=some (.ptr cs)) (hn:Nat.ble n cs.length=true) (r:iz P st rs ys):iz P st (.cell t ty::rs) (.agg (cs.take n)::ys)
 | KK {t ty n:Nat} {cs:List ab} {z:ab} {rs:List ResultVar} {ys:List ab} (jt:cQ P ty (false,n)) (h:aE st.env t=some (.ptr cs)) (aD:cs[0]? =some z) (r:iz P st rs ys):iz P st (.cell t ty::rs) (z::ys)
def qI(tmps:Array Value):ResultVar->Sem Value
 | .tmp t=>pure (tmps.getD t undef)
 | .cell a t=>do loadVar t (<-asAddr (tmps.getD a undef))
def iz.run{c:Ctx}{P}{st}{a}{w}{I}(aW:a7 c.B I w st.H)(bd:fL I w (aE st.env) a):∀{rs:List ResultVar} {ys:bl},iz P st rs ys->
  ∃vs,(rs.mapM (qI a.tmps)).run P w= .ok vs w/\bU I w ys vs:=by
 intro rs ys h;have yJ:∀{r:ResultVar} {rs:List ResultVar} {y:ab} {ys:bl} {v:Value},(qI a.tmps r).run P w= .ok v w->Rel I w y v->(∃vs,(rs.mapM (qI a.tmps)).run P w= .ok vs w/\bU I w ys vs)->∃vs,((r::rs).mapM (qI a.tmps)).run P w= .ok vs w/\bU I w (y::ys) vs:=by
  rintro r rs y ys v ae ak ⟨vs,aL,bo⟩;exact⟨v::vs,by simp[List.mapM_cons,Sem.run_bind,ae,aL,Result.andThen_ok,Sem.run_pure],.cons _ _ _ _ ak bo⟩
 induction h with
 | nil=>exact⟨[],rfl,.nil⟩
 | @tmp t y rs ys h r fv=>
  refine yJ (v:=a.tmps.getD t undef) rfl ?_ fv;unfold aO at h;cases aK:iU (aE st.env) (.tmp t) with
  | none=>simp[aK] at h
  | some z=>simp[aK] at h;exact Lz (bd t z aK) h rfl
 | @yf t ty b off tb n cs ga rs ys jt h hm aD hn r fv=>
  have af:=bZ (bd t _ h);obtain⟨_,vs,ba,bK,_⟩:=aW.ok _ hm;have B4:bU I w ga ((vs.toList.drop off).take n):=by rw[<-aD];exact (bK.drop off).take n
  have hlen:((vs.toList.drop off).take n).length=n:=by rw[B4.length];exact Nat.eq_of_beq_eq_true hn
  have bq:=BT (P:=P) jt.h b off ((vs.toList.drop off).take n) w hlen (λj v cp=>by
   rw[jK ba];rw[List.getElem?_take] at cp;split at cp
   ·simpa using cp
   ·cases cp)
  refine yJ (v:=.agg ((vs.toList.drop off).take n).toArray) ?_ (.agg _ _ (by simpa using B4)) fv;simp[qI,af,asAddr,bq]
 | @Bi t ty b off tb n cs z rs ys jt h hm aD r fv=>
  have af:=bZ (bd t _ h);obtain⟨_,vs,ba,bK,_⟩:=aW.ok _ hm;obtain⟨v,ae,ak⟩:=bK.get aD;have bq:=yz (P:=P) jt.h b off v w (by rw[jK ba];simpa using ae);refine yJ (v:=v) ?_ ak fv;simp[qI,af,asAddr,bq]
 | @yg t ty n cs rs ys jt h hn r fv=>
  have af:=bd t _ h;generalize hu:a.tmps.getD t undef=u at af;cases af with
  | ptr _ b o a1=>
   obtain⟨vs,ae,ak⟩:=(a1.take n).values;have hlen:vs.length=n:=by rw[ae.length,List.length_take];exact Nat.min_eq_left (Nat.le_of_ble_eq_true hn)
   have bq:=BT (P:=P) jt.h b o vs w hlen ak;refine yJ (v:=.agg vs.toArray) ?_ (.agg _ _ nf) fv;simp[qI,hu,asAddr,Sem.run_bind,Sem.run_pure,Result.andThen_ok,bq]
 | @KK t ty n cs z rs ys jt h aD r fv=>
  have af:=bd t _ h;generalize hu:a.tmps.getD t undef=u at af;cases af with
  | ptr _ b o a1=>
   obtain⟨v,ae,_,ak⟩:=a1.get aD;have bq:=yz (P:=P) jt.h b o v w nf;refine yJ (v:=v) ?_ ak fv;simp[qI,hu,asAddr,Sem.run_bind,Sem.run_pure,Result.andThen_ok,bq]
def iG:bl->ab
 | [x]=>x
 | xs=>.bj xs
def iz.res{c:Ctx}{P}{st:dT}{a:Act}{w}{I:cr}(t:a7 c.B I w st.H)(z:fL I w (aE st.env) a){fn:Func}{rs}(o:fn.results=rs.toArray){ys}(h:iz P st rs ys):
  ∃v,(results fn a.tmps).run P w= .ok v w/\Rel I w (iG ys) v:=by
 obtain⟨f,C,s⟩:=h.run t z;have E:(results fn a.tmps).run P w= .ok (if h:f.length=1 then f[0] else .tuple f.toArray) w:=by
  unfold Go.results;rw[o,List.mapM_toArray];simp only[Sem.run_bind,Sem.run_map];have j:∀g:ResultVar->Sem Value,(∀r,g r=qI a.tmps r)->(rs.mapM g).run P w= .ok f w:=λg D=>by rw[show g=qI a.tmps from funext D];exact C
  rw[j _ (λr=>by cases r <;> rfl)];simp
 refine⟨_,E,?_⟩;cases s with
 | nil=>exact .bj _ _ .nil
 | cons x v A f m l=>
  cases l with
  | nil=>simpa [iG] using m
  | cons y u A f q l=>exact .bj _ _ (.cons _ _ _ _ m (.cons _ _ _ _ q l))
section
variable{c:Ctx}{r:Option Nat}{P:Program}{ops:Array Oper}{l rest:cg}{o:Oper}{st:dT}{Q:Exit->Act->World->Prop}{x:ab}
def aZ.cl{fn}{B}{l}{g}{n}{r}{E}{rs}{ys q}{H'}(x:fn.results=rs.toArray)(h:iz P st rs ys)(j:c5 ys q)
  (D:H'.Sublist st.H) (f:r (iG q) H'):aZ ⟨B,l,g,n,[]⟩ st .ret (bodyPost P fn (e5 B l g r E)):=by
 intro a w s;obtain⟨I,G,J,t,C⟩:=s.mem;obtain⟨v,F,A⟩:=h.res (c:=⟨B,l,g,n,[]⟩) t C x;refine⟨s.ds,v,F,I,H',G,J,t.sub D,.inl ⟨v,_,rfl,?_,f⟩⟩;revert A;cases j with
 | nil=>exact id
 | cons o m=>
  cases m with
  | nil=>exact o _ _ _
  | cons z m=>exact aq.bj (.cons o (.cons z m)) _ _ _
def aZ.n3{fn}{B}{l}{m}{n}{j}{E}{rs}{ys g}{H'}(o:fn.results=rs.toArray)(h:iz P st rs ys)(f:c5 ys g)
  (q:H'.Sublist st.H) (c:j (iG g) H'):aZ ⟨B,l,m,n,[]⟩ st .normal (bodyPost P fn (e5 B l m j E)):=
 λa w s=>aZ.cl o h f q c a w s
def B5(P:Program)(v:Value)(vs:dj)(w:World)(R:Ending->World->Prop):Prop:=
 (∃f jI hs,v= .func (.func f) jI hs/\nh P f=true/\Calls P f (jI++vs.toArray++hs) w R)\/
 (∃l,v= .func (.yield l) #[] #[]/\YieldAt (bx none) 0 P l vs.toArray w R)
def eZ(B:Nat)(P:Program)(g:ab)(xs:bl)(H:aC)(eu:ab->aC->Prop)(E:ab->aC->Prop):Prop:=
 ∀(I:cr) (w:World) (v:Value) (vs:dj),bY B I w->a7 B I w H->Rel I w g v->bU I w xs vs->B5 P v vs w (e5 B I w eu E)
def eZ.fn{B}{f}{m xs cs}{H}{l}{E}(h:bP P f (m++xs++cs) H l E):eZ B P (.fn (.func f) m cs) xs H l E:=by
 intro I w v j s q r g;cases r with
 | fn _ _ _ a c t o=>
  refine .inl ⟨f,a,c,rfl,h.1,?_⟩;have:=h.2 B I w (a.toList++j++c.toList) s q ((t.append g).append o);have e:(a.toList++j++c.toList).toArray=a++j.toArray++c:=by apply Array.ext';simp
  rwa [e] at this
def eM(B:Nat)(P:Program)(f:FuncId)(xs:bl)(H:aC)(eu:ab->aC->Prop)(E:ab->aC->Prop):Prop:=
 nh P f=true/\∀(I:cr) (w:World) (vs:dj),bY B I w->a7 B I w H->bU I w xs vs->Calls P f vs.toArray w (e5 B I w eu E)
def bP.b{B}{f}{xs}{H}{a}{E}(h:bP P f xs H a E):eM B P f xs H a E:=⟨h.1,h.2 B⟩
def eZ.r0{B}{f}{m xs cs}{H}{l}{E}(h:eM B P f (m++xs++cs) H l E):eZ B P (.fn (.func f) m cs) xs H l E:=by
 intro I w v j s q r g;cases r with
 | fn _ _ _ a c t o=>
  refine .inl ⟨f,a,c,rfl,h.1,?_⟩;have:=h.2 I w (a.toList++j++c.toList) s q ((t.append g).append o);have e:(a.toList++j++c.toList).toArray=a++j.toArray++c:=by apply Array.ext';simp
  rwa [e] at this
def eM.of{B}{f}{fn}{a}{xs}{H}{c}{E}{n}(b7:P.funcs[f]? =some fn)(ba:fn.body=some a)(rO:(fn.name== "runtime.NumGoroutine")=false)
  (hn:fn.ntmps=n) (q:Nat.ble xs.length n) (h:∀I w,aA ⟨B,I,w,n,[]⟩ none P a ⟨np 0 xs,H⟩ (bodyPost P fn (e5 B I w c E))):eM B P f xs H c E:=by
 refine⟨uq,λI w g r o j=>uy (n:=0) (callsIn_of_wp b7 ba trivial ?_ rfl)⟩;refine h I w _ w ⟨rfl,?_,I,r,Ext.refl _ _ _,o,λt y hy=>?_⟩
 ·have:=j.length;have:=Nat.le_of_ble_eq_true q;simp;omega
 ·obtain⟨v,l,m⟩:=j.get yn;have:(g.toArray++Array.replicate (fn.ntmps - g.toArray.size) undef).getD t undef=v:=by
   have k5:=(List.getElem?_eq_some_iff.1 l).1;simp only[Array.getD_eq_getD_getElem?];rw[Array.getElem?_append_left wy];simp[l]
  rw[this];exact m
def L0{x}{args}{g}{l}(h:o.op= .call {callee:=.value x,args:=args,argTypes:=g})(a:Act)(w)
  (f:a.eval x= .func (.yield l) #[] #[]) {fn} {tmps} {assign c} (hy:(Instr.yield l (args.map a.eval)).run P w= .ok (.round l fn tmps assign c) w):
  (execOp a.eval o).run P w= .ok (.round l fn tmps assign c) w:=by
 simp[execOp,h,resolve,f,Deferred.ofValue,invoke,hy]
def ai.FA{x}{args}{W}{U}{ys}{xs}{g}{J}{E}(S:o.guard=none)(a6:iF c.n o.dst)
  (h:o.op= .call {callee:=.value x,args:=args,argTypes:=W}) (D:aO (aE st.env) x=some (g,U)) (av:g=true) (n4:js (aE st.env) args.toList=some ys) (N:ys.all (·.1)=true) (L:c5 (ys.map (·.2)) xs)
  (bd:eZ c.B P U xs st.H J E) (next:∀y m,J y m->ai c r P ops rest ⟨iT o.dst y st.env,m⟩ Q)
  (oZ:∀y m,E y m->∀a w,Sat c ⟨st.env,m⟩ a w->∀I v,Rel I w y v->Q (.panic [{v,recovered:=false}]) a w):ai c r P ops (o::rest) st Q:=by
 intro a w s;refine wpListIn_plain S λK eX=>?_;obtain⟨I,Y,V,aW,z⟩:=s.mem;have ae:=(z.ops o).get gF D av;have X:=L.rel (td (z.ops o) args.toList ys (λz Z=>by simp[h,Op.operands,Call.operands];right;simpa using Z) n4 (by simpa using N));have M:dw P r o a w (λv q=>∃j m x,bY c.B j q/\Ext c.B I w j q/\a7 c.B j q m/\Rel j q x v/\J x m)
  (λch q=>∃j m v x,bY c.B j q/\Ext c.B I w j q/\a7 c.B j q m/\ch= [{v,recovered:=false}]/\Rel j q x v/\E x m):=by
  have F:∀e q,e5 c.B I w J E e q->match e with
    | .returned v=>∃j m x,bY c.B j q/\Ext c.B I w j q/\a7 c.B j q m/\Rel j q x v/\J x m
    | .panicked ch=>∃j m v x,bY c.B j q/\Ext c.B I w j q/\a7 c.B j q m/\ch= [{v,recovered:=false}]/\Rel j q x v/\E x m
    | .outgrown=>False:=by
   rintro e q ⟨j,m,C,t,A,⟨v,x,rfl,D,G⟩ | ⟨v,x,rfl,D,T⟩⟩
   ·exact⟨j,m,x,C,t,A,D,G⟩
   ·exact⟨j,m,v,x,C,t,A,rfl,D,T⟩
  rcases bd I w _ _ Y aW ae X with⟨f,jI,hs,bM,hO,n5⟩ | ⟨l,bM,fn,tmps,assign,body,hy,hR⟩
  ·refine .qD ck (Fm h hO a w bM) (by
    have O:(args.toList.map a.eval).toArray=args.map a.eval:=by apply Array.ext';simp
    rw[O] at n5;exact n5.mono F)
  ·have O:(args.toList.map a.eval).toArray=args.map a.eval:=by apply Array.ext';simp
   rw[O] at hy;exact .LA ck (L0 h a w bM hy) (hR.mono F)
 refine M K Q ?_ ?_
 ·rintro v q ⟨j,m,x,C,t,A,D,G⟩;refine eX _ _ (next x m G _ _ ⟨iS,iR,j,C,V.trans t,A,((z.bw t.keeps).put rM D)⟩)
 ·rintro ch q ⟨j,m,v,x,C,t,A,rfl,D,T⟩;exact oZ x m T a q ⟨s.ds,s.size,j,C,V.trans t,A,z.bw t.keeps⟩ j v D
def a7.perm{B}{I}{w}{H H'}(h:a7 B I w H)(c:H.Perm H'):a7 B I w H':=
 ⟨λe j=>h.ok e (c.mem_iff.2 j),(c.pairwise_iff λ{x y} a b g f=>a b f g).1 h.apart⟩
def Sat.perm{a}{w}{H'}(s:Sat c st a w)(f:st.H.Perm H'):Sat c ⟨st.env,H'⟩ a w:=
 ⟨s.ds,s.size,let ⟨I,hw,aK,aW,bd⟩:=s.mem;⟨I,hw,aK,aW.perm f,bd⟩⟩
def ai.perm{H'}(f:st.H.Perm H')(h:ai c r P ops l ⟨st.env,H'⟩ Q):ai c r P ops l st Q:=λa w s=>h a w (s.perm f)
def aA.perm{p}{H'}(f:st.H.Perm H')(h:aA c r P p ⟨st.env,H'⟩ Q):aA c r P p st Q:=λa w s=>h a w (s.perm f)
def aZ.perm{e}{H'}(f:st.H.Perm H')(h:aZ c ⟨st.env,H'⟩ e Q):aZ c st e Q:=λa w s=>h a w (s.perm f)
def ai.k9{H'}(f:st.H=H')(h:ai c r P ops l ⟨st.env,H'⟩ Q):ai c r P ops l st Q:=λa w s=>h a w (f▸s)
end
end Go.Eng

