/- A part of the proof. No condition. -/
import Derived.Test.YtodccgailpkgeaaGreatKindInfersP1
import Derived.OrdersIn
import Derived.Deep.Upon
import Derived.RangeFuncBound
set_option linter.defProp false
set_option maxHeartbeats 1000000
set_option linter.unusedVariables false
set_option linter.unusedSimpArgs false
set_option linter.unnecessarySimpa false
namespace Go.Eng
open Go.RowKit (Below)
def m9(o:Oper):dq:=o.after.toList.filterMap λe=>if Region.binds .any e then some e.on else none
def Lk(acc:dq)(o:Oper):Nat:=(m9 o).foldl (λs j=>s ||| 2^j ||| acc.getD j 0) 0
def hM:cc->dq->dq
 | [],acc=>acc
 | o::r,acc=>hM r (acc++[Lk acc o])
theorem Ll(a:dq):∀(l:dq) (s j:Nat),(l.foldl (λs j=>s ||| 2^j ||| a.getD j 0) s).testBit j=true->s.testBit j=true\/∃k∈l,j=k\/(a.getD k 0).testBit j=true
 | [],s,j,h=>.inl h
 | k::l,s,j,h=>by
  rcases Ll a l _ j h with h | ⟨f,c,h⟩
  ·simp[Nat.testBit_or,Bool.or_eq_true,Nat.testBit_two_pow,decide_eq_true_eq] at h;rcases h with (h | h) | h
   ·exact .inl h
   ·exact .inr ⟨k,aS,.inl h.symm⟩
   ·exact .inr ⟨k,aS,.inr h⟩
  ·exact .inr ⟨f,by simp[c],h⟩
def Ff(ops:cc)(L:Nat->Prop):Prop:=∀i o,L i->ops[i]? =some o->∀j∈m9 o,L j
def Lm(ops)(L)(A:Ff ops L):∀(l:cc) (a:dq),a.length+l.length=ops.length->(∀k,l[k]? =ops[a.length+k]?)->
  (∀(i m:Nat) (o:Oper),a[i]? =some m->ops[i]? =some o->(∀k∈m9 o,L k)->∀j,m.testBit j=true->L j)->
  ∀(i m:Nat) (o:Oper),(hM l a)[i]? =some m->ops[i]? =some o->(∀k∈m9 o,L k)->∀j,m.testBit j=true->L j
 | [],a,_,_,h=>h
 | o::l,a,q,D,h=>by
  refine Lm ops L A l (a++[Lk a o]) (by simp at q ⊢;omega) (λk=>?_) ?_
  ·have:=D (k+1);simp at this;rw[this];congr 1;simp;omega
  ·intro i m x g s v j E;by_cases z:i<a.length
   ·rw[List.getElem?_append_left z] at g;exact h i m x g s v j E
   ·have r:i=a.length:=by
     have:=(List.getElem?_eq_some_iff.1 g).1;simp at this;omega
    subst r;rw[List.getElem?_append_right (Nat.le_refl _)] at g;simp at g;subst g;have w:x=o:=by
     have C:=D 0;simp at C;rw[<-C] at s;exact (Option.some.inj s).symm
    subst w;rcases Ll a (m9 x) 0 j E with f | ⟨k,B,f⟩
    ·simp at f
    ·rcases f with rfl | f
     ·exact v j B
     ·cases hak:a[k]? with
      | none=>simp[List.getD,hak] at f
      | some mk=>
       simp[List.getD,hak] at f;have F:=(List.getElem?_eq_some_iff.1 hak).1;have c:∃ok,ops[k]? =some ok:=⟨ops[k]'aa,List.getElem?_eq_getElem aa⟩;obtain⟨ok,c⟩:=c;exact h k mk ok hak c (λgT t=>A k ok (v k B) c gT t) j f
def looks(ops:cc)(o:Oper):dq:=
 (o.op.operands.toList.filterMap λ| .tmp t=>some t | _=>none)++(match o.guard with | some (g,_)=>((ops[g]?).bind (·.dst)).toList | none=>[])
def wC{a:Type}{l:List a}{i}{x}(h:l[i]? =some x):(x,i)∈l.zipIdx:=by
 rw[List.mem_zipIdx_iff_getElem?];exact h
def yt(P:Program)(H:aA)(ops:cc)(env:List (Nat×ab))(o:Oper)(y:ab):Prop:=
 (o.guard=none/\ad P H (aD env) o y)\/
 (∃j want d G x,o.guard=some (j,want)/\(ops[j]?).bind (·.dst)=some d/\m6 (aD env d) want=some G/\(G=true->ad P H (aD env) o x)/\y= .opt G x)
def eO(P:Program)(H:aA)(ops:cc)(n:Nat):cc->List (Nat×ab)->(List (Nat×ab)->Prop)->Prop
 | [],env,K=>K env
 | o::rest,env,K=>∃x,yt P H ops env o x/\ix n o.dst=true/\eO P H ops n rest (iK o.dst x env) K
def ln:List (Nat×ab)->cc->bl->List (Nat×ab)
 | env,o::r,x::xs=>ln (iK o.dst x env) r xs
 | env,_,_=>env
def Ln{dst}{x}{env}{t}:aD (iK dst x env) t=if dst=some t then some x else aD env t:=by
 cases dst with
 | none=>simp[iK]
 | some d=>
  simp[iK,kU,Option.some.injEq];by_cases h:t=d
  ·subst h;simp
  ·rw[if_neg h,if_neg (Ne.symm h)]
theorem yu:∀(l:cc) (c:bl) (a:List (Nat×ab)) (t:Nat),(∀(i:Nat) (o:Oper),l[i]? =some o->o.dst≠some t)->aD (ln a l c) t=aD a t
 | [],_,_,_,_=>by simp[ln]
 | o::l,[],_,_,_=>by simp[ln]
 | o::l,x::c,a,t,h=>by
  rw[ln,yu l c _ t (λi g f=>h (i+1) g (by simpa using f)),Ln,if_neg (h 0 o aS)]
theorem Lo:∀(l:cc) (f:bl) (a:List (Nat×ab)) (i t:Nat) (o:Oper) (x:ab),l[i]? =some o->f[i]? =some x->o.dst=some t->(∀j c,l[j]? =some c->c.dst=some t->j=i)->aD (ln a l f) t=some x
 | [],_,_,i,_,_,_,h,_,_,_=>by simp at h
 | o::l,[],_,i,_,_,_,_,h,_,_=>by simp at h
 | o::l,y::f,a,0,t,c,x,m,g,q,r=>by
  simp at m g;subst m;subst g;rw[ln,yu l f _ t (λi c s e=>by have:=r (i+1) c (by simpa using s) e;omega),Ln,if_pos q]
 | o::l,y::f,a,i+1,t,c,x,m,g,q,r=>by
  rw[ln];exact Lo l f _ i t c x (by simpa using m) (by simpa using g) q (λj v ao e=>by have:=r (j+1) v sZ e;omega)
theorem Lp:∀(i:Nat) (l:cc) (c:bl) (a:List (Nat×ab)),c.length=l.length->ln a l c=ln (ln a (l.take i) (c.take i)) (l.drop i) (c.drop i)
 | 0,l,c,a,_=>by simp[ln]
 | i+1,[],c,a,h=>by simp[ln]
 | i+1,o::l,[],a,h=>by simp at h
 | i+1,o::l,x::c,a,h=>by
  simp[List.take_succ_cons,List.drop_succ_cons,ln];exact Lp i l c _ gQ
def Lq{l}{o}{t}(h: .tmp t∈o.op.operands.toList):t∈looks l o:=
 List.mem_append_left _ (List.mem_filterMap.2 ⟨.tmp t,h,rfl⟩)
def yt.run{c:Ctx}{r}{P}{l}{H}{env}{o}{y}{Q}(h:yt P H l env o y){i}(aQ:l[i]? =some o)
  {a} {w} {I} (hw:bV c.B I w) (aU:a7 c.B I w H) (bd:∀t∈looks l o,∀z,aD env t=some z->Rel I w z (a.tmps.getD t undef)) (hn:∀t∈looks l o,t<a.tmps.size)
  {K} (eX:∀v w' C,bV c.B C w'->Ext c.B I w C w'->a7 c.B C w' H->Rel C w' y v->K (a.put o.dst v) w'):wpOpIn (bt r) 0 P l.toArray Q i K a w:=by
 have BI:fm I w (aD env) a o:=λx aK z aH=>by
  cases x with
  | tmp t=>exact bd t (Lq (by simpa using aK)) z aH
  | const v=>simp[iL] at aH;subst aH;exact E6 v
  | global g=>simp[iL] at aH;subst aH;exact .val _
  | func f=>simp[iL] at aH;subst aH;exact .fn _ _ _ _ _ .nil .nil
 have UI:l.toArray[i]? =some o:=by simpa using aQ
 unfold wpOpIn;simp[UI];rcases h with⟨aw,ck⟩ | ⟨j,want,d,G,x,aw,cm,fb,ck,rfl⟩
 ·have Fg:Region.wanted o (yielded l.toArray a.tmps)=true:=by simp[Region.wanted,aw]
  rw[if_pos Fg];exact ck c.B I w r a H hw aU (λ_ x=>x) BI K Q (λv w' ⟨C,ae,ao,aV,bu⟩=>eX v w' C ae ao aV bu) λ_ _ h=>h.elim
 ·have Lr:d∈looks l o:=List.mem_append_right _ (by simp[aw,cm]);have Fg:=E7 (ops:=l.toArray) (I:=I) (w:=w) (a:=a) (o:=o) (j:=j) (d:=d) (y:=aD env d) (by simpa using cm) aw (λz aH=>bd d Lr z aH) fb (hn d Lr);rw[Fg];cases G with
  | true=>
   rw[if_pos rfl];exact ck rfl c.B I w r a H hw aU (λ_ x=>x) BI K Q (λv w' ⟨C,ae,ao,aV,bu⟩=>eX v w' C ae ao aV (.opt _ _ _ (λ_=>bu) λe=>by cases e)) λ_ _ h=>h.elim
  | false=>
   rw[if_neg aS];exact⟨λ_ _=>trivial,eX undef w I hw (.refl _ _ _) aU (.opt _ _ _ (λe=>by cases e) λ_=>rfl)⟩
def uB(a:Array Bool)(i j)(h:i<a.size):(a.setIfInBounds i true).getD j false=if i=j then true else a.getD j false:=by
 by_cases e:i=j
 ·subst e;simp[Array.getD,h]
 ·rw[if_neg e];exact getD_set_ne false e
def Fh{a:Array Bool}{j}(h:j<a.size)(d):a.getD j d=a.getD j false:=by
 simp[Array.getD,h]
def eO.nil{P}{H}{ops}{n}{env}{K}(h:K env):eO P H ops n [] env K:=h
def eO.pop{P}{H}{ops}{n}{env}{K}{o}{a}{x}(f:o.guard=none)(c:ix n o.dst)(h:ad P H (aD env) o x)
  (next:eO P H ops n a (iK o.dst x env) K):eO P H ops n (o::a) env K:=⟨x,.inl ⟨f,h⟩,c,next⟩
def eO.guarded{P}{H}{ops}{n}{env}{K}{o}{c}{x}{j d}{a G}(g:o.guard=some (j,a))(m:(ops[j]?).bind (·.dst)=some d)
  (l:m6 (aD env d) a=some G) (f:ix n o.dst) (h:G=true->ad P H (aD env) o x) (next:eO P H ops n c (iK o.dst (.opt G x) env) K):eO P H ops n (o::c) env K:=
 ⟨.opt G x,.inr ⟨j,a,d,G,x,g,m,l,h,rfl⟩,f,next⟩
class cX (P:Program) (t:Nat) (x:outParam (Bool×Nat)):Prop where h:nQ P t=some x
class cK (P:Program) (t f:Nat) (x:outParam Nat):Prop where h:yq P t f=some x
class eC (P:Program) (t:Nat) (x:outParam Nat):Prop where h:qv P t=some x
class uC (P:Program) (t:Nat) (x:outParam (Nat×Nat)):Prop where h:uz P t=some x
class hf (P:Program) (t:Nat) (x:outParam dg):Prop where h:zeroCells P t=some x
class Fi (P:Program) (t:Nat):Prop where h:P.underlying t=some .bool
class BJ (P:Program) (t:Nat) (k:outParam IntKind):Prop where h:P.underlying t=some (.int k)
class pB {α:Type} (F:List α->List bl) (enc:outParam (α->bl)):Prop where h:∀l,F l=l.map enc
instance{α:Type}(enc:α->bl):pB (List.map enc) enc:=⟨λ_=>rfl⟩
def BK{P}{t k}(h:qv P t=some k):pA P t=true:=by
 obtain⟨e,i,a,_⟩:=nP h;simp[pA,a]
section
variable{P:Program}{H:aA}{ρ:Nat->Option ab}{o:Oper}
def ad.Kq{x}{t}{k f}{els}{g}[ht:eC P t f](h:o.op= .call {callee:=.builtin .len,args:=#[x],argTypes:=#[t]})(a:aN ρ x=some (g,.ai k els))(c:g=true):ad P H ρ o (.i els.length):=
 .len h a c (BK ht.h)
def ad.qo{a:Type}{F:List a->List bl}{enc:a->bl}{l:List a}{x}{t}{k j}{g}[ht:eC P t j][hF:pB F enc](h:o.op= .call {callee:=.builtin .len,args:=#[x],argTypes:=#[t]})(c:aN ρ x=some (g,.ai k (F l)))(f:g=true):ad P H ρ o (.i l.length):=by
 rw[hF.h] at c;have:=ad.len (H:=H) h c f (BK ht.h);rw[List.length_map] at this;exact this
def ad.Kp{x}{t}{k f}{els}{v}{g}[ht:eC P t f](h:o.op= .call {callee:=.builtin .len,args:=#[x],argTypes:=#[t]})(a:aN ρ x=some (g,.as (.ai k els) v))(c:g=true):ad P H ρ o (.i els.length):=
 .Ut h a c (BK ht.h)
def ad.Bb{x}{t}{l}{a}{n c}{g}[ht:eC P t l](h:o.op= .call {callee:=.builtin .len,args:=#[x],argTypes:=#[t]})(f:aN ρ x=some (g,.val (.slice a n c)))(j:g=true):ad P H ρ o (.i n):=
 .Uu h f j (BK ht.h)
def ad.fC{f}[Inhabited f]{F}{enc:f->bl}{l:List f}{t:TypeId}{x y:Operand}{k:Nat}{s:IntKind}{i:Nat}{q m:Bool}[ht:eC P t k][hF:pB F enc](h:o.op= .indexAddr t x y)(j:aN ρ x=some (q,.ai k (F l)))(g:q=true)
  (hy:aN ρ y=some (m,.val (.int s (i:Int)))) (c:m=true) (r:i<l.length):ad P H ρ o (.ptr (enc (l.getD i default))):=
 .Uv h (by rw[hF.h] at j;exact j) hy g c ht.h r
def ad.ep{f}[Inhabited f]{F}{enc:f->bl}{l:List f}{t:TypeId}{x y:Operand}{k}{s}{i}{r q}[ht:eC P t k][hF:pB F enc](h:o.op= .indexAddr t x y)(j:aN ρ x=some (r,.ai k (F l)))(g:r=true)
  (hy:aN ρ y=some (q,.val (.int s i))) (c:q=true) (m:0<=i/\i<l.length):ad P H ρ o (.ptr (enc (l.getD i.toNat default))):=
 .Uw h (by rw[hF.h] at j;exact j) hy g c ht.h m.1 m.2
def ad.rF{t}{x}{cs}{n}{g}[ht:cX P t (true,n)](h:o.op= .load t x)(a:aN ρ x=some (g,.ptr cs))(c:g=true)(hn:Nat.ble n cs.length):ad P H ρ o (.agg (cs.take n)):=.Uz h a c ht.h hn
def ad.cF{t}{x}{cs}{y}{n}{g}[ht:cX P t (false,n)](h:o.op= .load t x)(a:aN ρ x=some (g,.ptr cs))(c:g=true)(hn:cs[0]? =some y):ad P H ρ o y:=.UA h a c ht.h hn
def ad.A6{t tb}{x}{b off}{cs ys}{n}{g}[ht:cX P t (true,n)](h:o.op= .load t x)(a:aN ρ x=some (g,.p b off))(c:g=true)(hm:.au b tb cs∈H)(hy:(cs.drop off).take n=ys)(hn:Nat.beq ys.length n):ad P H ρ o (.agg ys):=.UB h a c hm ht.h hy hn
def ad.ij{t tb}{x}{b off}{cs}{y}{n}{g}[ht:cX P t (false,n)](h:o.op= .load t x)(a:aN ρ x=some (g,.p b off))(c:g=true)(hm:.au b tb cs∈H)(hy:cs[off]? =some y):ad P H ρ o y:=.UC h a c hm ht.h hy
def ad.EF{t}{x}{f off b o' d}{g}[l:cK P t f off](h:o.op= .fieldAddr t x f)(a:aN ρ x=some (g,.p b o'))(j:g=true)(c:o'+off=d):ad P H ρ o (.p b d):=c▸ .field h a j l.h
def ad.EG{t}{x}{f off}{cs ys}{g}[l:cK P t f off](h:o.op= .fieldAddr t x f)(a:aN ρ x=some (g,.ptr cs))(j:g=true)(c:cs.drop off=ys):ad P H ρ o (.ptr ys):=c▸ .UD h a j l.h
def ad.Bk{t}{x y}{b o' n k}{m}{i}{j g}[ht:uC P t (n,k)](h:o.op= .indexAddr t x y)(l:aN ρ x=some (j,.p b o'))(c:j=true)(hy:aN ρ y=some (g,.val (.int m i)))(a:g=true)(f:0<=i/\i<n):
  ad P H ρ o (.p b (o'+i.toNat*k)):=.UE h l hy c a ht.h f.1 f.2
def ad.Bl{t}{x y}{cs}{n k}{m}{i}{j g}[ht:uC P t (n,k)](h:o.op= .indexAddr t x y)(l:aN ρ x=some (j,.ptr cs))(c:j=true)(hy:aN ρ y=some (g,.val (.int m i)))(a:g=true)(f:0<=i/\i<n):
  ad P H ρ o (.ptr (cs.drop (i.toNat*k))):=.UF h l hy c a ht.h f.1 f.2
def ad.Ls{op:BinOp}{t m}{x y}{a b}{j g}[ht:Fi P t](h:o.op= .binOp .eql t x y m)(l:aN ρ x=some (j,.b a))(f:j=true)(hy:aN ρ y=some (g,.b b))(c:g=true):ad P H ρ o (.b (a==b)):=.uy h l hy f c ht.h (.inl ⟨rfl,rfl⟩)
def ad.Lt{op:BinOp}{t m}{x y}{a b}{j g}[ht:Fi P t](h:o.op= .binOp .neq t x y m)(l:aN ρ x=some (j,.b a))(f:j=true)(hy:aN ρ y=some (g,.b b))(c:g=true):ad P H ρ o (.b (a !=b)):=.uy h l hy f c ht.h (.inr ⟨rfl,rfl⟩)
def ad.Fj{s d}{x}{k r a}{n m}{g}[l:BJ P s r][j:BJ P d a](h:o.op= .convert s d x)(f:aN ρ x=some (g,.val (.int k n)))(q:g=true)(c:a.wrap n=m):ad P H ρ o (.val (.int a m)):=.UG h f q (by rw[l.h];rfl) j.h c
def ad.UJ{t}{x}{w z}{k}{els}{l n:Nat}{s gl gh:Bool}{kl kh:IntKind}[ht:eC P t k](h:o.op= .slice t x w z none)(A:aN ρ x=some (s,.ai k els))(c:s=true)
  (m:match w with | none=>l=0 | some y=>aN ρ y=some (gl,.val (.int kl (l:Int)))) (a:gl=true) (g:match z with | none=>n=els.length | some y=>aN ρ y=some (gh,.val (.int kh (n:Int)))) (f:gh=true)
  (v:l<=n/\n<=els.length):ad P H ρ o (.ai k ((els.take n).drop l)):=.slice h A c m a g f ht.h v.1 v.2
end
section
variable{c:Ctx}{r:Option Nat}{P:Program}{ops:Array Oper}{l rest:cc}{o:Oper}{st:dU}{Q:Exit->Act->World->Prop}{x:ab}
def aj.rP{t}{f}[j:hf P t f](a:o.guard=none)(g:ix c.n o.dst)(h:o.op= .alloc t)
  (next:∀b,aj c r P ops rest ⟨iK o.dst (.p b 0) st.env,.au b t (f.map .val)::st.H⟩ Q):aj c r P ops (o::rest) st Q:=.alloc a g h j.h next
def aj.BL{t tb}{p z}{y}{q g}{b off n}{cs ds}{H'}{agg}[ht:cX P t (agg,n)](l:o.guard=none)(s:ix c.n o.dst)(h:o.op= .store t p z)
  (v:aN (aD st.env) p=some (q,.p b off)) (m:q=true) (x:aN (aD st.env) z=some (g,y)) (A:g=true) (B:fa y) (w:dB (cG y))
  (hn:Nat.beq (cG y).length n) (hu:bG st.H (.au b tb cs) (.au b tb ds) H') (hfit:Nat.ble (off+n) cs.length) (hds:cs.take off++cG y++cs.drop (off+n)=ds)
  (next:aj c r P ops rest ⟨iK o.dst .any st.env,H'⟩ Q):aj c r P ops (o::rest) st Q:=by
 have j:=Nat.eq_of_beq_eq_true hn;subst hds;subst j;exact .store l s h v m x A B w ht.h hfit hu next
def aB.bound{p}{t k}{els}(ht:aD st.env t=some (.ai k els))(h:els.length<=maxLen->aB c r P p st Q):aB c r P p st Q:=by
 intro a w s;refine h ?_ a w s;obtain⟨I,hw,A,v,g⟩:=s.mem;have f:=g t _ ht;generalize a.tmps.getD t undef=u at f;cases f with
 | dQ=>simp
 | ai k els b off len j x q o h=>omega
def aB.eG{a:Type}{F:List a->List bl}{enc:a->bl}[hF:pB F enc]{xs:List a}{p}{t k}(ht:aD st.env t=some (.ai k (F xs)))(h:xs.length<=9223372036854775807->aB c r P p st Q):aB c r P p st Q:=
 .bound ht λa8=>h (by rw[hF.h,List.length_map] at a8;simpa [maxLen] using a8)
def aB.Fk(J:Nat->dU->Prop){p}(t:∃m st',J m st'/\m7 st'.env st.env/\st'.H.Sublist st.H)
  (round:∀m st',J m st'->aB c r P p st' (Exit.then (λa w=>∃l lS,l<m/\J l lS/\Sat c lS a w) Q)):aB c r P (.loop p) st Q:=by
 obtain⟨m,st',o,C,z⟩:=t;refine .loop (ι:={x:Nat×dU // J x.1 x.2}) (λi=>i.1.2) (λi=>i.1.1) ⟨(m,st'),o⟩ C z λ⟨⟨m,st'⟩,o⟩ a w s=>wpIn_mono (round m st' o a w s) λe a w q=>?_;cases e with
 | normal=>obtain⟨l,lS,A,v,B⟩:=q;exact⟨⟨(l,lS),v⟩,A,B⟩
 | _=>exact q
def aZ.Lu{J:Nat->dU->Prop}{m g}{st'}(h:J g st')(hm:g<m)(l:m7 st'.env st.env)(j:st'.H.Sublist st.H):
  aZ c st .normal (Exit.then (λa w=>∃g f,g<m/\J g f/\Sat c f a w) Q):=
 λa w s=>⟨g,st',hm,h,s.weaken (lQ l) j⟩
def aB.kV(J:dU->Prop){p q}(h:aB c r P p st (Exit.then (λa w=>∃st',J st'/\Sat c st' a w) Q))(m:∀st',J st'->aB c r P q st' Q):aB c r P (.seq p q) st Q:=by
 intro a w s;refine wpIn_seq (wpIn_mono (h a w s) λe a w j=>?_);cases e with
 | normal=>obtain⟨i,o,l⟩:=j;exact m i o a w l
 | _=>exact j
def aZ.kV{J:dU->Prop}{st'}(g:J st')(j:m7 st'.env st.env)(h:st'.H.Sublist st.H):aZ c st .normal (Exit.then (λa w=>∃st',J st'/\Sat c st' a w) Q):=
 λa w s=>⟨st',g,s.weaken (lQ j) h⟩
end
def na:Nat->bl->List (Nat×ab)
 | _,[]=>[]
 | i,x::xs=>(i,x)::na (i+1) xs
theorem EW:∀(a:bl) (i t:Nat) (y:ab),aD (na i a) t=some y->i<=t/\a[t - i]? =some y
 | [],i,t,y,h=>by simp[na,aD] at h
 | x::a,i,t,y,h=>by
  rw[na,kU] at h;split at h
  ·rename_i e;subst e;simp at h;subst h;simp
  ·rename_i e;obtain⟨g,c⟩:=EW a (i+1) t y h;refine⟨aa,?_⟩;have f:t - i=(t - (i+1))+1:=by omega
   rw[f];simpa using c
def bO.mk'{P}{f}{fn}{a}{xs}{H}{g}{E}{n}(m:P.funcs[f]? =some fn)(o:fn.body=some a)(c:(fn.name== "runtime.NumGoroutine")=false)
  (hn:fn.ntmps=n) (j:Nat.ble xs.length n) (h:∀B I w,aB ⟨B,I,w,n,[]⟩ none P a ⟨na 0 xs,H⟩ (bodyPost P fn (e4 B I w g E))):bO P f xs H g E:=
 .of m o c hn (na 0 xs) (λt y l=>by have:=(EW xs 0 t y l).2;simpa using this) (Nat.le_of_ble_eq_true j) h
def bO.rQ{P}{f}{xs}{H}{g c}{E j}(h:bO P f xs H g E)(s:∀x H,g x H->c x H)(l:∀x H,E x H->j x H):bO P f xs H c j:=
 ⟨h.1,λB I w o t m q=>(h.2 B I w o t m q).mono λe z ⟨r,H',a,b,d,bH⟩=>⟨r,H',a,b,d,bH.elim (λ⟨v,x,bM,bL,fh⟩=>.inl ⟨v,x,bM,bL,s _ _ fh⟩) (λ⟨v,x,bM,bL,fh⟩=>.inr ⟨v,x,bM,bL,l _ _ fh⟩)⟩⟩
def an(x y:ab):Prop:=∀I w v,Rel I w x v->Rel I w y v
inductive c0:List ab->List ab->Prop
 | nil:c0 [] []
 | cons {x y:ab} {xs ys:List ab} (h:an x y) (t:c0 xs ys):c0 (x::xs) (y::ys)
def an.refl(x):an x x:=λ_ _ _ h=>h
def an.nil(k):an (.val (.slice none 0 0)) (.ai k []):=λI w v h=>by cases h;exact .dQ _ _ _
def an.fl(k):an .fl (.ai k []):=λI w v h=>by cases h;exact .dQ _ _ _
def an.UK:an (.val (.slice none 0 0)) .fl:=λI w v h=>by cases h;exact .fl _
def an.e2(x)(v):an (.as x v) x:=λI w u h=>by cases h;assumption
def an.one{x}(f:fa x)(a:∀c,x≠ .agg c):an x .one:=λI w v h=>.single _ (h.one f a)
theorem c0.rel{I}{w}:∀{a c:bl} {vs:dg},c0 a c->bQ I w a vs->bQ I w c vs
 | _,_,_,.nil,h=>h
 | _,_,_,.cons h t,.cons _ _ _ _ f g=>.cons _ _ _ _ (h _ _ _ f) (c0.rel t g)
theorem c0.refl:∀a:bl,c0 a a
 | []=>.nil
 | _::a=>.cons (.refl _) (.refl a)
def c0.length{xs ys}(h:c0 xs ys):ys.length=xs.length:=by
 induction h with
 | nil=>rfl
 | cons _ _ a=>simp[a]
def an.agg{xs ys}(h:c0 xs ys):an (.agg xs) (.agg ys):=λI w v r=>by cases r;exact .agg _ _ (h.rel wx)
def an.bk{xs ys}(h:c0 xs ys):an (.bk xs) (.bk ys):=λI w v r=>by cases r;exact .bk _ _ (h.rel wx)
def an.iface{t}{x y}(h:an x y):an (.iface t x) (.iface t y):=λI w v r=>by cases r;exact .iface _ _ _ (h _ _ _ wx)
theorem c0.cells{I}{w}{b}:∀{o:Nat} {xs ys:bl},c0 xs ys->Cells I w b o xs->Cells I w b o ys
 | _,_,_,.nil,h=>h
 | _,_,_,.cons h t,.cons _ _ _ c _ f g a j=>.cons _ _ _ c _ f g (h _ _ _ a) (c0.cells t j)
def an.ptr{xs ys}(h:c0 xs ys):an (.ptr xs) (.ptr ys):=λI w v r=>by cases r;exact .ptr _ _ _ (h.cells wx)
inductive nR:List (List ab)->List (List ab)->Prop
 | nil:nR [] []
 | cons {x y:List ab} {xs ys:List (List ab)} (h:c0 x y) (t:nR xs ys):nR (x::xs) (y::ys)
theorem nR.refl:∀a:List bl,nR a a
 | []=>.nil
 | _::a=>.cons (.refl _) (nR.refl a)
def nR.length{xs ys}(h:nR xs ys):ys.length=xs.length:=by
 induction h with
 | nil=>rfl
 | cons _ _ a=>simp[a]
theorem nR.els{I}{w}{k b}:∀{o:Nat} {xs ys:List bl},nR xs ys->fL I w k b o xs->fL I w k b o ys
 | _,_,_,.nil,h=>h
 | _,_,_,.cons h t,.cons _ _ _ _ _ c a f=>.cons _ _ _ _ _ (by rw[h.length];exact c) (h.cells a) (nR.els t f)
def an.ai{k}{xs ys}(h:nR xs ys):an (.ai k xs) (.ai k ys):=λI w v r=>by
 cases r with
 | dQ=>cases h;exact .dQ _ _ _
 | ai _ _ b off len f g c a m=>exact .ai _ _ _ _ _ _ (by rw[h.length];exact g) c a (h.els m)
section
variable{P:Program}{H:aA}{ρ:Nat->Option ab}{o:Oper}
def ad.le{x y}(h:ad P H ρ o x)(c:an x y):ad P H ρ o y:=by
 intro B I w r a l m g q f;exact (h B I w r a l m g q f).mono (λv s ⟨j,ae,ao,aV,bu⟩=>⟨j,ae,ao,aV,c _ _ _ bu⟩) λ_ _ h=>h
def gD.le{f}{xs ys}(h:gD P ρ o f xs)(c:c0 xs ys):gD P ρ o f ys:=
 ⟨λI w a g=>let ⟨vs,ae,ao⟩:=h.run I w a g;⟨vs,c.rel ae,ao⟩,h.rO⟩
def ad.s4{f}{xs ys}{y}(c:gD P ρ o f xs)(a:c0 xs ys)(h:aG P f ys y):ad P H ρ o y:=.call (c.le a) h
def ad.BM{t}{z}{y}{g}(h:o.op= .box t z)(x:aN ρ z=some (g,y))(A:g=true)(C:fa y):ad P H ρ o (.ptr (cG y)):=by
 intro B I w r a E D j _ f;have s:=yr (f.get cb x A) C;obtain⟨l,q,m,c⟩:=cp.uu D t (a.eval z).cells;refine .e3 (v:=.pointer (some ⟨w.heap.size,0,none⟩)) (w':=w.alloc (.cells (a.eval z).cells t)) cf Lb ⟨_,l,q,m _ j,.ptr _ _ _ (c _ s)⟩
def Lv:∀(c:dg) (a j:Nat) (cells:Array Value),a+j+c.length<=cells.size->
  (c.zipIdx j).foldl (λ(o:Array Value) (x:Value×Nat)=>o.setIfInBounds (a+x.2) x.1) cells=(cells.toList.take (a+j)++c++cells.toList.drop (a+j+c.length)).toArray
 | [],a,j,cells,h=>by simp
 | v::c,a,j,cells,h=>by
  simp[List.length_cons] at h;rw[List.zipIdx_cons,List.foldl_cons,Lv c a (j+1) _ cB];congr 1;have f:a+j<cells.toList.length:=by simp;omega
  simp only[Array.toList_setIfInBounds];have m:a+(j+1)=a+j+1:=by omega
  rw[m,List.take_set,List.drop_set_of_lt aa];have l:a+j+(v::c).length=a+j+1+c.length:=by simp;omega
  rw[l,List.take_succ_eq_append_getElem f,List.set_append_right _ _ (by simp[Nat.min_le_left]),List.append_assoc,List.append_assoc,List.append_assoc];have g:a+j - (cells.toList.take (a+j)).length=0:=by simp;omega
  rw[g];rfl
def nS(place:Nat->Option (Nat×Nat)):bl->List (Nat×ab)->Option bl
 | cs,[]=>some cs
 | cs,(i,x)::rest=>
  match place i with
  | none=>none
  | some (off,size)=>bif fa x && Nat.beq (cG x).length size && Nat.ble (off+size) cs.length then nS place (cs.take off++cG x++cs.drop (off+size)) rest else none
def BN{I}{w}{j}:∀(c:List (Nat×ab)) (kW:List (Nat×Value)) (q:bl) (g:Array Value) (r:bl),bQ I w q g.toList->
  c.map (·.1)=kW.map (·.1)->bQ I w (c.map (·.2)) (kW.map (·.2))->nS j q c=some r->∃B,Instr.fill j g kW=some B/\bQ I w r B.toList
 | [],[],q,g,r,h,_,_,l=>by simp[nS] at l;subst l;exact⟨g,rfl,h⟩
 | [],_::_,_,_,_,_,m,_,_=>by simp at m
 | _::_,[],_,_,_,_,m,_,_=>by simp at m
 | (i,x)::c,(P,v)::kW,q,g,r,h,m,L,l=>by
  simp[List.map_cons,List.cons.injEq] at m;obtain⟨O,m⟩:=m;subst O;cases L with
  | cons _ _ _ _ D N=>
   simp[nS] at l;split at l
   ·cases l
   ·rename_i f a E;cases a1:(fa x && Nat.beq (cG x).length a && Nat.ble (f+a) q.length) with
    | false=>simp[a1] at l
    | true=>
     simp[a1,cond_true] at l;simp only[Bool.and_eq_true] at a1;obtain⟨⟨J,C⟩,o⟩:=a1;have C:=Nat.eq_of_beq_eq_true C;have o:=Nat.le_of_ble_eq_true o;have s:=yr D J;have t:v.cells.size=a:=by have:=s.length;simp at this;omega
     have G:g.size=q.length:=by have:=h.length;simpa using this
     have A:bQ I w (q.take f++cG x++q.drop (f+a)) (g.toList.take f++v.cells.toList++g.toList.drop (f+a)):=((h.take f).append s).append (h.drop _);obtain⟨B,M,F⟩:=BN c kW _ (g.toList.take f++v.cells.toList++g.toList.drop (f+a)).toArray r (by simpa using A) m N l;refine⟨B,?_,F⟩;rw[Instr.fill,E];have H: ¬(v.cells.size≠a\/f+v.cells.size>g.size):=by omega
     have z:=Lv v.cells.toList f 0 g cB;simp only[t,ne_eq,not_true_eq_false,false_or,gt_iff_lt,decide_eq_true_eq,Bool.or_eq_true,bne_self_eq_false,Bool.false_or];rw[if_neg cB];rw[<-M];congr 1;have K:v.cells.zipIdx=(v.cells.toList.zipIdx 0).toArray:=by
      apply Array.ext';simp
     rw[K,List.foldl_toArray];simp only[Nat.add_zero,Array.length_toList,t] at z;rw[<-z]
def Fl(P:Program)(t:TypeId):Option (dg×List (Nat×Nat)):=
 match P.info? t,P.underlying t with
 | some it,some (.struct fields)=>
  match it.zero,fields.toList.mapM (λf=>(P.info? f.type).map λi=>(f.offset,i.size)) with
  | some z,some UL=>some (z.cells.toList,UL)
  | _,_=>none
 | some it,some (.array n e)=>
  match it.zero,P.info? e with
  | some z,some Lw=>some (z.cells.toList,(List.range n).map λi=>(i*Lw.size,Lw.size))
  | _,_=>none
 | _,_=>none
class hs (P:Program) (t:Nat) (x:outParam (dg×List (Nat×Nat))):Prop where h:Fl P t=some x
def partsOf(bZ:List (Nat×Operand))(ys:List (Bool×ab)):List (Nat×ab):=(bZ.map (·.1)).zip (ys.map (·.2))
theorem Lx{p q}:∀(a:List (Nat×Value)) (g:Array Value) (f:Array Value),(∀i x,p i=some x->q i=some x)->Instr.fill p g a=some f->Instr.fill q g a=some f
 | [],g,f,_,h=>h
 | (i,v)::a,g,f,c,h=>by
  rw[Instr.fill] at h ⊢;cases ck:p i with
  | none=>simp[ck] at h
  | some x=>
   rw[ck] at h;rw[c i x ck];simp only at h ⊢;split at h
   ·cases h
   ·rename_i j;rw[if_neg j];exact Lx a _ _ c h
def UM{t}{r}{c}(g:Fl P t=some (r,c))(a)(us)(h:Instr.fill (c[·]?) r.toArray a.toList=some us)(w):
  (Instr.build t a).run P w= .ok (.agg us) w:=by
 refine run_build w t a us ?_;unfold Fl at g;unfold Program.built;split at g
 ·rename_i it l o m;cases aH:it.zero with
  | none=>simp[aH] at g
  | some z=>
   simp[o,m,aH];cases ck:l.toList.mapM (λf=>(P.info? f.type).map λi=>(f.offset,i.size)) with
   | none=>simp[aH,ck] at g
   | some C=>
    simp[aH,ck] at g;obtain⟨rfl,rfl⟩:=g;simpa using h
 ·rename_i it n e o m;cases aH:it.zero with
  | none=>simp[aH] at g
  | some z=>
   cases hie:P.info? e with
   | none=>simp[aH,hie] at g
   | some B=>
    simp[aH,hie] at g;obtain⟨rfl,rfl⟩:=g;simp[o,m,aH,hie];refine Lx _ _ _ (λi x q=>?_) gQ;cases bH:(List.range n)[i]? with
    | none=>simp[bH] at q
    | some j=>
     have A:j=i:=by
      have:=List.getElem?_eq_some_iff.1 bH;obtain⟨v,s⟩:=this;simpa using s.symm
     subst A;simpa [bH] using q
 ·cases g
def Fm{I}{w}{a}(h:fm I w ρ a o)(c:Array (Nat×Operand))(hm:∀x∈c.toList.map (·.2),x∈o.op.operands){ys:List (Bool×ab)}(hy:jg ρ (c.toList.map (·.2))=some ys)(j:ys.all (·.1)=true):
  (partsOf c.toList ys).map (·.1)=((c.map λ(i,x)=>(i,a.eval x)).toList).map (·.1)/\bQ I w ((partsOf c.toList ys).map (·.2)) (((c.map λ(i,x)=>(i,a.eval x)).toList).map (·.2)):=by
 have g:=s3 h _ ys hm hy (by simpa using j);have f:ys.length=c.toList.length:=by have:=g.length;simp at this;simp[this]
 constructor
 ·show ((c.toList.map (·.1)).zip (ys.map (·.2))).map (·.1)=_;rw[List.map_fst_zip (by simp[f])];simp[Function.comp_def]
 ·show bQ I w (((c.toList.map (·.1)).zip (ys.map (·.2))).map (·.2)) _;rw[List.map_snd_zip (by simp[f])];simpa [Function.comp_def] using g
def ad.yv{t}{g}{f}{c}{ys}{cs}[l:hs P t (f,c)](h:o.op= .build t g)
  (hy:jg ρ (g.toList.map (·.2))=some ys) (r:ys.all (·.1)=true) (x:nS (c[·]?) (f.map .val) (partsOf g.toList ys)=some cs):ad P H ρ o (.agg cs):=by
 refine .same cf λI w a v=>?_;obtain⟨s,m⟩:=Fm v g cb hy r;obtain⟨j,q,z⟩:=BN _ _ (f.map .val) f.toArray cs (by simpa using lj f) s m x;refine⟨.agg j,?_,.agg _ _ z⟩;simp[execOp,h,UM l.h _ j q w]
def yw(P:Program)(t:TypeId):Option (Nat×dg):=
 match P.underlying t with
 | some (.slice e)=>match P.info? e with
  | some i=>i.zero.map λz=>(i.size,z.cells.toList)
  | none=>none
 | _=>none
class jY (P:Program) (t:Nat) (x:outParam (Nat×dg)):Prop where h:yw P t=some x
def Fo{t}{k}{a}(h:yw P t=some (k,a)):∃e i z,P.underlying t=some (.slice e)/\P.info? e=some i/\i.zero=some z/\i.size=k/\z.cells.toList=a:=by
 unfold yw at h;split at h
 ·rename_i e c;split at h
  ·rename_i i f;cases aH:i.zero with
   | none=>simp[aH] at h
   | some z=>simp[aH] at h;exact⟨e,i,z,c,f,aH,h.1,h.2⟩
  ·cases h
 ·cases h
def mv(n k:Nat)(fY:dg):dg:=(List.range (n*k)).map λi=>fY.getD (i%fY.length) default
theorem nc{I}{w}{k b}:∀(els:List bl) (o:Nat),(∀e∈els,e.length=k)->Cells I w b o els.flatten->fL I w k b o els
 | [],o,_,_=>.nil _ _ _
 | e::els,o,a,h=>by
  rw[List.flatten_cons] at h;have c:=a e (.head _);have f:Cells I w b o e:=by have:=h.take e.length;rwa [List.take_left] at this
  have g:Cells I w b (o+k) els.flatten:=by have:=h.drop e.length;rw[List.drop_left,c] at this;exact this
  exact .cons _ _ _ _ _ c f (nc els _ (λe j=>a e (.tail _ j)) g)
def UN{t}{n k}{m}(q:yw P t=some (k,m))(a)(us)(r:n*k<=16777216)(o:0<n*k)
  (h:Instr.fill (λi=>some (i*k,k)) (mv n k m).toArray a.toList=some us) (w):
  ∃e,(Instr.buildSlice t n a).run P w= .ok (.slice (some ⟨w.heap.size,0,none⟩) n n) (w.alloc (.cells us e)):=by
 obtain⟨e,i,z,x,A,s,g,l⟩:=Fo q;have f: ¬n*i.size>2^24:=by rw[g];omega
 have c: ¬n*i.size=0:=by rw[g];omega
 have v:Instr.fill (λj=>some (j*i.size,i.size)) ((Array.range (n*i.size)).map (z.cells[· %z.cells.size]!)) a.toList=some us:=?_
 ·exact⟨e,by simp[Instr.buildSlice,run_underlying x,sizeOf,typeInfo,zeroValue,A,s,f,c,v,newRow]⟩
 rw[g, <-h];congr 1;apply Array.ext';simp only[mv,Array.toList_map,Array.toList_range, <-l];refine List.map_congr_left λj _=>?_;simp[Array.getElem!_eq_getD,Array.getD_eq_getD_getElem?,List.getD_eq_getElem?_getD]
def ad.row{t}{n k}{g}{l}{ys}{els}[hR:jY P t (k,l)](h:o.op= .buildSlice t n g)
  (hy:jg ρ (g.toList.map (·.2))=some ys) (R:ys.all (·.1)=true) (s:(partsOf g.toList ys).map (λx=>cG x.2)=els) (j:Nat.beq els.length n) (C:els.all (λe=>Nat.beq e.length k)=true)
  (f:Nat.ble (n*k) 16777216) (c:Nat.blt 0 (n*k))
  (J:nS (λi=>some (i*k,k)) ((mv n k l).map .val) (partsOf g.toList ys)=some els.flatten):ad P H ρ o (.ai k els):=by
 intro B I w r a U T M _ F;obtain⟨E,K⟩:=Fm F g cb hy R;obtain⟨q,Q,D⟩:=BN _ _ ((mv n k l).map .val) (mv n k l).toArray els.flatten (by simpa using lj _) E K J;have f:=Nat.le_of_ble_eq_true f;have c:0<n*k:=Nat.le_of_ble_eq_true c;obtain⟨e,uo⟩:=UN hR.h (g.map λ(i,x)=>(i,a.eval x)) q f c Q w;obtain⟨N,O,G,A⟩:=cp.uu T e q;have S:=Nat.eq_of_beq_eq_true j;have L:n<=n*k:=by
  rcases Nat.eq_zero_or_pos k with rfl | m
  ·simp at c
  ·exact Nat.le_mul_of_pos_right n m
 refine .e3 (v:=.slice (some ⟨w.heap.size,0,none⟩) n n) (w':=w.alloc (.cells q e)) cf yj ⟨_,N,O,G _ M,.ai _ _ _ _ _ _ S (Nat.le_refl _) h5 (nc els 0 (λx z=>?_) (A _ D))⟩;have:=List.all_eq_true.1 C x z;exact Nat.eq_of_beq_eq_true this
def ad.lN{t}{k}{f}[hR:jY P t (k,f)](h:o.op= .buildSlice t 0 #[]):ad P H ρ o .fl:=by
 intro B I w r a x c g _ s;obtain⟨e,i,z,l,m,A,q,j⟩:=Fo hR.h;have uo:(Instr.buildSlice t 0 #[]).run P w= .ok (.slice (some ⟨w.heap.size,0,none⟩) 0 0) (w.alloc (.cells #[] e)):=by
  simp[Instr.buildSlice,run_underlying l,sizeOf,typeInfo,m,Instr.fill,newRow,show Array.range 0= #[] from by decide+kernel]
 exact .e3 (v:=.slice (some ⟨w.heap.size,0,none⟩) 0 0) (w':=w.alloc (.cells #[] e)) cf yj ⟨I,c.alloc _,jB c _,g.alloc c _,.fl _⟩
end
inductive fU:List bn->bn->List bn->Prop
 | head (e:bn) (H:List bn):fU (e::H) e H
 | tail (f e:bn) (H H':List bn) (h:fU H e H'):fU (f::H) e (f::H')
def fU.mem{H H'}{e}(h:fU H e H'):e∈H:=by
 induction h with
 | head=>exact .head _
 | tail _ _ _ _ _ a=>exact .tail _ a
def fU.sub{H H'}{e}(h:fU H e H'):H'.Sublist H:=by
 induction h with
 | head=>exact List.sublist_cons_self _ _
 | tail _ _ _ _ _ a=>exact a.cons_cons _
def fU.apart{H H'}{e}(h:fU H e H')(l:H.Pairwise λe f=>∀b,e.dY=some b->f.dY≠some b):∀f∈H',∀b,e.dY=some b->f.dY≠some b:=by
 induction h with
 | head e H=>exact (List.pairwise_cons.1 l).1
 | tail g e H H' h r=>
  obtain⟨q,o⟩:=List.pairwise_cons.1 l;intro f j b m a;rcases List.mem_cons.1 j with rfl | j
  ·exact q e h.mem b a m
  ·exact r o f j b m a
def cp.freeze{B}{I}{w}{H H'}(F:bV B I w)(J:a7 B I w H){b n}{e}(K:fU H e H')(L:e.dY=some b){vs}{t}(G:w.heap[b]? =some (.cells vs t (0,0)))(hn:n<=vs.size):
  bV B (I.add b n) w/\Ext B I w (I.add b n) w/\a7 B (I.add b n) w H'/\(∀j m,bQ I w j m->m=vs.toList.take n->Cells (I.add b n) w b 0 j):=by
 have k:er I w (I.add b n) w:=⟨λ_ _ x=>.inl x,λ_ _ _=>rfl⟩;refine⟨⟨F.base,λdI o h=>?_⟩,⟨k.il,k.cell,Below.refl _ _⟩,?_,?_⟩
 ·rcases h with h | ⟨rfl,h⟩
  ·exact F.there dI o h
  ·exact⟨vs[o]'aa,by rw[jC G];exact Array.getElem?_eq_getElem aa⟩
 ·refine (J.sub K.sub).bs k (λ_ _ _ _=>rfl) λf A dI C o z=>?_;rcases z with z | ⟨rfl,_⟩
  ·exact z
  ·exact absurd C (K.apart J.apart f A _ L)
 ·intro j m r q;have D:∀(a:bl) (g:dg) (o:Nat),bQ I w a g->g=(vs.toList.take n).drop o->Cells (I.add b n) w b o a:=by
   intro a
   induction a with
   | nil=>intro g o _ _;exact .nil _ _
   | cons y a M=>
    intro g o N q;cases N with
    | cons _ v _ E r O=>
     have s:(vs.toList.take n)[o]? =some v:=by
      have:=congrArg (λl=>l[0]?) q;simpa using this.symm
     have c:o<n:=by
      have:=(List.getElem?_eq_some_iff.1 s).1;simp at this;omega
     refine .cons _ _ _ v _ ?_ (.inr ⟨rfl,c⟩) (r.bs k) (M E (o+1) O ?_)
     ·rw[jC G];rw[List.getElem?_take] at s;simpa [c] using s
     ·have:=congrArg List.tail q;simpa [List.tail_drop] using this
  exact D j m 0 r (by simpa using q)
section
variable{c:Ctx}{r:Option Nat}{P:Program}{ops:Array Oper}{l rest:cc}{o:Oper}{st:dU}{Q:Exit->Act->World->Prop}{x:ab}{H:aA}{ρ:Nat->Option ab}
def Sat.qw{a}{w}{d}{y}{env}{I}(f:fM I w (aD env) a)(h:Rel I w y (a.tmps.getD d undef)):fM I w (aD ((d,y)::env)) a:=by
 intro t z c;rw[kU] at c;split at c
 ·rename_i e;subst e;simp at c;subst c;exact h
 ·exact f t z c
def Sat.pC{a}{w}{d b off}{t}{cs}{H'}(s:Sat c st a w)(o:aD st.env d=some (.p b off))(l:fU st.H (.au b t cs) H'):Sat c ⟨(d,.ptr (cs.drop off))::st.env,H'⟩ a w:=by
 obtain⟨I,x,C,g,h⟩:=s.mem;obtain⟨D,j,z,r,B⟩:=g.ok _ l.mem;obtain⟨A,f,m,v⟩:=cp.freeze (n:=j.size) x g l (b:=b) rfl z (Nat.le_refl _);refine⟨s.ds,s.size,_,A,C.trans f,m,Sat.qw (h.bs f.keeps) ?_⟩;have q:=bX (h d _ o);rw[q];have:=(v cs j.toList r Br).drop off;exact .ptr _ _ _ (by simpa using this)
def aB.pC{p}{d b off}{t}{cs}{H'}(f:aD st.env d=some (.p b off))(g:fU st.H (.au b t cs) H')(h:aB c r P p ⟨(d,.ptr (cs.drop off))::st.env,H'⟩ Q):aB c r P p st Q:=
 λa w s=>h a w (s.pC f g)
def Sat.oM{a}{w}{d b n cap k}{t}{els}{more}{H'}(s:Sat c st a w)(B:aD st.env d=some (.val (.slice (some ⟨b,0,none⟩) n cap)))(j:fU st.H (.au b t (els.flatten++more)) H')
  (hn:els.length=n) (x:∀e∈els,e.length=k) (v:n<=cap) (hm:cap<=maxLen):Sat c ⟨(d,.ai k els)::st.env,H'⟩ a w:=by
 obtain⟨I,D,F,f,g⟩:=s.mem;obtain⟨G,h,C,q,E⟩:=f.ok _ j.mem;obtain⟨z,l,A,r⟩:=cp.freeze (n:=h.size) D f j (b:=b) rfl C (Nat.le_refl _);refine⟨s.ds,s.size,_,z,F.trans l,A,Sat.qw (g.bs l.keeps) ?_⟩;have o:=bX (g d _ B);rw[o];have m:=(r _ h.toList q Br).take els.flatten.length;rw[List.take_left] at m;exact .ai _ _ _ _ _ _ hn v hm (nc els 0 x m)
def aB.oM{p}{d b n cap k}{t}{els}{more}{H'}(f:aD st.env d=some (.val (.slice (some ⟨b,0,none⟩) n cap)))(l:fU st.H (.au b t (els.flatten++more)) H')
  (hn:els.length=n) (j:∀e∈els,e.length=k) (g:n<=cap) (hm:cap<=maxLen) (h:aB c r P p ⟨(d,.ai k els)::st.env,H'⟩ Q):aB c r P p st Q:=
 λa w s=>h a w (s.oM f l hn j g hm)
def Sat.le{a}{w}{d}{x y}(s:Sat c st a w)(g:aD st.env d=some x)(h:an x y):Sat c ⟨(d,y)::st.env,st.H⟩ a w:=by
 obtain⟨I,l,m,j,f⟩:=s.mem;exact⟨s.ds,s.size,I,l,m,j,Sat.qw f (h _ _ _ (f d _ g))⟩
def aB.le{p}(d){x y}(g:aD st.env d=some x)(f:an x y)(h:aB c r P p ⟨(d,y)::st.env,st.H⟩ Q):aB c r P p st Q:=λa w s=>h a w (s.le g f)
def aj.le(d){x y}(g:aD st.env d=some x)(f:an x y)(h:aj c r P ops l ⟨(d,y)::st.env,st.H⟩ Q):aj c r P ops l st Q:=λa w s=>h a w (s.le g f)
def aZ.le{e}(d){x y}(g:aD st.env d=some x)(f:an x y)(h:aZ c ⟨(d,y)::st.env,st.H⟩ e Q):aZ c st e Q:=λa w s=>h a w (s.le g f)
def aZ.pC{e}{d b off}{t}{cs}{H'}(f:aD st.env d=some (.p b off))(g:fU st.H (.au b t cs) H')(h:aZ c ⟨(d,.ptr (cs.drop off))::st.env,H'⟩ e Q):aZ c st e Q:=
 λa w s=>h a w (s.pC f g)
def Fp(P:Program)(t:TypeId):Option (TypeId×Nat×Nat):=
 match P.underlying t with
 | some (.slice e)=>match P.info? e with
  | some i=>match i.zero with
   | some z=>bif Nat.beq z.cells.size i.size && Nat.blt 0 i.size then some (e,i.size,i.bytes) else none
   | none=>none
  | none=>none
 | _=>none
class fF (P:Program) (t:Nat) (x:outParam (Nat×Nat×Nat)):Prop where h:Fp P t=some x
def oN{t e k a}(h:Fp P t=some (e,k,a)):∃i z,P.underlying t=some (.slice e)/\P.info? e=some i/\i.zero=some z/\i.size=k/\i.bytes=a/\z.cells.size=k/\0<k:=by
 unfold Fp at h;split at h
 ·rename_i j f;split at h
  ·rename_i i g;split at h
   ·rename_i z c;cases a1:(Nat.beq z.cells.size i.size && Nat.blt 0 i.size) with
    | false=>simp[a1] at h
    | true=>
     simp[a1,cond_true,Option.some.injEq,Prod.mk.injEq] at h;obtain⟨rfl,rfl,rfl⟩:=h;simp only[Bool.and_eq_true] at a1;exact⟨i,z,f,g,c,rfl,rfl,Nat.eq_of_beq_eq_true a1.1,Nat.le_of_ble_eq_true a1.2⟩
   ·cases h
  ·cases h
 ·cases h
def fL.values{I}{w}{k b o}{els}(h:fL I w k b o els):∃a,bQ I w els.flatten a/\a.length=els.length*k/\∀j u,a[j]? =some u->w.cell? ((⟨b,o,none⟩:Addr).add j)=some u:=by
 obtain⟨a,c,g⟩:=h.cells.values;refine⟨a,c,?_,λj u f=>?_⟩
 ·rw[c.length,h.Lc]
 ·have:(⟨b,o,none⟩:Addr).add j=⟨b,o+j,none⟩:=by unfold Addr.add;split <;> simp_all
  rw[this];exact g j u f
def Ly{els:List bl}(h:els.all dB=true):dB els.flatten=true:=by
 simp only[dB,List.all_eq_true,List.mem_flatten] at h ⊢;rintro x ⟨e,c,a⟩;exact h e c x a
def uD{I}{w}{tx e' k}{els}{v}(f:P.underlying tx=some (.slice e'))(h:Rel I w (.ai k els) v)(m:els.all dB=true):
  ∃us,bQ I w els.flatten us/\Src P k tx v els.length us w:=by
 cases h with
 | dQ _ a q=>
  refine⟨[],.nil,?_⟩;cases a with
  | none=>exact Src.ofNil w f _
  | some a=>exact Src.ofSlice w f a 0 q [] aS aS aS
 | ai _ _ b r len g o z x t=>
  obtain⟨us,aC,gn,uE⟩:=t.values;subst o;exact⟨us,aC,Src.ofSlice w f _ _ g us gn uE (uA aC (Ly m))⟩
def pD{s z}{t tx}(h:o.op= .call {callee:=.builtin .append,args:=#[s,z],argTypes:=#[t,tx]})(a:Act)(w){v}{w'}
  (c:(Builtin.append_ #[t,tx] o.type #[a.eval s,a.eval z]).run P w= .ok v w'):(execOp a.eval o).run P w= .ok (.value v) w':=by
 simp[execOp,h,resolve,invoke,builtin,c]
def ad.BO{s z}{t tx e k m gT}{els}{mw y}{g1 Z}[dZ:fF P t (e,k,m)][jZ:eC P tx gT](h:o.op= .call {callee:=.builtin .append,args:=#[s,z],argTypes:=#[t,tx]})
  (b6:aN ρ s=some (g1,mw)) (C:g1=true) (D:an mw .fl) (aH:aN ρ z=some (Z,y)) (g:Z=true) (hy:an y (.ai k els)) (ae:els.all dB=true) (a8:els.length*m<=140737488355328) (a9:els.length<=9223372036854775807):ad P H ρ o (.ai k els):=by
 intro B I w r a m5 hw aU _ N;obtain⟨i,zv,hu,aQ,lR,R,O,s5,fw⟩:=oN dZ.h;obtain⟨e',_,K,_⟩:=nP jZ.h;obtain⟨f,ur⟩:∃f,a.eval s= .slice f 0 0:=by
  have l:=D _ _ _ (N.get gB b6 C);generalize a.eval s=u at l;cases l;exact⟨_,rfl⟩
 obtain⟨us,aC,gn⟩:=uD (P:=P) (tx:=tx) K (hy _ _ _ (N.get gB aH g)) ae;rw[<-R] at gn;by_cases hn:els.length=0
 ·have S:els= []:=List.eq_nil_of_length_eq_zero hn;subst S;have Q:us= []:=by cases aC;rfl
  subst Q;have bH:=run_append_nothing (P:=P) w t tx o.type e i hu aQ f 0 0 (Nat.le_refl _) (a.eval z) gn;exact .e3 cf (pD h a w uq) ⟨I,hw,.refl _ _ _,aU,.dQ _ _ _⟩
 ·have W:(Builtin.firstCells i.size 0 (.slice f 0 0)).run P w.drew= .ok (#[]:Array Value) w.drew:=by
   cases f with
   | none=>simp[Builtin.firstCells]
   | some f=>exact run_firstCells_some w.drew i.size 0 f 0 0 [] aS aS
  have J:Builtin.nextslicecap (0+els.length) 0*i.bytes<=281474976710656:=growslice_fits aa (by rw[O,Nat.zero_add];exact a8);have bH:=run_append_grow_src (P:=P) w t tx o.type e i zv hu aQ lR f 0 0 [] W (a.eval z) els.length us gn aa aa J;simp[Nat.zero_add,List.nil_append] at bH;generalize fb:grownCap w els.length 0 e=G at bH;have T:els.length<=G:=by rw[<-fb];exact grownCap_ge w els.length 0 e
  have L:G<=maxLen:=by rw[<-fb];exact grownCap_le_maxLen w els.length 0 e h5
  obtain⟨bF,a2,a3,a4⟩:=cp.uu hw.drew e (us.toArray++Builtin.zeroCells zv.cells (G - els.length));have eJ:er I w I w.drew:=⟨λ_ _ x=>x,λ_ _ _=>rfl⟩;have UO:=aC.bs eJ;have X:=lj (I:=I) (w:=w.drew) (Builtin.zeroCells zv.cells (G - els.length)).toList;have c:=a4 (els.flatten++(Builtin.zeroCells zv.cells (G - els.length)).toList.map .val) (by simpa using UO.append X);have q:=c.take els.flatten.length;rw[List.take_left] at q;have v:∀x∈els,x.length=k:=by
   have l:=hy _ _ _ (N.get gB aH g);generalize a.eval z=u at l;cases l with
   | dQ=>simp at hn
   | ai _ _ b off len a0 br a1 hm he=> 
    intro x aK;obtain⟨j,cm⟩:=List.mem_iff_getElem?.1 aK;exact (he.get cm).1
  exact .e3 cf (pD h a w uq) ⟨_,bF,(.trans ⟨eJ.il,eJ.cell,(Below.refl _ _).drew⟩ a2),a3 _ aU.drew,.ai _ _ _ _ _ _ rfl T L (nc els 0 v q)⟩
def Sat.qx{a}{w}{d e k}(s:Sat c st a w)(l:aD st.env d=some (.val (.slice none 0 0))):Sat c ⟨(d,.as (.ai k []) (.slice none 0 0))::st.env,.own e k (.slice none 0 0)::st.H⟩ a w:=by
 obtain⟨I,q,r,h,j⟩:=s.mem;refine⟨s.ds,s.size,I,q,r,⟨λf g=>?_,List.pairwise_cons.2 ⟨λf g b o=>by simp[bn.dY,Value.ownBlock] at o,h.apart⟩⟩,Sat.qw j ?_⟩
 ·rcases List.mem_cons.1 g with rfl | g
  ·exact⟨0,[],World.ownsRow_nil _ _ _ _,λg m=>by simp[Value.ownBlock] at m⟩
  ·exact h.ok f g
 ·rw[bX (j d _ l)];exact .as _ _ (.dQ _ _ _)
def aB.qx{p}(d e k)(f:aD st.env d=some (.val (.slice none 0 0)))(h:aB c r P p ⟨(d,.as (.ai k []) (.slice none 0 0))::st.env,.own e k (.slice none 0 0)::st.H⟩ Q):aB c r P p st Q:=
 λa w s=>h a w (s.qx f)
def UP{I}{w}:er I w I w.drew:=⟨λ_ _ x=>x,λ_ _ _=>rfl⟩
def UQ{B}{I}{w}:Ext B I w I w.drew:=⟨λ_ _ x=>x,λ_ _ _=>rfl,(Below.refl _ _).drew⟩
theorem pE{k}:∀{els:List bl},(∀x∈els,x.length=k)->els.flatten.length=els.length*k
 | [],_=>by simp
 | e::els,h=>by rw[List.flatten_cons,List.length_append,pE (λx a=>h x (.tail _ a)),h e (.head _),List.length_cons,Nat.add_mul];omega
def Rel.yx{I}{w}{k}{els}{v}(h:Rel I w (.ai k els) v):∀x∈els,x.length=k:=by
 cases h with
 | dQ=>intro x aK;cases aK
 | ai _ _ b off len f r q o c=>
  intro x aK;obtain⟨j,m⟩:=List.mem_iff_getElem?.1 aK;exact (c.get m).1
theorem uF{I}{w}{b}{vs}{t}(h:w.heap[b]? =some (.cells vs t (0,0))):∀(a:bl) (c:dg) (o:Nat),bQ I w a c->(∀j u,c[j]? =some u->vs[o+j]? =some u)->(∀j,j<a.length->I b (o+j))->Cells I w b o a
 | [],_,o,_,_,_=>.nil _ _
 | y::a,_,o,.cons _ v _ c l m,f,g=>by
  refine .cons _ _ _ v _ (by rw[jC h];simpa using f 0 v rfl) (by simpa using g 0 aS) l (uF h a c (o+1) m (λj u q=>?_) λj r=>?_)
  ·have:=f (j+1) u (by simpa using q);have e:o+(j+1)=o+1+j:=by omega
   rwa [e] at this
  ·have:=g (j+1) cB;have e:o+(j+1)=o+1+j:=by omega
   rwa [e] at this
def Lz{mw}{s z}{t tx e k ar gT}{els news}{v}{y}{g1 g2:Bool}{H':Value->aA}[dZ:fF P t (e,k,ar)][jZ:eC P tx gT]
  (h:o.op= .call {callee:=.builtin .append,args:=#[s,z],argTypes:=#[t,tx]}) (b6:aN ρ s=some (g1,mw)) (BP:g1=true) (yy:an mw (.as (.ai k els) v)) (aH:aN ρ z=some (g2,y)) (BQ:g2=true) (hy:an y (.ai k news))
  (ae:news.all dB=true) (hu:∀ez,bG H (.own e k v) (.own e k ez) (H' ez)) (a8:(els.length+news.length)*ar<=140737488355328) (bK:els.length+news.length<=9223372036854775807)
  {B:Nat} {I:cp} {w:World} {r:Option Nat} {a:Act} (hw:bV B I w) (aU:a7 B I w H) (bd:fm I w ρ a o):
  dt P r o a w (λx w'=>∃q,bV B q w'/\Ext B I w q w'/\a7 B q w' (H' x)/\Rel q w' (.as (.ai k (els++news)) x) x) (λ_ _=>False):=by
 obtain⟨i,zv,Fq,aQ,lR,Y,UR,s5,aka⟩:=oN dZ.h;obtain⟨e',_,US,_⟩:=nP jZ.h;have hN:=yy _ _ _ (bd.get gB b6 BP);obtain⟨UT,L⟩:a.eval s=v/\Rel I w (.ai k els) v:=by
  generalize a.eval s=u at hN;cases hN with
  | as _ _ aK=>exact⟨rfl,aK⟩
 have rR:=hy _ _ _ (bd.get gB aH BQ);obtain⟨us,aC,gn⟩:=uD (P:=P) (tx:=tx) US rR ae;rw[<-Y] at gn;obtain⟨n,xs,rN,pF⟩:=aU.ok _ (hu v).mem
 suffices hmain:∃ez q w',(Builtin.append_ #[t,tx] o.type #[v,a.eval z]).run P w= .ok ez w'/\bV B q w'/\Ext B I w q w'/\a7 B q w' (H' ez)/\Rel q w' (.ai k (els++news)) ez by
  obtain⟨ez,q,w',bM,bL,fh,oO,s6⟩:=hmain;exact dt.e3 (R:=λx w'=>∃q,bV B q w'/\Ext B I w q w'/\a7 B q w' (H' x)/\Rel q w' (.as (.ai k (els++news)) x) x) (E:=λ_ _=>False) cf (pD h a w (by rw[UT];exact bM)) ⟨q,bL,fh,oO,.as _ _ s6⟩
 have Q:=rR.yx;have W:=L.yx;by_cases hn:news.length=0
 ·have im:news= []:=List.eq_nil_of_length_eq_zero hn;subst im;have UU:us= []:=by cases aC;rfl
  subst UU;obtain⟨gE,m,nd,UW,hle⟩:∃gE m nd,v= .slice gE m nd/\m<=nd:=by
   rcases rN.2 with⟨rfl,_⟩ | ⟨g,cap,cur,rfl,_,_,a1,_⟩
   ·exact⟨_,_,_,rfl,Nat.le_refl _⟩
   ·exact⟨_,_,_,rfl,a1⟩
  have X:=run_append_nothing (P:=P) w t tx o.type e i Fq aQ gE m nd hle (a.eval z) gn;rw[<-UW] at X;exact⟨v,I,w,X,hw,Ext.refl _ _ _,aU.fE (hu v) ⟨λ_ _ x=>x,λ_ _ _=>rfl⟩ (λ_ _ _=>rfl) (λ_ _ x=>.inl x) ⟨n,xs,rN,pF⟩ (λ_ a8=>.inl a8),by simpa using L⟩
 have U:∀(gE:Option Addr) (m old:Nat) (olds:dg),m=els.length->bQ I w els.flatten olds->(Builtin.firstCells i.size m (.slice gE m old)).run P w.drew= .ok olds.toArray w.drew->old<m+news.length->v= .slice gE m old->
   ∃ez q w',(Builtin.append_ #[t,tx] o.type #[v,a.eval z]).run P w= .ok ez w'/\bV B q w'/\Ext B I w q w'/\a7 B q w' (H' ez)/\Rel q w' (.ai k (els++news)) ez:=by
  intro gE m old olds hm a5 UX K UY;subst hm;have a9:Builtin.nextslicecap (els.length+news.length) old*i.bytes<=281474976710656:=growslice_fits K (by rw[UR];exact a8);have X:=run_append_grow_src (P:=P) w t tx o.type e i zv Fq aQ lR gE els.length old olds UX (a.eval z) news.length us gn K aa a9;rw[<-UY] at X;generalize fb:grownCap w (els.length+news.length) old e=G at X;have ah:els.length+news.length<=G:=by rw[<-fb];exact grownCap_ge w _ old e
  have T:G<=maxLen:=by rw[<-fb];exact grownCap_le_maxLen w _ old e h5
  generalize a3:(olds++us).toArray++Builtin.zeroCells zv.cells (G - (els.length+news.length))=cur at X;have am:olds.length=els.length*k:=by rw[a5.length,pE W]
  have yl:us.length=news.length*k:=by rw[aC.length,pE Q]
  have S:cur.size=G*k:=by
   rw[<-a3];simp only[Array.size_append,List.size_toArray,List.length_append,size_zeroCells,s5,am,yl, <-Nat.add_mul];congr 1;omega
  have LA:(olds++us).length=(els.length+news.length)*k:=by rw[List.length_append,am,yl,Nat.add_mul]
  have yz:cur.toList.take ((els.length+news.length)*k)=olds++us:=by
   rw[<-a3, <-LA,Array.toList_append];exact List.take_left
  have pG:=hw.drew
  let q:cp:=λb o=>I b o\/(b=w.heap.size/\o<(els.length+news.length)*k)
  have D:er I w q (w.drew.alloc (.cells cur e)):=⟨λ_ _ x=>.inl x,λb o x=>(lP pG _).cell b o x⟩;have a0:(w.drew.alloc (.cells cur e)).heap[w.heap.size]? =some (.cells cur e (0,0)):=heap_alloc_new w.drew _;refine⟨.slice (some ⟨w.heap.size,0,none⟩) (els.length+news.length) G,q,_,X,⟨(pG.alloc _).base,λb o aK=>?_⟩,⟨D.il,D.cell,(UQ.trans (jB pG (.cells cur e))).below⟩,?_,?_⟩
  ·rcases aK with aK | ⟨rfl,aK⟩
   ·exact (pG.alloc _).there b o aK
   ·have:o<cur.size:=by rw[S];exact Nat.lt_of_lt_of_le aK (Nat.mul_le_mul_right k ah)
    exact⟨cur[o],by rw[jC a0];exact Array.getElem?_eq_getElem this⟩
  ·refine aU.fE (hu _) D (λb K _=>Below.heap_alloc w.drew _ b K) (λb o aK=>aK.elim .inl (λaK=>.inr (.inr (by rw[aK.1];exact Nat.le_refl _)))) ?_ (λb a8=>.inr ?_)
   ·refine⟨els.length+news.length,olds++us,⟨LA,.inr ⟨w.heap.size,G,cur,rfl,hw.base,a0,ah,T,S,yz⟩⟩,λg aw o bb je=>?_⟩;simp[Value.ownBlock] at aw;subst aw;rcases je with je | ⟨_,je⟩
    ·exact absurd (hw.lt je) (Nat.lt_irrefl _)
    ·omega
   ·simp[bn.dY,Value.ownBlock] at a8;omega
  ·refine .ai _ _ _ _ _ _ aS ah T (nc _ _ (λx aK=>(List.mem_append.1 aK).elim (W x) (Q x)) ?_);rw[List.flatten_append];refine uF a0 _ (olds++us) 0 ((a5.append aC).bs D) (λj u hu=>?_) (λj cm=>.inr ⟨rfl,?_⟩)
   ·rw[<-yz,List.getElem?_take] at hu;split at hu
    ·simpa using hu
    ·cases hu
   ·rw[<-List.flatten_append,pE (λx aK=>(List.mem_append.1 aK).elim (W x) (Q x)),List.length_append] at cm;omega
 rcases rN.2 with⟨hv0,uG⟩ | ⟨g,cap,cur,j0,hBg,aw,a9,T,S,htake⟩
 ·-- from nil
  subst hv0;have im:els= []:=by
   cases L with
   | dQ=>rfl
  subst im;exact U none 0 0 [] rfl .nil (by simp[Builtin.firstCells]) cB rfl
 ·subst j0;have qy:n=els.length:=by cases L with
   | dQ=>rfl
   | ai _ _ _ _ _ _ br _ _ _=>exact br.symm
  subst qy;have bF:fL I w k g 0 els:=by cases L with
   | dQ=>exact .nil _ _ _
   | ai _ _ _ _ _ _ _ _ _ he=>exact he
  obtain⟨olds,hO,fO,fi⟩:=bF.values;have UZ:∀j u,olds[j]? =some u->cur[j]? =some u:=λj u hu=>by
   have:=fi j u hu;have bM:(⟨g,0,none⟩:Addr).add j=⟨g,j,none⟩:=by unfold Addr.add;split <;> simp_all
   rw[bM,jC aw] at this;exact this
  have qz:olds=xs:=by
   rw[<-htake];apply List.ext_getElem?;intro j;rw[List.getElem?_take];by_cases cm:j<els.length*k
   ·rw[if_pos cm];have K:j<olds.length:=by omega
    rw[List.getElem?_eq_getElem K];have:=UZ j _ (List.getElem?_eq_getElem K);simpa using this.symm
   ·rw[if_neg cm,List.getElem?_eq_none aa]
  by_cases A:els.length+news.length<=cap
  ·-- in place
   have fw:els.length*i.size+us.length<=cur.size:=by rw[S,gn.newsLen,Y, <-Nat.add_mul];exact Nat.mul_le_mul_right _ A
   have yl:us.length=news.length*k:=by rw[aC.length,pE Q]
   have BR:=run_storeCells_at P g (els.length*i.size) e us 0 cur w aw (by simpa using fw) gn.one;simp only[Nat.add_zero] at BR;have X:(Builtin.append_ #[t,tx] o.type #[.slice (some ⟨g,0,none⟩) els.length cap,a.eval z]).run P w= .ok (.slice (some ⟨g,0,none⟩) (els.length+news.length) cap) (w.setRow g (cur.toList.take (els.length*i.size)++us++cur.toList.drop (els.length*i.size+us.length)).toArray):=by
    rcases gn.kind with⟨e'',bD⟩ | bD <;> simp[Builtin.append_,run_underlying Fq,run_underlying bD,sizeOf,typeInfo,aQ,gn.len,A,gn.cells,Addr.add_lit,BR]
   rw[Y] at X;generalize N:(cur.toList.take (els.length*k)++us++cur.toList.drop (els.length*k+us.length)).toArray=cur' at X;have O:(w.setRow g cur').heap[g]? =some (.cells cur' e (0,0)):=setRow_heap w g cur cur' e (0,0) aw
   let q:cp:=λb o=>I b o\/(b=g/\o<(els.length+news.length)*k)
   have a4:cur'.size=cap*k:=by
    rw[<-N];simp only[List.size_toArray,List.length_append,List.length_take,List.length_drop,Array.length_toList];rw[Y] at fw;omega
   have gF:cur'.toList.take ((els.length+news.length)*k)=xs++us:=by
    rw[<-N,htake];have:(els.length+news.length)*k=(xs++us).length:=by rw[List.length_append,rN.1,yl,Nat.add_mul]
    rw[this];exact List.take_left
   have ac:∀j,j<els.length*k->cur'[j]? =cur[j]? :=λj cm=>by
    rw[<-N];have af:j<cur.size:=by rw[S];exact Nat.lt_of_lt_of_le cm (Nat.mul_le_mul_right k a9)
    simp only[List.getElem?_toArray];rw[List.append_assoc,List.getElem?_append_left cB,List.getElem?_take,if_pos cm];simp
   have D:er I w q (w.setRow g cur'):=⟨λ_ _ x=>.inl x,λb o x=>by
    by_cases a8:b=g
    ·subst a8;have bb:o<els.length*k:=Nat.lt_of_not_le λhle=>pF b rfl o hle x;rw[jC O,jC aw];exact ac o bb
    ·exact World.cell?_of_block (a:=⟨b,o,none⟩) (setRow_other w g b cur' a8)⟩
   refine⟨_,q,_,X,⟨wo,λb o aK=>?_⟩,⟨D.il,D.cell,⟨rfl,rfl,rfl,aS,λj cm=>setRow_other w g j cur' aa⟩⟩,?_,?_⟩
   ·rcases aK with aK | ⟨rfl,aK⟩
    ·rw[D.cell b o aK];exact hw.there b o aK
    ·have:o<cur'.size:=by rw[a4];exact Nat.lt_of_lt_of_le aK (Nat.mul_le_mul_right k A)
     exact⟨cur'[o],by rw[jC O];exact Array.getElem?_eq_getElem this⟩
   ·refine aU.fE (hu _) D (λb K U0=>setRow_other w g b cur' (λe=>U0 wy)) (λb o aK=>aK.elim .inl (λaK=>.inr (.inl (by rw[aK.1];rfl)))) ⟨els.length+news.length,xs++us,⟨Ul,.inr ⟨g,cap,cur',rfl,hBg,O,A,T,a4,gF⟩⟩,λnT yA o bb je=>?_⟩ (λb a8=>.inl a8);simp[Value.ownBlock] at yA;subst yA;rcases je with je | ⟨_,je⟩
    ·exact pF g rfl o (Nat.le_trans (Nat.mul_le_mul_right k aa) bb) je
    ·omega
   ·refine .ai _ _ _ _ _ _ aS A T (nc _ _ (λx aK=>(List.mem_append.1 aK).elim (W x) (Q x)) ?_);rw[List.flatten_append];rw[qz] at hO;refine uF O _ (xs++us) 0 ((hO.append aC).bs D) (λj u hu=>?_) (λj cm=>.inr ⟨rfl,?_⟩)
    ·rw[<-gF,List.getElem?_take] at hu;split at hu
     ·simpa using hu
     ·cases hu
    ·rw[<-List.flatten_append,pE (λx aK=>(List.mem_append.1 aK).elim (W x) (Q x)),List.length_append] at cm;omega
  ·refine U (some ⟨g,0,none⟩) els.length cap olds rfl hO ?_ aa rfl;rw[Y];exact run_firstCells_some w.drew k els.length ⟨g,0,none⟩ els.length cap olds fO (by simpa using fi)
def aj.LB{mw:ab}{s z:Operand}{t tx e k iN gT:Nat}{els news:List bl}{v:Value}{y:ab}{g1 g2:Bool}{H':Value->aA}[dZ:fF P t (e,k,iN)][jZ:eC P tx gT](lT:o.guard=none)(a6:ix c.n o.dst)
  (h:o.op= .call {callee:=.builtin .append,args:=#[s,z],argTypes:=#[t,tx]}) (b6:aN (aD st.env) s=some (g1,mw)) (rS:g1=true) (yy:an mw (.as (.ai k els) v)) (aH:aN (aD st.env) z=some (g2,y)) (rT:g2=true) (hy:an y (.ai k news))
  (ae:news.all dB=true) (hu:∀ez,bG st.H (.own e k v) (.own e k ez) (H' ez)) (a8:(els.length+news.length)*iN<=140737488355328) (wD:els.length+news.length<=9223372036854775807)
  (next:∀ez,aj c r P ops rest ⟨iK o.dst (.as (.ai k (els++news)) ez) st.env,H' ez⟩ Q):aj c r P ops (o::rest) st Q:=by
 intro a w sat;refine wpListIn_plain lT λK eX=>?_;obtain⟨I,hw,he,aU,bd⟩:=sat.mem;refine (Lz h b6 rS yy aH rT hy ae hu a8 wD hw aU (bd.ops o)) K Q ?_ (λ_ _ h=>h.elim);rintro x jW ⟨c3,bL,fh,oO,s6⟩;exact eX _ _ (next x _ _ ⟨yh,yf,c3,bL,he.trans fh,oO,(bd.bs fh.keeps).put (by rw[sat.size];exact a6) s6⟩)
def aj.U1{s z:Operand}{t tx e k iN gT:Nat}{els news:List bl}{v:Value}{y:ab}{g1 g2:Bool}{H':Value->aA}[dZ:fF P t (e,k,iN)][jZ:eC P tx gT](lT:o.guard=none)(a6:ix c.n o.dst)
  (h:o.op= .call {callee:=.builtin .append,args:=#[s,z],argTypes:=#[t,tx]}) (b6:aN (aD st.env) s=some (g1,.as (.ai k els) v)) (rS:g1=true) (aH:aN (aD st.env) z=some (g2,y)) (rT:g2=true) (hy:an y (.ai k news))
  (ae:news.all dB=true) (hu:∀ez,bG st.H (.own e k v) (.own e k ez) (H' ez)) (a8:(els.length+news.length)*iN<=140737488355328) (wD:els.length+news.length<=9223372036854775807)
  (next:∀ez,aj c r P ops rest ⟨iK o.dst (.as (.ai k (els++news)) ez) st.env,H' ez⟩ Q):aj c r P ops (o::rest) st Q:=aj.LB lT a6 h b6 rS (.refl _) aH rT hy ae hu a8 wD next
end
inductive iq(P:Program)(st:dU):List ResultVar->List ab->Prop
 | nil:iq P st [] []
 | tmp {t:Nat} {y:ab} {rs:List ResultVar} {ys:List ab} (h:aN (aD st.env) (.tmp t)=some (true,y)) (r:iq P st rs ys):iq P st (.tmp t::rs) (y::ys)
 | x5 {t ty b off tb n:Nat} {cs fY:List ab} {rs:List ResultVar} {ys:List ab} (j1:cX P ty (true,n)) (h:aD st.env t=some (.p b off)) (hm:bn.au b tb cs∈st.H) (aH:(cs.drop off).take n=fY) (hn:Nat.beq fY.length n=true) (r:iq P st rs ys):iq P st (.cell t ty::rs) (.agg fY::ys)
 | A8 {t ty b off tb n:Nat} {cs:List ab} {z:ab} {rs:List ResultVar} {ys:List ab} (j1:cX P ty (false,n)) (h:aD st.env t=some (.p b off)) (hm:bn.au b tb cs∈st.H) (aH:cs[off]? =some z) (r:iq P st rs ys):iq P st (.cell t ty::rs) (z::ys)
 | x6 {t ty n:Nat} {cs:List ab} {rs:List ResultVar} {ys:List ab} (j1:cX P ty (true,n)) (h:aD st.env t=some (.ptr cs)) (hn:Nat.ble n cs.length=true) (r:iq P st rs ys):iq P st (.cell t ty::rs) (.agg (cs.take n)::ys)
 | Ko {t ty n:Nat} {cs:List ab} {z:ab} {rs:List ResultVar} {ys:List ab} (j1:cX P ty (false,n)) (h:aD st.env t=some (.ptr cs)) (aH:cs[0]? =some z) (r:iq P st rs ys):iq P st (.cell t ty::rs) (z::ys)
def qA(tmps:Array Value):ResultVar->Sem Value
 | .tmp t=>pure (tmps.getD t undef)
 | .cell a t=>do loadVar t (<-asAddr (tmps.getD a undef))
def iq.run{c:Ctx}{P}{st}{a}{w}{I}(aU:a7 c.B I w st.H)(bd:fM I w (aD st.env) a):∀{rs:List ResultVar} {ys:bl},iq P st rs ys->
  ∃vs,(rs.mapM (qA a.tmps)).run P w= .ok vs w/\bQ I w ys vs:=by
 intro rs ys h;have yB:∀{r:ResultVar} {rs:List ResultVar} {y:ab} {ys:bl} {v:Value},(qA a.tmps r).run P w= .ok v w->Rel I w y v->(∃vs,(rs.mapM (qA a.tmps)).run P w= .ok vs w/\bQ I w ys vs)->∃vs,((r::rs).mapM (qA a.tmps)).run P w= .ok vs w/\bQ I w (y::ys) vs:=by
  rintro r rs y ys v ae ao ⟨vs,aV,bu⟩;exact⟨v::vs,by simp[List.mapM_cons,Sem.run_bind,ae,aV,Result.andThen_ok,Sem.run_pure],.cons _ _ _ _ ao bu⟩
 induction h with
 | nil=>exact⟨[],rfl,.nil⟩
 | @tmp t y rs ys h r fv=>
  refine yB (v:=a.tmps.getD t undef) rfl ?_ fv;unfold aN at h;cases aK:iL (aD st.env) (.tmp t) with
  | none=>simp[aK] at h
  | some z=>simp[aK] at h;exact Ld (bd t z aK) h rfl
 | @x5 t ty b off tb n cs fY rs ys j1 h hm aH hn r fv=>
  have af:=bX (bd t _ h);obtain⟨_,vs,a8,bH,_⟩:=aU.ok _ hm;have BS:bQ I w fY ((vs.toList.drop off).take n):=by rw[<-aH];exact (bH.drop off).take n
  have hlen:((vs.toList.drop off).take n).length=n:=by rw[BS.length];exact Nat.eq_of_beq_eq_true hn
  have br:=BH (P:=P) j1.h b off ((vs.toList.drop off).take n) w hlen (λj v cm=>by
   rw[jC a8];rw[List.getElem?_take] at cm;split at cm
   ·simpa using cm
   ·cases cm)
  refine yB (v:=.agg ((vs.toList.drop off).take n).toArray) ?_ (.agg _ _ (by simpa using BS)) fv;simp[qA,af,asAddr,br]
 | @A8 t ty b off tb n cs z rs ys j1 h hm aH r fv=>
  have af:=bX (bd t _ h);obtain⟨_,vs,a8,bH,_⟩:=aU.ok _ hm;obtain⟨v,ae,ao⟩:=bH.get aH;have br:=yp (P:=P) j1.h b off v w (by rw[jC a8];simpa using ae);refine yB (v:=v) ?_ ao fv;simp[qA,af,asAddr,br]
 | @x6 t ty n cs rs ys j1 h hn r fv=>
  have af:=bd t _ h;generalize hu:a.tmps.getD t undef=u at af;cases af with
  | ptr _ b o a1=>
   obtain⟨vs,ae,ao⟩:=(a1.take n).values;have hlen:vs.length=n:=by rw[ae.length,List.length_take];exact Nat.min_eq_left (Nat.le_of_ble_eq_true hn)
   have br:=BH (P:=P) j1.h b o vs w hlen ao;refine yB (v:=.agg vs.toArray) ?_ (.agg _ _ m2) fv;simp[qA,hu,asAddr,Sem.run_bind,Sem.run_pure,Result.andThen_ok,br]
 | @Ko t ty n cs z rs ys j1 h aH r fv=>
  have af:=bd t _ h;generalize hu:a.tmps.getD t undef=u at af;cases af with
  | ptr _ b o a1=>
   obtain⟨v,ae,_,ao⟩:=a1.get aH;have br:=yp (P:=P) j1.h b o v w m2;refine yB (v:=v) ?_ ao fv;simp[qA,hu,asAddr,Sem.run_bind,Sem.run_pure,Result.andThen_ok,br]
def iy:bl->ab
 | [x]=>x
 | xs=>.bk xs
def iq.res{c:Ctx}{P}{st:dU}{a:Act}{w}{I:cp}(t:a7 c.B I w st.H)(z:fM I w (aD st.env) a){fn:Func}{rs}(o:fn.results=rs.toArray){ys}(h:iq P st rs ys):
  ∃v,(results fn a.tmps).run P w= .ok v w/\Rel I w (iy ys) v:=by
 obtain⟨f,C,s⟩:=h.run t z;have E:(results fn a.tmps).run P w= .ok (if h:f.length=1 then f[0] else .tuple f.toArray) w:=by
  unfold Go.results;rw[o,List.mapM_toArray];simp only[Sem.run_bind,Sem.run_map];have j:∀g:ResultVar->Sem Value,(∀r,g r=qA a.tmps r)->(rs.mapM g).run P w= .ok f w:=λg D=>by rw[show g=qA a.tmps from funext D];exact C
  rw[j _ (λr=>by cases r <;> rfl)];simp
 refine⟨_,E,?_⟩;cases s with
 | nil=>exact .bk _ _ .nil
 | cons x v A f m l=>
  cases l with
  | nil=>simpa [iy] using m
  | cons y u A f q l=>exact .bk _ _ (.cons _ _ _ _ m (.cons _ _ _ _ q l))
section
variable{c:Ctx}{r:Option Nat}{P:Program}{ops:Array Oper}{l rest:cc}{o:Oper}{st:dU}{Q:Exit->Act->World->Prop}{x:ab}
def aZ.cg{fn}{B}{l}{g}{n}{r}{E}{rs}{ys q}{H'}(x:fn.results=rs.toArray)(h:iq P st rs ys)(j:c0 ys q)
  (D:H'.Sublist st.H) (f:r (iy q) H'):aZ ⟨B,l,g,n,[]⟩ st .ret (bodyPost P fn (e4 B l g r E)):=by
 intro a w s;obtain⟨I,G,J,t,C⟩:=s.mem;obtain⟨v,F,A⟩:=h.res (c:=⟨B,l,g,n,[]⟩) t C x;refine⟨s.ds,v,F,I,H',G,J,t.sub D,.inl ⟨v,_,rfl,?_,f⟩⟩;revert A;cases j with
 | nil=>exact id
 | cons o m=>
  cases m with
  | nil=>exact o _ _ _
  | cons z m=>exact an.bk (.cons o (.cons z m)) _ _ _
def aZ.nU{fn}{B}{l}{m}{n}{j}{E}{rs}{ys g}{H'}(o:fn.results=rs.toArray)(h:iq P st rs ys)(f:c0 ys g)
  (q:H'.Sublist st.H) (c:j (iy g) H'):aZ ⟨B,l,m,n,[]⟩ st .normal (bodyPost P fn (e4 B l m j E)):=
 λa w s=>aZ.cg o h f q c a w s
def BT(P:Program)(v:Value)(vs:dg)(w:World)(R:Ending->World->Prop):Prop:=
 (∃f jA hr,v= .func (.func f) jA hr/\m4 P f=true/\Calls P f (jA++vs.toArray++hr) w R)\/
 (∃l,v= .func (.yield l) #[] #[]/\YieldAt (bt none) 0 P l vs.toArray w R)
def eY(B:Nat)(P:Program)(g:ab)(xs:bl)(H:aA)(eu:ab->aA->Prop)(E:ab->aA->Prop):Prop:=
 ∀(I:cp) (w:World) (v:Value) (vs:dg),bV B I w->a7 B I w H->Rel I w g v->bQ I w xs vs->BT P v vs w (e4 B I w eu E)
def eY.fn{B}{f}{m xs cs}{H}{l}{E}(h:bO P f (m++xs++cs) H l E):eY B P (.fn (.func f) m cs) xs H l E:=by
 intro I w v j s q r g;cases r with
 | fn _ _ _ a c t o=>
  refine .inl ⟨f,a,c,rfl,h.1,?_⟩;have:=h.2 B I w (a.toList++j++c.toList) s q ((t.append g).append o);have e:(a.toList++j++c.toList).toArray=a++j.toArray++c:=by apply Array.ext';simp
  rwa [e] at this
def eK(B:Nat)(P:Program)(f:FuncId)(xs:bl)(H:aA)(eu:ab->aA->Prop)(E:ab->aA->Prop):Prop:=
 m4 P f=true/\∀(I:cp) (w:World) (vs:dg),bV B I w->a7 B I w H->bQ I w xs vs->Calls P f vs.toArray w (e4 B I w eu E)
def bO.b{B}{f}{xs}{H}{a}{E}(h:bO P f xs H a E):eK B P f xs H a E:=⟨h.1,h.2 B⟩
def eY.rU{B}{f}{m xs cs}{H}{l}{E}(h:eK B P f (m++xs++cs) H l E):eY B P (.fn (.func f) m cs) xs H l E:=by
 intro I w v j s q r g;cases r with
 | fn _ _ _ a c t o=>
  refine .inl ⟨f,a,c,rfl,h.1,?_⟩;have:=h.2 I w (a.toList++j++c.toList) s q ((t.append g).append o);have e:(a.toList++j++c.toList).toArray=a++j.toArray++c:=by apply Array.ext';simp
  rwa [e] at this
def eK.of{B}{f}{fn}{a}{xs}{H}{c}{E}{n}(b8:P.funcs[f]? =some fn)(a8:fn.body=some a)(rK:(fn.name== "runtime.NumGoroutine")=false)
  (hn:fn.ntmps=n) (q:Nat.ble xs.length n) (h:∀I w,aB ⟨B,I,w,n,[]⟩ none P a ⟨na 0 xs,H⟩ (bodyPost P fn (e4 B I w c E))):eK B P f xs H c E:=by
 refine⟨uk,λI w g r o j=>uv (n:=0) (callsIn_of_wp b8 a8 trivial ?_ rfl)⟩;refine h I w _ w ⟨rfl,?_,I,r,Ext.refl _ _ _,o,λt y hy=>?_⟩
 ·have:=j.length;have:=Nat.le_of_ble_eq_true q;simp;omega
 ·obtain⟨v,l,m⟩:=j.get ye;have:(g.toArray++Array.replicate (fn.ntmps - g.toArray.size) undef).getD t undef=v:=by
   have kT:=(List.getElem?_eq_some_iff.1 l).1;simp only[Array.getD_eq_getD_getElem?];rw[Array.getElem?_append_left wu];simp[l]
  rw[this];exact m
def LC{x}{args}{g}{l}(h:o.op= .call {callee:=.value x,args:=args,argTypes:=g})(a:Act)(w)
  (f:a.eval x= .func (.yield l) #[] #[]) {fn} {tmps} {assign c} (hy:(Instr.yield l (args.map a.eval)).run P w= .ok (.round l fn tmps assign c) w):
  (execOp a.eval o).run P w= .ok (.round l fn tmps assign c) w:=by
 simp[execOp,h,resolve,f,Deferred.ofValue,invoke,hy]
def aj.Fs{x}{args}{W}{U}{ys}{xs}{g}{J}{E}(S:o.guard=none)(a6:ix c.n o.dst)
  (h:o.op= .call {callee:=.value x,args:=args,argTypes:=W}) (D:aN (aD st.env) x=some (g,U)) (aw:g=true) (nV:jg (aD st.env) args.toList=some ys) (N:ys.all (·.1)=true) (L:c0 (ys.map (·.2)) xs)
  (bd:eY c.B P U xs st.H J E) (next:∀y m,J y m->aj c r P ops rest ⟨iK o.dst y st.env,m⟩ Q)
  (oP:∀y m,E y m->∀a w,Sat c ⟨st.env,m⟩ a w->∀I v,Rel I w y v->Q (.panic [{v,recovered:=false}]) a w):aj c r P ops (o::rest) st Q:=by
 intro a w s;refine wpListIn_plain S λK eX=>?_;obtain⟨I,Y,V,aU,z⟩:=s.mem;have ae:=(z.ops o).get gB D aw;have X:=L.rel (s3 (z.ops o) args.toList ys (λz Z=>by simp[h,Op.operands,Call.operands];right;simpa using Z) nV (by simpa using N));have M:dt P r o a w (λv q=>∃j m x,bV c.B j q/\Ext c.B I w j q/\a7 c.B j q m/\Rel j q x v/\J x m)
  (λch q=>∃j m v x,bV c.B j q/\Ext c.B I w j q/\a7 c.B j q m/\ch= [{v,recovered:=false}]/\Rel j q x v/\E x m):=by
  have F:∀e q,e4 c.B I w J E e q->match e with
    | .returned v=>∃j m x,bV c.B j q/\Ext c.B I w j q/\a7 c.B j q m/\Rel j q x v/\J x m
    | .panicked ch=>∃j m v x,bV c.B j q/\Ext c.B I w j q/\a7 c.B j q m/\ch= [{v,recovered:=false}]/\Rel j q x v/\E x m
    | .outgrown=>False:=by
   rintro e q ⟨j,m,C,t,A,⟨v,x,rfl,D,G⟩ | ⟨v,x,rfl,D,T⟩⟩
   ·exact⟨j,m,x,C,t,A,D,G⟩
   ·exact⟨j,m,v,x,C,t,A,rfl,D,T⟩
  rcases bd I w _ _ Y aU ae X with⟨f,jA,hr,bM,hL,nW⟩ | ⟨l,bM,fn,tmps,assign,body,hy,hR⟩
  ·refine .qu cf (Fe h hL a w bM) (by
    have O:(args.toList.map a.eval).toArray=args.map a.eval:=by apply Array.ext';simp
    rw[O] at nW;exact nW.mono F)
  ·have O:(args.toList.map a.eval).toArray=args.map a.eval:=by apply Array.ext';simp
   rw[O] at hy;exact .Le cf (LC h a w bM hy) (hR.mono F)
 refine M K Q ?_ ?_
 ·rintro v q ⟨j,m,x,C,t,A,D,G⟩;refine eX _ _ (next x m G _ _ ⟨iJ,iI,j,C,V.trans t,A,((z.bs t.keeps).put rI D)⟩)
 ·rintro ch q ⟨j,m,v,x,C,t,A,rfl,D,T⟩;exact oP x m T a q ⟨s.ds,s.size,j,C,V.trans t,A,z.bs t.keeps⟩ j v D
def a7.perm{B}{I}{w}{H H'}(h:a7 B I w H)(c:H.Perm H'):a7 B I w H':=
 ⟨λe j=>h.ok e (c.mem_iff.2 j),(c.pairwise_iff λ{x y} a b g f=>a b f g).1 h.apart⟩
def Sat.perm{a}{w}{H'}(s:Sat c st a w)(f:st.H.Perm H'):Sat c ⟨st.env,H'⟩ a w:=
 ⟨s.ds,s.size,let ⟨I,hw,aK,aU,bd⟩:=s.mem;⟨I,hw,aK,aU.perm f,bd⟩⟩
def aj.perm{H'}(f:st.H.Perm H')(h:aj c r P ops l ⟨st.env,H'⟩ Q):aj c r P ops l st Q:=λa w s=>h a w (s.perm f)
def aB.perm{p}{H'}(f:st.H.Perm H')(h:aB c r P p ⟨st.env,H'⟩ Q):aB c r P p st Q:=λa w s=>h a w (s.perm f)
def aZ.perm{e}{H'}(f:st.H.Perm H')(h:aZ c ⟨st.env,H'⟩ e Q):aZ c st e Q:=λa w s=>h a w (s.perm f)
def aj.kX{H'}(f:st.H=H')(h:aj c r P ops l ⟨st.env,H'⟩ Q):aj c r P ops l st Q:=λa w s=>h a w (f▸s)
end
end Go.Eng

