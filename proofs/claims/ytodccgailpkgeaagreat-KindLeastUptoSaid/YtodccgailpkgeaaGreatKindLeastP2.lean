/- Part 2 of the proof: contracts of functions of the program and what they need. No condition beyond those that each theorem names. -/
import Derived.Test.YtodccgailpkgeaaGreatKindLeastP1
import Derived.OrdersIn
import Derived.Deep.Upon
import Derived.RangeFuncBound
set_option maxHeartbeats 1000000
set_option linter.unusedVariables false
set_option linter.unusedSimpArgs false
set_option linter.unnecessarySimpa false
namespace Go.Eng
open Go.RowKit (Below)
def og(o:Oper):List Nat:=o.after.toList.filterMap λe=>if Region.binds .any e then some e.on else none
def MD(acc:List Nat)(o:Oper):Nat:=(og o).foldl (λs j=>s ||| 2^j ||| acc.getD j 0) 0
def h5:List Oper->List Nat->List Nat
 | [],acc=>acc
 | o::r,acc=>h5 r (acc++[MD acc o])
theorem ME(acc:List Nat):∀(l:List Nat) (s j:Nat),(l.foldl (λs j=>s ||| 2^j ||| acc.getD j 0) s).testBit j=true->s.testBit j=true\/∃k∈l,j=k\/(acc.getD k 0).testBit j=true
 | [],s,j,h=>.inl h
 | k::l,s,j,h=>by
  rcases ME acc l _ j h with h | ⟨cJ,ao,h⟩
  ·simp only[Nat.testBit_or,Bool.or_eq_true,Nat.testBit_two_pow,decide_eq_true_eq] at h;rcases h with (h | h) | h
   ·exact .inl h
   ·exact .inr ⟨k,bj,.inl h.symm⟩
   ·exact .inr ⟨k,bj,.inr h⟩
  ·exact .inr ⟨cJ,by simp[ao],h⟩
def Gg(ops:List Oper)(L:Nat->Prop):Prop:=∀i o,L i->ops[i]? =some o->∀j∈og o,L j
theorem MF(ops:List Oper)(L:Nat->Prop)(df:Gg ops L):∀(l:List Oper) (acc:List Nat),acc.length+l.length=ops.length->(∀k,l[k]? =ops[acc.length+k]?)->
  (∀(i m:Nat) (o:Oper),acc[i]? =some m->ops[i]? =some o->(∀k∈og o,L k)->∀j,m.testBit j=true->L j)->
  ∀(i m:Nat) (o:Oper),(h5 l acc)[i]? =some m->ops[i]? =some o->(∀k∈og o,L k)->∀j,m.testBit j=true->L j
 | [],acc,_,_,h=>h
 | o::l,acc,hlen,ax,h=>by
  refine MF ops L df l (acc++[MD acc o]) (by simp at hlen ⊢;omega) (λk=>?_) ?_
  ·have:=ax (k+1);simp at this;rw[this];congr 1;simp;omega
  ·intro i m o' av aA aN j aU;by_cases cO:i<acc.length
   ·rw[List.getElem?_append_left cO] at av;exact h i m o' av aA aN j aU
   ·have kP:i=acc.length:=by
     have:=(List.getElem?_eq_some_iff.1 av).1;simp at this;omega
    subst kP;rw[List.getElem?_append_right (Nat.le_refl _)] at av;simp at av;subst av;have iJ:o'=o:=by
     have az:=ax 0;simp at az;rw[<-az] at aA;exact (Option.some.inj aA).symm
    subst iJ;rcases ME acc (og o') 0 j aU with ai | ⟨k,ao,ai⟩
    ·simp at ai
    ·rcases ai with rfl | ai
     ·exact aN j ao
     ·cases hak:acc[k]? with
      | none=>simp[List.getD,hak] at ai
      | some mk=>
       simp[List.getD,hak] at ai;have dP:=(List.getElem?_eq_some_iff.1 hak).1;have cA:∃ok,ops[k]? =some ok:=⟨ops[k]'ad,List.getElem?_eq_getElem ad⟩;obtain⟨ok,cA⟩:=cA;exact h k mk ok hak cA (λcJ h6=>df k ok (aN k ao) cA cJ h6) j ai
def looks(ops:List Oper)(o:Oper):List Nat:=
 (o.op.operands.toList.filterMap λ| .tmp t=>some t | _=>none)++(match o.guard with | some (g,_)=>((ops[g]?).bind (·.dst)).toList | none=>[])
theorem xS{α:Type}{l:List α}{i:Nat}{x:α}(h:l[i]? =some x):(x,i)∈l.zipIdx:=by
 rw[List.mem_zipIdx_iff_getElem?];exact h
def zC(P:Program)(H:List aj)(ops:List Oper)(env:List (Nat×aa))(o:Oper)(y:aa):Prop:=
 (o.guard=none/\af P H (aX env) o y)\/
 (∃j want d G x,o.guard=some (j,want)/\(ops[j]?).bind (·.dst)=some d/\pR (aX env d) want=some G/\(G=true->af P H (aX env) o x)/\y= .opt G x)
def bU(P:Program)(H:List aj)(ops:List Oper)(n:Nat):List Oper->List (Nat×aa)->(List (Nat×aa)->Prop)->Prop
 | [],env,K=>K env
 | o::rest,env,K=>∃x,zC P H ops env o x/\jt n o.dst=true/\bU P H ops n rest (jN o.dst x env) K
def mu:List (Nat×aa)->List Oper->List aa->List (Nat×aa)
 | env,o::r,x::xs=>mu (jN o.dst x env) r xs
 | env,_,_=>env
theorem MG{dst:Option Nat}{x:aa}{env:List (Nat×aa)}{t:Nat}:aX (jN dst x env) t=if dst=some t then some x else aX env t:=by
 cases dst with
 | none=>simp[jN]
 | some d=>
  simp only[jN,l0,Option.some.injEq];by_cases h:t=d
  ·subst h;simp
  ·rw[if_neg h,if_neg (Ne.symm h)]
theorem zD:∀(l:List Oper) (xs:List aa) (env:List (Nat×aa)) (t:Nat),(∀(i:Nat) (o:Oper),l[i]? =some o->o.dst≠some t)->aX (mu env l xs) t=aX env t
 | [],_,_,_,_=>by simp[mu]
 | o::l,[],_,_,_=>by simp[mu]
 | o::l,x::xs,env,t,h=>by
  rw[mu,zD l xs _ t (λi o' iJ=>h (i+1) o' (by simpa using iJ)),MG,if_neg (h 0 o bj)]
theorem MH:∀(l:List Oper) (xs:List aa) (env:List (Nat×aa)) (i t:Nat) (o:Oper) (x:aa),l[i]? =some o->xs[i]? =some x->o.dst=some t->(∀j o',l[j]? =some o'->o'.dst=some t->j=i)->aX (mu env l xs) t=some x
 | [],_,_,i,_,_,_,h,_,_,_=>by simp at h
 | o::l,[],_,i,_,_,_,_,h,_,_=>by simp at h
 | o::l,y::xs,env,0,t,o',x,aA,ag,aN,hu=>by
  simp at aA ag;subst aA;subst ag;rw[mu,zD l xs _ t (λi o' iJ e=>by have:=hu (i+1) o' (by simpa using iJ) e;omega),MG,if_pos aN]
 | o::l,y::xs,env,i+1,t,o',x,aA,ag,aN,hu=>by
  rw[mu];exact MH l xs _ i t o' x (by simpa using aA) (by simpa using ag) aN (λj c7 ae e=>by have:=hu (j+1) c7 xM e;omega)
theorem MI:∀(i:Nat) (l:List Oper) (xs:List aa) (env:List (Nat×aa)),xs.length=l.length->mu env l xs=mu (mu env (l.take i) (xs.take i)) (l.drop i) (xs.drop i)
 | 0,l,xs,env,_=>by simp[mu]
 | i+1,[],xs,env,h=>by simp[mu]
 | i+1,o::l,[],env,h=>by simp at h
 | i+1,o::l,x::xs,env,h=>by
  simp only[List.take_succ_cons,List.drop_succ_cons,mu];exact MI i l xs _ h3
theorem af.congr{P:Program}{H:List aj}{ρ gN:Nat->Option aa}{o:Oper}{x:aa}(h:af P H ρ o x)(he:∀t,.tmp t∈o.op.operands.toList->ρ t=gN t):af P H gN o x:=by
 intro B I w r a eo hw az aH aA;refine h B I w r a eo hw az aH (λy hy z an=>aA y hy z ?_);cases y with
 | tmp t=>rw[<-an];exact (he t (by simpa using hy)).symm
 | _=>exact an
theorem MJ{l:List Oper}{o:Oper}{t:Nat}(h: .tmp t∈o.op.operands.toList):t∈looks l o:=
 List.mem_append_left _ (List.mem_filterMap.2 ⟨.tmp t,h,rfl⟩)
theorem zC.run{c:Ctx}{r:Option Nat}{P:Program}{l:List Oper}{H:List aj}{env:List (Nat×aa)}{o:Oper}{y:aa}{Q:Exit->Act->World->Prop}(h:zC P H l env o y){i:Nat}(av:l[i]? =some o)
  {a:Act} {w:World} {I:a8} (hw:ck c.B I w) (az:br c.B I w H) (aC:∀t∈looks l o,∀z,aX env t=some z->Rel I w z (a.tmps.getD t undef)) (hn:∀t∈looks l o,t<a.tmps.size)
  {K:Act->World->Prop} (ca:∀v w' aQ,ck c.B aQ w'->Ext c.B I w aQ w'->br c.B aQ w' H->Rel aQ w' y v->K (a.put o.dst v) w'):wpOpIn (bb r) 0 P l.toArray Q i K a w:=by
 have oh:gi I w (aX env) a o:=λx ag z an=>by
  cases x with
  | tmp t=>exact aC t (MJ (by simpa using ag)) z an
  | const v=>simp[kO] at an;subst an;exact F7 v
  | global g=>simp[kO] at an;subst an;exact .val _
  | func f=>simp[kO] at an;subst an;exact .fn _ _ _ _ _ .nil .nil
 have V2:l.toArray[i]? =some o:=by simpa using av
 unfold wpOpIn;simp only[V2];rcases h with⟨al,aB⟩ | ⟨j,want,d,G,x,al,aU,c8,aB,rfl⟩
 ·have nv:Region.wanted o (yielded l.toArray a.tmps)=true:=by simp[Region.wanted,al]
  rw[if_pos nv];exact aB c.B I w r a H hw az (λ_ x=>x) oh K Q (λv w' ⟨aQ,ab,ae,aD,aV⟩=>ca v w' aQ ab ae aD aV) (λ_ _ h=>h.elim)
 ·have tP:d∈looks l o:=List.mem_append_right _ (by simp[al,aU]);have nv:=F8 (ops:=l.toArray) (I:=I) (w:=w) (a:=a) (o:=o) (j:=j) (d:=d) (y:=aX env d) (by simpa using aU) al (λz an=>aC d tP z an) c8 (hn d tP);rw[nv];cases G with
  | true=>
   rw[if_pos rfl];exact aB rfl c.B I w r a H hw az (λ_ x=>x) oh K Q (λv w' ⟨aQ,ab,ae,aD,aV⟩=>ca v w' aQ ab ae aD (.opt _ _ _ (λ_=>aV) (λe=>by cases e))) (λ_ _ h=>h.elim)
  | false=>
   rw[if_neg bj];exact⟨λ_ _=>trivial,ca undef w I hw (Ext.refl _ _ _) az (.opt _ _ _ (λe=>by cases e) (λ_=>rfl))⟩
theorem sB(dM:Array Bool)(i j:Nat)(h:i<dM.size):(dM.setIfInBounds i true).getD j false=if i=j then true else dM.getD j false:=by
 by_cases e:i=j
 ·subst e;simp[Array.getD,h]
 ·rw[if_neg e];exact getD_set_ne false e
theorem Gh{dM:Array Bool}{j:Nat}(h:j<dM.size)(d:Bool):dM.getD j d=dM.getD j false:=by
 simp[Array.getD,h]
theorem bU.nil{P:Program}{H:List aj}{ops:List Oper}{n:Nat}{env:List (Nat×aa)}{K:List (Nat×aa)->Prop}(h:K env):bU P H ops n [] env K:=h
theorem bU.pop{P:Program}{H:List aj}{ops:List Oper}{n:Nat}{env:List (Nat×aa)}{K:List (Nat×aa)->Prop}{o:Oper}{rest:List Oper}{x:aa}(al:o.guard=none)(aN:jt n o.dst=true)(h:af P H (aX env) o x)
  (next:bU P H ops n rest (jN o.dst x env) K):bU P H ops n (o::rest) env K:=⟨x,.inl ⟨al,h⟩,aN,next⟩
theorem bU.guarded{P:Program}{H:List aj}{ops:List Oper}{n:Nat}{env:List (Nat×aa)}{K:List (Nat×aa)->Prop}{o:Oper}{rest:List Oper}{x:aa}{j d:Nat}{want G:Bool}(al:o.guard=some (j,want))(aU:(ops[j]?).bind (·.dst)=some d)
  (c8:pR (aX env d) want=some G) (aN:jt n o.dst=true) (h:G=true->af P H (aX env) o x) (next:bU P H ops n rest (jN o.dst (.opt G x) env) K):bU P H ops n (o::rest) env K:=
 ⟨.opt G x,.inr ⟨j,want,d,G,x,al,aU,c8,h,rfl⟩,aN,next⟩
class dy (P:Program) (t:Nat) (x:outParam (Bool×Nat)):Prop where h:oT P t=some x
class c9 (P:Program) (t f:Nat) (x:outParam Nat):Prop where h:zw P t f=some x
class ft (P:Program) (t:Nat) (x:outParam Nat):Prop where h:ry P t=some x
class vu (P:Program) (t:Nat) (x:outParam (Nat×Nat)):Prop where h:vq P t=some x
class hr (P:Program) (t:Nat) (x:outParam (List Value)):Prop where h:zeroCells P t=some x
class Gi (P:Program) (t:Nat):Prop where h:P.underlying t=some .bool
class sC (P:Program) (t:Nat) (k:outParam IntKind):Prop where h:P.underlying t=some (.int k)
class qy {α:Type} (F:List α->List (List aa)) (enc:outParam (α->List aa)):Prop where h:∀l,F l=l.map enc
instance{α:Type}(enc:α->List aa):qy (List.map enc) enc:=⟨λ_=>rfl⟩
theorem xT{P:Program}{t k:Nat}(h:ry P t=some k):qv P t=true:=by
 obtain⟨e,i,hu,_⟩:=pU h;simp[qv,hu]
section
variable{P:Program}{H:List aj}{ρ:Nat->Option aa}{o:Oper}
theorem af.LJ{x:Operand}{t:TypeId}{k cJ:Nat}{els:List (List aa)}{g:Bool}[ht:ft P t cJ](h:o.op= .call {callee:=.builtin .len,args:=#[x],argTypes:=#[t]})(ag:bf ρ x=some (g,.aF k els))(al:g=true):af P H ρ o (.i els.length):=
 .len h ag al (xT ht.h)
theorem af.sm{α:Type}{F:List α->List (List aa)}{enc:α->List aa}{l:List α}{x:Operand}{t:TypeId}{k cJ:Nat}{g:Bool}[ht:ft P t cJ][hF:qy F enc](h:o.op= .call {callee:=.builtin .len,args:=#[x],argTypes:=#[t]})(ag:bf ρ x=some (g,.aF k (F l)))(al:g=true):af P H ρ o (.i l.length):=by
 rw[hF.h] at ag;have:=af.len (H:=H) h ag al (xT ht.h);rw[List.length_map] at this;exact this
theorem af.LI{x:Operand}{t:TypeId}{k cJ:Nat}{els:List (List aa)}{v:Value}{g:Bool}[ht:ft P t cJ](h:o.op= .call {callee:=.builtin .len,args:=#[x],argTypes:=#[t]})(ag:bf ρ x=some (g,.as (.aF k els) v))(al:g=true):af P H ρ o (.i els.length):=
 .VM h ag al (xT ht.h)
theorem af.Cv{x:Operand}{t:TypeId}{cJ:Nat}{a:Option Addr}{n c:Nat}{g:Bool}[ht:ft P t cJ](h:o.op= .call {callee:=.builtin .len,args:=#[x],argTypes:=#[t]})(ag:bf ρ x=some (g,.val (.slice a n c)))(al:g=true):af P H ρ o (.i n):=
 .VN h ag al (xT ht.h)
theorem af.iQ{α:Type}[Inhabited α]{F:List α->List (List aa)}{enc:α->List aa}{l:List α}{t:TypeId}{x y:Operand}{k:Nat}{dV:IntKind}{i:Nat}{cC cR:Bool}[ht:ft P t k][hF:qy F enc](h:o.op= .indexAddr t x y)(ag:bf ρ x=some (cC,.aF k (F l)))(dG:cC=true)
  (hy:bf ρ y=some (cR,.val (.int dV (i:Int)))) (dX:cR=true) (ai:i<l.length):af P H ρ o (.ptr (enc (l.getD i default))):=
 .VO h (by rw[hF.h] at ag;exact ag) hy dG dX ht.h ai
theorem af.h1{α:Type}[Inhabited α]{F:List α->List (List aa)}{enc:α->List aa}{l:List α}{t:TypeId}{x y:Operand}{k:Nat}{dV:IntKind}{i:Int}{cC cR:Bool}[ht:ft P t k][hF:qy F enc](h:o.op= .indexAddr t x y)(ag:bf ρ x=some (cC,.aF k (F l)))(dG:cC=true)
  (hy:bf ρ y=some (cR,.val (.int dV i))) (dX:cR=true) (ai:0<=i/\i<l.length):af P H ρ o (.ptr (enc (l.getD i.toNat default))):=
 .VP h (by rw[hF.h] at ag;exact ag) hy dG dX ht.h ai.1 ai.2
theorem af.zi{t:TypeId}{x:Operand}{cs:List aa}{n:Nat}{g:Bool}[ht:dy P t (true,n)](h:o.op= .load t x)(ag:bf ρ x=some (g,.ptr cs))(al:g=true)(hn:Nat.ble n cs.length=true):af P H ρ o (.agg (cs.take n)):=.VS h ag al ht.h hn
theorem af.eN{t:TypeId}{x:Operand}{cs:List aa}{y:aa}{n:Nat}{g:Bool}[ht:dy P t (false,n)](h:o.op= .load t x)(ag:bf ρ x=some (g,.ptr cs))(al:g=true)(hn:cs[0]? =some y):af P H ρ o y:=.VT h ag al ht.h hn
theorem af.Cr{t tb:TypeId}{x:Operand}{b off:Nat}{cs ys:List aa}{n:Nat}{g:Bool}[ht:dy P t (true,n)](h:o.op= .load t x)(ag:bf ρ x=some (g,.p b off))(al:g=true)(hm:aj.aI b tb cs∈H)(hy:(cs.drop off).take n=ys)(hn:Nat.beq ys.length n=true):af P H ρ o (.agg ys):=.VU h ag al hm ht.h hy hn
theorem af.lr{t tb:TypeId}{x:Operand}{b off:Nat}{cs:List aa}{y:aa}{n:Nat}{g:Bool}[ht:dy P t (false,n)](h:o.op= .load t x)(ag:bf ρ x=some (g,.p b off))(al:g=true)(hm:aj.aI b tb cs∈H)(hy:cs[off]? =some y):af P H ρ o y:=.VV h ag al hm ht.h hy
theorem af.FQ{t:TypeId}{x:Operand}{f off b o' d:Nat}{g:Bool}[aP:c9 P t f off](h:o.op= .fieldAddr t x f)(ag:bf ρ x=some (g,.p b o'))(al:g=true)(aN:o'+off=d):af P H ρ o (.p b d):=aN▸ .field h ag al aP.h
theorem af.FR{t:TypeId}{x:Operand}{f off:Nat}{cs ys:List aa}{g:Bool}[aP:c9 P t f off](h:o.op= .fieldAddr t x f)(ag:bf ρ x=some (g,.ptr cs))(al:g=true)(aN:cs.drop off=ys):af P H ρ o (.ptr ys):=aN▸ .VW h ag al aP.h
theorem af.CB{t:TypeId}{x y:Operand}{b o' n k:Nat}{dV:IntKind}{i:Int}{cC cR:Bool}[ht:vu P t (n,k)](h:o.op= .indexAddr t x y)(ag:bf ρ x=some (cC,.p b o'))(dG:cC=true)(hy:bf ρ y=some (cR,.val (.int dV i)))(dX:cR=true)(ai:0<=i/\i<n):
  af P H ρ o (.p b (o'+i.toNat*k)):=.VX h ag hy dG dX ht.h ai.1 ai.2
theorem af.CC{t:TypeId}{x y:Operand}{cs:List aa}{n k:Nat}{dV:IntKind}{i:Int}{cC cR:Bool}[ht:vu P t (n,k)](h:o.op= .indexAddr t x y)(ag:bf ρ x=some (cC,.ptr cs))(dG:cC=true)(hy:bf ρ y=some (cR,.val (.int dV i)))(dX:cR=true)(ai:0<=i/\i<n):
  af P H ρ o (.ptr (cs.drop (i.toNat*k))):=.VY h ag hy dG dX ht.h ai.1 ai.2
theorem af.MK{op:BinOp}{t dR:TypeId}{x y:Operand}{a b:Bool}{cC cR:Bool}[ht:Gi P t](h:o.op= .binOp .eql t x y dR)(ag:bf ρ x=some (cC,.b a))(dG:cC=true)(hy:bf ρ y=some (cR,.b b))(dX:cR=true):af P H ρ o (.b (a==b)):=.tO h ag hy dG dX ht.h (.inl ⟨rfl,rfl⟩)
theorem af.ML{op:BinOp}{t dR:TypeId}{x y:Operand}{a b:Bool}{cC cR:Bool}[ht:Gi P t](h:o.op= .binOp .neq t x y dR)(ag:bf ρ x=some (cC,.b a))(dG:cC=true)(hy:bf ρ y=some (cR,.b b))(dX:cR=true):af P H ρ o (.b (a !=b)):=.tO h ag hy dG dX ht.h (.inr ⟨rfl,rfl⟩)
theorem af.zE{s d:TypeId}{x:Operand}{k bc fc:IntKind}{n m:Int}{g:Bool}[aH:sC P s bc][aN:sC P d fc](h:o.op= .convert s d x)(ag:bf ρ x=some (g,.val (.int k n)))(al:g=true)(hw:fc.wrap n=m):af P H ρ o (.val (.int fc m)):=.VZ h ag al (by rw[aH.h];rfl) aN.h hw
theorem af.V3{t:TypeId}{x:Operand}{j4 av:Option Operand}{k:Nat}{els:List (List aa)}{l n:Nat}{cC gl gh:Bool}{kl kh:IntKind}[ht:ft P t k](h:o.op= .slice t x j4 av none)(ag:bf ρ x=some (cC,.aF k els))(dG:cC=true)
  (oS:match j4 with | none=>l=0 | some y=>bf ρ y=some (gl,.val (.int kl (l:Int)))) (ly:gl=true) (mW:match av with | none=>n=els.length | some y=>bf ρ y=some (gh,.val (.int kh (n:Int)))) (qw:gh=true)
  (ab:l<=n/\n<=els.length):af P H ρ o (.aF k ((els.take n).drop l)):=.slice h ag dG oS ly mW qw ht.h ab.1 ab.2
end
section
variable{c:Ctx}{r:Option Nat}{P:Program}{ops:Array Oper}{l rest:List Oper}{o:Oper}{st:dn}{Q:Exit->Act->World->Prop}{x:aa}
theorem au.mX{t:TypeId}{bY:List Value}[an:hr P t bY](cU:o.guard=none)(aN:jt c.n o.dst=true)(h:o.op= .alloc t)
  (next:∀b,au c r P ops rest ⟨jN o.dst (.p b 0) st.env,.aI b t (bY.map .val)::st.H⟩ Q):au c r P ops (o::rest) st Q:=au.alloc cU aN h an.h next
theorem au.zF{t tb:TypeId}{p z:Operand}{y:aa}{l3 g:Bool}{b off n:Nat}{cs ds:List aa}{H':List aj}{agg:Bool}[ht:dy P t (agg,n)](cU:o.guard=none)(aN:jt c.n o.dst=true)(h:o.op= .store t p z)
  (aB:bf (aX st.env) p=some (l3,.p b off)) (oU:l3=true) (an:bf (aX st.env) z=some (g,y)) (al:g=true) (aw:ha y=true) (ab:eG (dq y)=true)
  (hn:Nat.beq (dq y).length n=true) (hu:bu st.H (.aI b tb cs) (.aI b tb ds) H') (hfit:Nat.ble (off+n) cs.length=true) (hds:cs.take off++dq y++cs.drop (off+n)=ds)
  (next:au c r P ops rest ⟨jN o.dst .any st.env,H'⟩ Q):au c r P ops (o::rest) st Q:=by
 have CV:=Nat.eq_of_beq_eq_true hn;subst hds;subst CV;exact au.store cU aN h aB oU an al aw ab ht.h hfit hu next
theorem aq.cut{ι:Type}(inv:ι->dn){p q:Code}(h:aq c r P p st (Exit.then (λa w=>∃i,Sat c (inv i) a w) Q))(bd:∀i,aq c r P q (inv i) Q):aq c r P (.seq p q) st Q:=by
 intro a w s;refine wpIn_seq (wpIn_mono (h a w s) λe a w az=>?_);cases e with
 | normal=>obtain⟨i,av⟩:=az;exact bd i a w av
 | _=>exact az
theorem aR.cut{ι:Type}{inv:ι->dn}(i:ι)(he:mV (inv i).env st.env)(b0:(inv i).H.Sublist st.H):aR c st .normal (Exit.then (λa w=>∃i,Sat c (inv i) a w) Q):=
 λa w s=>⟨i,s.weaken (j3 he) b0⟩
theorem aq.bound{p:Code}{t k:Nat}{els:List (List aa)}(ht:aX st.env t=some (.aF k els))(h:els.length<=maxLen->aq c r P p st Q):aq c r P p st Q:=by
 intro a w s;refine h ?_ a w s;obtain⟨I,hw,he,az,aC⟩:=s.mem;have ai:=aC t _ ht;generalize a.tmps.getD t undef=u at ai;cases ai with
 | eP=>simp
 | aF k els b off len cap ax ak hm h=>omega
theorem aq.fi{α:Type}{F:List α->List (List aa)}{enc:α->List aa}[hF:qy F enc]{xs:List α}{p:Code}{t k:Nat}(ht:aX st.env t=some (.aF k (F xs)))(h:xs.length<=9223372036854775807->aq c r P p st Q):aq c r P p st Q:=
 aq.bound ht λaw=>h (by rw[hF.h,List.length_map] at aw;simpa [maxLen] using aw)
theorem aq.MM(J:Nat->dn->Prop){p:Code}(ai:∃m st',J m st'/\mV st'.env st.env/\st'.H.Sublist st.H)
  (round:∀m st',J m st'->aq c r P p st' (Exit.then (λa w=>∃hs j5,hs<m/\J hs j5/\Sat c j5 a w) Q)):aq c r P (.loop p) st Q:=by
 obtain⟨m,st',bF,he,b0⟩:=ai;refine aq.loop (ι:={x:Nat×dn // J x.1 x.2}) (λi=>i.1.2) (λi=>i.1.1) ⟨(m,st'),bF⟩ he b0 λ⟨⟨m,st'⟩,bF⟩ a w s=>?_;refine wpIn_mono (round m st' bF a w s) λe a w az=>?_;cases e with
 | normal=>obtain⟨hs,j5,ab,ae,aD⟩:=az;exact⟨⟨(hs,j5),ae⟩,ab,aD⟩
 | _=>exact az
theorem aR.V4{J:Nat->dn->Prop}{m hs:Nat}{st':dn}(bF:J hs st')(hm:hs<m)(he:mV st'.env st.env)(b0:st'.H.Sublist st.H):
  aR c st .normal (Exit.then (λa w=>∃hs j5,hs<m/\J hs j5/\Sat c j5 a w) Q):=
 λa w s=>⟨hs,st',hm,bF,s.weaken (j3 he) b0⟩
theorem aq.oV(J:dn->Prop){p q:Code}(h:aq c r P p st (Exit.then (λa w=>∃st',J st'/\Sat c st' a w) Q))(bd:∀st',J st'->aq c r P q st' Q):aq c r P (.seq p q) st Q:=by
 intro a w s;refine wpIn_seq (wpIn_mono (h a w s) λe a w az=>?_);cases e with
 | normal=>obtain⟨i,av,aH⟩:=az;exact bd i av a w aH
 | _=>exact az
theorem aR.oV{J:dn->Prop}{st':dn}(bF:J st')(he:mV st'.env st.env)(b0:st'.H.Sublist st.H):aR c st .normal (Exit.then (λa w=>∃st',J st'/\Sat c st' a w) Q):=
 λa w s=>⟨st',bF,s.weaken (j3 he) b0⟩
end
def oi:Nat->List aa->List (Nat×aa)
 | _,[]=>[]
 | i,x::xs=>(i,x)::oi (i+1) xs
theorem F1:∀(xs:List aa) (i t:Nat) (y:aa),aX (oi i xs) t=some y->i<=t/\xs[t - i]? =some y
 | [],i,t,y,h=>by simp[oi,aX] at h
 | x::xs,i,t,y,h=>by
  rw[oi,l0] at h;split at h
  ·rename_i e;subst e;simp at h;subst h;simp
  ·rename_i e;obtain⟨ab,ae⟩:=F1 xs (i+1) t y h;refine⟨ad,?_⟩;have a6:t - i=(t - (i+1))+1:=by omega
   rw[a6];simpa using ae
theorem b1.mk'{P:Program}{f:FuncId}{fn:Func}{code:Code}{xs:List aa}{H:List aj}{bw:aa->List aj->Prop}{E:aa->List aj->Prop}{n:Nat}(aP:P.funcs[f]? =some fn)(aw:fn.body=some code)(qp:(fn.name== "runtime.NumGoroutine")=false)
  (hn:fn.ntmps=n) (ax:Nat.ble xs.length n=true) (h:∀B I w,aq ⟨B,I,w,n,[]⟩ none P code ⟨oi 0 xs,H⟩ (bodyPost P fn (fD B I w bw E))):b1 P f xs H bw E:=
 b1.of aP aw qp hn (oi 0 xs) (λt y hy=>by have:=(F1 xs 0 t y hy).2;simpa using this) (Nat.le_of_ble_eq_true ax) h
theorem b1.qz{P:Program}{f:FuncId}{xs:List aa}{H:List aj}{bw jd:aa->List aj->Prop}{E k9:aa->List aj->Prop}(h:b1 P f xs H bw E)(ab:∀x H,bw x H->jd x H)(ae:∀x H,E x H->k9 x H):b1 P f xs H jd k9:=
 ⟨h.1,λB I w vs hw az aC=>(h.2 B I w vs hw az aC).mono λe w' ⟨aQ,H',a,b,d,aK⟩=>⟨aQ,H',a,b,d,aK.elim (λ⟨v,x,a6,aW,cN⟩=>.inl ⟨v,x,a6,aW,ab _ _ cN⟩) (λ⟨v,x,a6,aW,cN⟩=>.inr ⟨v,x,a6,aW,ae _ _ cN⟩)⟩⟩
def aL(x y:aa):Prop:=∀I w v,Rel I w x v->Rel I w y v
inductive bO:List aa->List aa->Prop
 | nil:bO [] []
 | cons {x y:aa} {xs ys:List aa} (h:aL x y) (t:bO xs ys):bO (x::xs) (y::ys)
theorem aL.refl(x:aa):aL x x:=λ_ _ _ h=>h
theorem aL.trans{x y z:aa}(h:aL x y)(cf:aL y z):aL x z:=λI w v r=>cf I w v (h I w v r)
theorem aL.nil(k:Nat):aL (.val (.slice none 0 0)) (.aF k []):=λI w v h=>by cases h;exact .eP _ _ _
theorem aL.empty(k:Nat)(a:Option Addr)(c:Nat):aL (.val (.slice a 0 c)) (.aF k []):=λI w v h=>by cases h;exact .eP _ _ _
theorem aL.gF(k:Nat):aL .gF (.aF k []):=λI w v h=>by cases h;exact .eP _ _ _
theorem aL.V5:aL (.val (.slice none 0 0)) .gF:=λI w v h=>by cases h;exact .gF _
theorem aL.hb(x:aa)(v:Value):aL (.as x v) x:=λI w u h=>by cases h;assumption
theorem aL.one{x:aa}(aw:ha x=true)(ag:∀cs,x≠ .agg cs):aL x .one:=λI w v h=>.single _ (h.one aw ag)
theorem aL.any(x:aa):aL x .any:=λ_ _ _ _=>.any _
theorem bO.rel{I:a8}{w:World}:∀{xs ys:List aa} {vs:List Value},bO xs ys->bZ I w xs vs->bZ I w ys vs
 | _,_,_,.nil,h=>h
 | _,_,_,.cons h t,.cons _ _ _ _ ag ht=>.cons _ _ _ _ (h _ _ _ ag) (bO.rel t ht)
theorem bO.refl:∀xs:List aa,bO xs xs
 | []=>.nil
 | _::xs=>.cons (.refl _) (bO.refl xs)
theorem bO.length{xs ys:List aa}(h:bO xs ys):ys.length=xs.length:=by
 induction h with
 | nil=>rfl
 | cons _ _ bm=>simp[bm]
theorem aL.agg{xs ys:List aa}(h:bO xs ys):aL (.agg xs) (.agg ys):=λI w v r=>by cases r;exact .agg _ _ (h.rel tK)
theorem aL.bJ{xs ys:List aa}(h:bO xs ys):aL (.bJ xs) (.bJ ys):=λI w v r=>by cases r;exact .bJ _ _ (h.rel tK)
theorem aL.fn{f:Fn}{bM MN cs tQ:List aa}(h:bO bM MN)(cf:bO cs tQ):aL (.fn f bM cs) (.fn f MN tQ):=λI w v r=>by cases r;exact .fn _ _ _ _ _ (h.rel tK) (cf.rel tK)
theorem aL.iface{t:TypeId}{x y:aa}(h:aL x y):aL (.iface t x) (.iface t y):=λI w v r=>by cases r;exact .iface _ _ _ (h _ _ _ tK)
theorem bO.cells{I:a8}{w:World}{b:Nat}:∀{o:Nat} {xs ys:List aa},bO xs ys->Cells I w b o xs->Cells I w b o ys
 | _,_,_,.nil,h=>h
 | _,_,_,.cons h t,.cons _ _ _ c _ ak b4 ag ht=>.cons _ _ _ c _ ak b4 (h _ _ _ ag) (bO.cells t ht)
theorem aL.ptr{xs ys:List aa}(h:bO xs ys):aL (.ptr xs) (.ptr ys):=λI w v r=>by cases r;exact .ptr _ _ _ (h.cells tK)
inductive oW:List (List aa)->List (List aa)->Prop
 | nil:oW [] []
 | cons {x y:List aa} {xs ys:List (List aa)} (h:bO x y) (t:oW xs ys):oW (x::xs) (y::ys)
theorem oW.refl:∀xs:List (List aa),oW xs xs
 | []=>.nil
 | _::xs=>.cons (.refl _) (oW.refl xs)
theorem oW.length{xs ys:List (List aa)}(h:oW xs ys):ys.length=xs.length:=by
 induction h with
 | nil=>rfl
 | cons _ _ bm=>simp[bm]
theorem oW.els{I:a8}{w:World}{k b:Nat}:∀{o:Nat} {xs ys:List (List aa)},oW xs ys->fX I w k b o xs->fX I w k b o ys
 | _,_,_,.nil,h=>h
 | _,_,_,.cons h t,.cons _ _ _ _ _ ao ak ht=>.cons _ _ _ _ _ (by rw[h.length];exact ao) (h.cells ak) (oW.els t ht)
theorem aL.aF{k:Nat}{xs ys:List (List aa)}(h:oW xs ys):aL (.aF k xs) (.aF k ys):=λI w v r=>by
 cases r with
 | eP=>cases h;exact .eP _ _ _
 | aF _ _ b off len cap ax ak hm he=>exact .aF _ _ _ _ _ _ (by rw[h.length];exact ax) ak hm (h.els he)
section
variable{P:Program}{H:List aj}{ρ:Nat->Option aa}{o:Oper}
theorem af.le{x y:aa}(h:af P H ρ o x)(hle:aL x y):af P H ρ o y:=by
 intro B I w r a eo hw az aH aA;exact (h B I w r a eo hw az aH aA).mono (λv w' ⟨aQ,ab,ae,aD,aV⟩=>⟨aQ,ab,ae,aD,hle _ _ _ aV⟩) (λ_ _ h=>h)
theorem gZ.le{f:FuncId}{xs ys:List aa}(h:gZ P ρ o f xs)(hle:bO xs ys):gZ P ρ o f ys:=
 ⟨λI w a aA=>let ⟨vs,ab,ae⟩:=h.run I w a aA;⟨vs,hle.rel ab,ae⟩,h.rA⟩
theorem af.vv{f:FuncId}{xs ys:List aa}{y:aa}(ak:gZ P ρ o f xs)(hle:bO xs ys)(h:ba P f ys y):af P H ρ o y:=af.call (ak.le hle) h
theorem af.MO{t:TypeId}{z:Operand}{y:aa}{g:Bool}(h:o.op= .box t z)(an:bf ρ z=some (g,y))(al:g=true)(aw:ha y=true):af P H ρ o (.ptr (dq y)):=by
 intro B I w r a eo hw az _ aA;have ab:=xR (aA.get cx an al) aw;obtain⟨cI,a2,a3,a4⟩:=a8.vj hw t (a.eval z).cells;refine cM.fN (v:=.pointer (some ⟨w.heap.size,0,none⟩)) (w':=w.alloc (.cells (a.eval z).cells t)) cB F4 ⟨_,cI,a2,a3 _ az,.ptr _ _ _ (a4 _ ab)⟩
theorem MP:∀(news:List Value) (off j:Nat) (cells:Array Value),off+j+news.length<=cells.size->
  (news.zipIdx j).foldl (λ(cs:Array Value) (x:Value×Nat)=>cs.setIfInBounds (off+x.2) x.1) cells=(cells.toList.take (off+j)++news++cells.toList.drop (off+j+news.length)).toArray
 | [],off,j,cells,h=>by simp
 | v::news,off,j,cells,h=>by
  simp only[List.length_cons] at h;rw[List.zipIdx_cons,List.foldl_cons,MP news off (j+1) _ dj];congr 1;have cO:off+j<cells.toList.length:=by simp;omega
  simp only[Array.toList_setIfInBounds];have a6:off+(j+1)=off+j+1:=by omega
  rw[a6,List.take_set,List.drop_set_of_lt ad];have aW:off+j+(v::news).length=off+j+1+news.length:=by simp;omega
  rw[aW,List.take_succ_eq_append_getElem cO,List.set_append_right _ _ (by simp[Nat.min_le_left]),List.append_assoc,List.append_assoc,List.append_assoc];have hm:off+j - (cells.toList.take (off+j)).length=0:=by simp;omega
  rw[hm];rfl
def nx(place:Nat->Option (Nat×Nat)):List aa->List (Nat×aa)->Option (List aa)
 | cs,[]=>some cs
 | cs,(i,x)::rest=>
  match place i with
  | none=>none
  | some (off,size)=>bif ha x && Nat.beq (dq x).length size && Nat.ble (off+size) cs.length then nx place (cs.take off++dq x++cs.drop (off+size)) rest else none
theorem zG{I:a8}{w:World}{place:Nat->Option (Nat×Nat)}:∀(parts:List (Nat×aa)) (kS:List (Nat×Value)) (cs:List aa) (vs:Array Value) (ys:List aa),bZ I w cs vs.toList->
  parts.map (·.1)=kS.map (·.1)->bZ I w (parts.map (·.2)) (kS.map (·.2))->nx place cs parts=some ys->∃us,Instr.fill place vs kS=some us/\bZ I w ys us.toList
 | [],[],cs,vs,ys,h,_,_,aP=>by simp[nx] at aP;subst aP;exact⟨vs,rfl,h⟩
 | [],_::_,_,_,_,_,ao,_,_=>by simp at ao
 | _::_,[],_,_,_,_,ao,_,_=>by simp at ao
 | (i,x)::parts,(tR,v)::kS,cs,vs,ys,h,ao,aK,aP=>by
  simp only[List.map_cons,List.cons.injEq] at ao;obtain⟨av,ao⟩:=ao;subst av;cases aK with
  | cons _ _ _ _ ag ht=>
   simp only[nx] at aP;split at aP
   ·cases aP
   ·rename_i off size aB;cases ak:(ha x && Nat.beq (dq x).length size && Nat.ble (off+size) cs.length) with
    | false=>simp[ak] at aP
    | true=>
     simp only[ak,cond_true] at aP;simp only[Bool.and_eq_true] at ak;obtain⟨⟨aw,aH⟩,hfit⟩:=ak;have aH:=Nat.eq_of_beq_eq_true aH;have hfit:=Nat.le_of_ble_eq_true hfit;have MQ:=xR ag aw;have zH:v.cells.size=size:=by have:=MQ.length;simp at this;omega
     have dp:vs.size=cs.length:=by have:=h.length;simpa using this
     have ed:bZ I w (cs.take off++dq x++cs.drop (off+size)) (vs.toList.take off++v.cells.toList++vs.toList.drop (off+size)):=((h.take off).append MQ).append (h.drop _);obtain⟨us,ab,ae⟩:=zG parts kS _ (vs.toList.take off++v.cells.toList++vs.toList.drop (off+size)).toArray ys (by simpa using ed) ao ht aP;refine⟨us,?_,ae⟩;rw[Instr.fill,aB];have bq: ¬(v.cells.size≠size\/off+v.cells.size>vs.size):=by omega
     have CW:=MP v.cells.toList off 0 vs dj;simp only[zH,ne_eq,not_true_eq_false,false_or,gt_iff_lt,decide_eq_true_eq,Bool.or_eq_true,bne_self_eq_false,Bool.false_or];rw[if_neg dj];rw[<-ab];congr 1;have cN:v.cells.zipIdx=(v.cells.toList.zipIdx 0).toArray:=by
      apply Array.ext';simp
     rw[cN,List.foldl_toArray];simp only[Nat.add_zero,Array.length_toList,zH] at CW;rw[<-CW]
def Gj(P:Program)(t:TypeId):Option (List Value×List (Nat×Nat)):=
 match P.info? t,P.underlying t with
 | some it,some (.struct fields)=>
  match it.zero,fields.toList.mapM (λf=>(P.info? f.type).map λi=>(f.offset,i.size)) with
  | some z,some vw=>some (z.cells.toList,vw)
  | _,_=>none
 | some it,some (.array n e)=>
  match it.zero,P.info? e with
  | some z,some Gk=>some (z.cells.toList,(List.range n).map λi=>(i*Gk.size,Gk.size))
  | _,_=>none
 | _,_=>none
class h7 (P:Program) (t:Nat) (x:outParam (List Value×List (Nat×Nat))):Prop where h:Gj P t=some x
def partsOf(bH:List (Nat×Operand))(ys:List (Bool×aa)):List (Nat×aa):=(bH.map (·.1)).zip (ys.map (·.2))
theorem MR{p q:Nat->Option (Nat×Nat)}:∀(parts:List (Nat×Value)) (vs:Array Value) (us:Array Value),(∀i x,p i=some x->q i=some x)->Instr.fill p vs parts=some us->Instr.fill q vs parts=some us
 | [],vs,us,_,h=>h
 | (i,v)::parts,vs,us,MS,h=>by
  rw[Instr.fill] at h ⊢;cases aB:p i with
  | none=>simp[aB] at h
  | some x=>
   rw[aB] at h;rw[MS i x aB];simp only at h ⊢;split at h
   ·cases h
   ·rename_i ak;rw[if_neg ak];exact MR parts _ _ MS h
theorem V6{t:TypeId}{bY:List Value}{vw:List (Nat×Nat)}(aw:Gj P t=some (bY,vw))(parts:Array (Nat×Value))(us:Array Value)(h:Instr.fill (vw[·]?) bY.toArray parts.toList=some us)(w:World):
  (Instr.build t parts).run P w= .ok (.agg us) w:=by
 refine run_build w t parts us ?_;unfold Gj at aw;unfold Program.built;split at aw
 ·rename_i it fields av hu;cases an:it.zero with
  | none=>simp[an] at aw
  | some z=>
   simp only[av,hu,an];cases aB:fields.toList.mapM (λf=>(P.info? f.type).map λi=>(f.offset,i.size)) with
   | none=>simp[an,aB] at aw
   | some pl=>
    simp[an,aB] at aw;obtain⟨rfl,rfl⟩:=aw;simpa using h
 ·rename_i it n e av hu;cases an:it.zero with
  | none=>simp[an] at aw
  | some z=>
   cases zI:P.info? e with
   | none=>simp[an,zI] at aw
   | some Gk=>
    simp[an,zI] at aw;obtain⟨rfl,rfl⟩:=aw;simp only[av,hu,an,zI];refine MR _ _ _ (λi x ag=>?_) h3;cases aK:(List.range n)[i]? with
    | none=>simp[aK] at ag
    | some j=>
     have aU:j=i:=by
      have:=List.getElem?_eq_some_iff.1 aK;obtain⟨cO,he⟩:=this;simpa using he.symm
     subst aU;simpa [aK] using ag
 ·cases aw
theorem CX{I:a8}{w:World}{a:Act}(aA:gi I w ρ a o)(bH:Array (Nat×Operand))(hm:∀x∈bH.toList.map (·.2),x∈o.op.operands){ys:List (Bool×aa)}(hy:j2 ρ (bH.toList.map (·.2))=some ys)(al:ys.all (·.1)=true):
  (partsOf bH.toList ys).map (·.1)=((bH.map λ(i,x)=>(i,a.eval x)).toList).map (·.1)/\bZ I w ((partsOf bH.toList ys).map (·.2)) (((bH.map λ(i,x)=>(i,a.eval x)).toList).map (·.2)):=by
 have ae:=tM aA _ ys hm hy (by simpa using al);have ax:ys.length=bH.toList.length:=by have:=ae.length;simp at this;simp[this]
 constructor
 ·show ((bH.toList.map (·.1)).zip (ys.map (·.2))).map (·.1)=_;rw[List.map_fst_zip (by simp[ax])];simp[Function.comp_def]
 ·show bZ I w (((bH.toList.map (·.1)).zip (ys.map (·.2))).map (·.2)) _;rw[List.map_snd_zip (by simp[ax])];simpa [Function.comp_def] using ae
theorem af.zJ{t:TypeId}{bH:Array (Nat×Operand)}{bY:List Value}{vw:List (Nat×Nat)}{ys:List (Bool×aa)}{cs:List aa}[bE:h7 P t (bY,vw)](h:o.op= .build t bH)
  (hy:j2 ρ (bH.toList.map (·.2))=some ys) (al:ys.all (·.1)=true) (aP:nx (vw[·]?) (bY.map .val) (partsOf bH.toList ys)=some cs):af P H ρ o (.agg cs):=by
 refine .same cB λI w a aA=>?_;obtain⟨a6,aW⟩:=CX aA bH cx hy al;obtain⟨us,ab,ae⟩:=zG _ _ (bY.map .val) bY.toArray cs (by simpa using l1 bY) a6 aW aP;refine⟨.agg us,?_,.agg _ _ ae⟩;simp[execOp,h,V6 bE.h _ us ab w]
def zK(P:Program)(t:TypeId):Option (Nat×List Value):=
 match P.underlying t with
 | some (.slice e)=>match P.info? e with
  | some i=>i.zero.map λz=>(i.size,z.cells.toList)
  | none=>none
 | _=>none
class la (P:Program) (t:Nat) (x:outParam (Nat×List Value)):Prop where h:zK P t=some x
theorem Gl{t:TypeId}{k:Nat}{bY:List Value}(h:zK P t=some (k,bY)):∃e i z,P.underlying t=some (.slice e)/\P.info? e=some i/\i.zero=some z/\i.size=k/\z.cells.toList=bY:=by
 unfold zK at h;split at h
 ·rename_i e hu;split at h
  ·rename_i i av;cases an:i.zero with
   | none=>simp[an] at h
   | some z=>simp[an] at h;exact⟨e,i,z,hu,av,an,h.1,h.2⟩
  ·cases h
 ·cases h
def l4(n k:Nat)(bY:List Value):List Value:=(List.range (n*k)).map λi=>bY.getD (i%bY.length) default
theorem oj{I:a8}{w:World}{k b:Nat}:∀(els:List (List aa)) (o:Nat),(∀e∈els,e.length=k)->Cells I w b o els.flatten->fX I w k b o els
 | [],o,_,_=>.nil _ _ _
 | e::els,o,ax,h=>by
  rw[List.flatten_cons] at h;have ao:=ax e (.head _);have ab:Cells I w b o e:=by have:=h.take e.length;rwa [List.take_left] at this
  have ae:Cells I w b (o+k) els.flatten:=by have:=h.drop e.length;rw[List.drop_left,ao] at this;exact this
  exact .cons _ _ _ _ _ ao ab (oj els _ (λe he=>ax e (.tail _ he)) ae)
theorem V7{t:TypeId}{n k:Nat}{bY:List Value}(aK:zK P t=some (k,bY))(parts:Array (Nat×Value))(us:Array Value)(eY:n*k<=16777216)(ju:0<n*k)
  (h:Instr.fill (λi=>some (i*k,k)) (l4 n k bY).toArray parts.toList=some us) (w:World):
  ∃e,(Instr.buildSlice t n parts).run P w= .ok (.slice (some ⟨w.heap.size,0,none⟩) n n) (w.alloc (.cells us e)):=by
 obtain⟨e,i,z,hu,av,an,ao,jv⟩:=Gl aK;have Gm: ¬n*i.size>2^24:=by rw[ao];omega
 have Gn: ¬n*i.size=0:=by rw[ao];omega
 have aP:Instr.fill (λj=>some (j*i.size,i.size)) ((Array.range (n*i.size)).map (z.cells[· %z.cells.size]!)) parts.toList=some us:=?_
 ·exact⟨e,by simp[Instr.buildSlice,run_underlying hu,sizeOf,typeInfo,zeroValue,av,an,Gm,Gn,aP,newRow]⟩
 rw[ao, <-h];congr 1;apply Array.ext';simp only[l4,Array.toList_map,Array.toList_range, <-jv];refine List.map_congr_left λj _=>?_;simp[Array.getElem!_eq_getD,Array.getD_eq_getD_getElem?,List.getD_eq_getElem?_getD]
theorem af.row{t:TypeId}{n k:Nat}{bH:Array (Nat×Operand)}{bY:List Value}{ys:List (Bool×aa)}{els:List (List aa)}[hR:la P t (k,bY)](h:o.op= .buildSlice t n bH)
  (hy:j2 ρ (bH.toList.map (·.2))=some ys) (al:ys.all (·.1)=true) (vx:(partsOf bH.toList ys).map (λx=>dq x.2)=els) (hlen:Nat.beq els.length n=true) (ao:els.all (λe=>Nat.beq e.length k)=true)
  (eY:Nat.ble (n*k) 16777216=true) (ju:Nat.blt 0 (n*k)=true)
  (aP:nx (λi=>some (i*k,k)) ((l4 n k bY).map .val) (partsOf bH.toList ys)=some els.flatten):af P H ρ o (.aF k els):=by
 intro B I w r a eo hw az _ aA;obtain⟨a6,aW⟩:=CX aA bH cx hy al;obtain⟨us,ab,ae⟩:=zG _ _ ((l4 n k bY).map .val) (l4 n k bY).toArray els.flatten (by simpa using l1 _) a6 aW aP;have eY:=Nat.le_of_ble_eq_true eY;have ju:0<n*k:=Nat.le_of_ble_eq_true ju;obtain⟨e,dW⟩:=V7 hR.h (bH.map λ(i,x)=>(i,a.eval x)) us eY ju ab w;obtain⟨cI,a2,a3,a4⟩:=a8.vj hw e us;have hn:=Nat.eq_of_beq_eq_true hlen;have V8:n<=n*k:=by
  rcases Nat.eq_zero_or_pos k with rfl | h6
  ·simp at ju
  ·exact Nat.le_mul_of_pos_right n h6
 refine cM.fN (v:=.slice (some ⟨w.heap.size,0,none⟩) n n) (w':=w.alloc (.cells us e)) cB xJ ⟨_,cI,a2,a3 _ az,.aF _ _ _ _ _ _ hn (Nat.le_refl _) lu ?_⟩;refine oj els 0 (λx ag=>?_) (a4 _ ae);have:=List.all_eq_true.1 ao x ag;exact Nat.eq_of_beq_eq_true this
theorem af.L4{t:TypeId}{k:Nat}{bY:List Value}[hR:la P t (k,bY)](h:o.op= .buildSlice t 0 #[]):af P H ρ o .gF:=by
 intro B I w r a eo hw az _ aA;obtain⟨e,i,z,hu,av,an,ao,jv⟩:=Gl hR.h;have dW:(Instr.buildSlice t 0 #[]).run P w= .ok (.slice (some ⟨w.heap.size,0,none⟩) 0 0) (w.alloc (.cells #[] e)):=by
  simp[Instr.buildSlice,run_underlying hu,sizeOf,typeInfo,av,Instr.fill,newRow,show Array.range 0= #[] from by decide+kernel]
 exact cM.fN (v:=.slice (some ⟨w.heap.size,0,none⟩) 0 0) (w':=w.alloc (.cells #[] e)) cB xJ ⟨I,hw.alloc _,kN hw _,az.alloc hw _,.gF _⟩
end
inductive hq:List aj->aj->List aj->Prop
 | head (e:aj) (H:List aj):hq (e::H) e H
 | tail (f e:aj) (H H':List aj) (h:hq H e H'):hq (f::H) e (f::H')
theorem hq.mem{H H':List aj}{e:aj}(h:hq H e H'):e∈H:=by
 induction h with
 | head=>exact .head _
 | tail _ _ _ _ _ bm=>exact .tail _ bm
theorem hq.sub{H H':List aj}{e:aj}(h:hq H e H'):H'.Sublist H:=by
 induction h with
 | head=>exact List.sublist_cons_self _ _
 | tail _ _ _ _ _ bm=>exact bm.cons_cons _
theorem hq.apart{H H':List aj}{e:aj}(h:hq H e H')(aB:H.Pairwise λe f=>∀b,e.eX=some b->f.eX≠some b):∀f∈H',∀b,e.eX=some b->f.eX≠some b:=by
 induction h with
 | head e H=>exact (List.pairwise_cons.1 aB).1
 | tail g e H H' h bm=>
  obtain⟨ab,ae⟩:=List.pairwise_cons.1 aB;intro f aP b aw kR;rcases List.mem_cons.1 aP with rfl | aP
  ·exact ab e h.mem b kR aw
  ·exact bm ae f aP b aw kR
theorem a8.freeze{B:Nat}{I:a8}{w:World}{H H':List aj}(hw:ck B I w)(az:br B I w H){b n:Nat}{e:aj}(aN:hq H e H')(aP:e.eX=some b){vs:Array Value}{t:TypeId}(aw:w.heap[b]? =some (.cells vs t (0,0)))(hn:n<=vs.size):
  ck B (I.add b n) w/\Ext B I w (I.add b n) w/\br B (I.add b n) w H'/\(∀xs us,bZ I w xs us->us=vs.toList.take n->Cells (I.add b n) w b 0 xs):=by
 have k:fb I w (I.add b n) w:=⟨λ_ _ x=>.inl x,λ_ _ _=>rfl⟩;refine⟨⟨hw.base,λdk o h=>?_⟩,⟨k.j0,k.cell,Below.refl _ _⟩,?_,?_⟩
 ·rcases h with h | ⟨rfl,h⟩
  ·exact hw.there dk o h
  ·exact⟨vs[o]'ad,by rw[kQ aw];exact Array.getElem?_eq_getElem ad⟩
 ·refine (az.sub aN.sub).bQ k (λ_ _ _ _=>rfl) (λf zL dk gr o aA=>?_);rcases aA with aA | ⟨rfl,_⟩
  ·exact aA
  ·exact absurd gr (aN.apart az.apart f zL _ aP)
 ·intro xs us ag hu;have key:∀(ys:List aa) (bY:List Value) (o:Nat),bZ I w ys bY->bY=(vs.toList.take n).drop o->Cells (I.add b n) w b o ys:=by
   intro ys
   induction ys with
   | nil=>intro bY o _ _;exact .nil _ _
   | cons y ys bm=>
    intro bY o aK hu;cases aK with
    | cons _ v _ zr ag ht=>
     have ai:(vs.toList.take n)[o]? =some v:=by
      have:=congrArg (λl=>l[0]?) hu;simpa using this.symm
     have cO:o<n:=by
      have:=(List.getElem?_eq_some_iff.1 ai).1;simp at this;omega
     refine .cons _ _ _ v _ ?_ (.inr ⟨rfl,cO⟩) (ag.bQ k) (bm zr (o+1) ht ?_)
     ·rw[kQ aw];rw[List.getElem?_take] at ai;simpa [cO] using ai
     ·have:=congrArg List.tail hu;simpa [List.tail_drop] using this
  exact key xs us 0 ag (by simpa using hu)
section
variable{c:Ctx}{r:Option Nat}{P:Program}{ops:Array Oper}{l rest:List Oper}{o:Oper}{st:dn}{Q:Exit->Act->World->Prop}{x:aa}{H:List aj}{ρ:Nat->Option aa}
theorem Sat.tS{a:Act}{w:World}{d:Nat}{y:aa}{env:List (Nat×aa)}{I:a8}(aC:fs I w (aX env) a)(h:Rel I w y (a.tmps.getD d undef)):fs I w (aX ((d,y)::env)) a:=by
 intro t z an;rw[l0] at an;split at an
 ·rename_i e;subst e;simp at an;subst an;exact h
 ·exact aC t z an
theorem Sat.ep{a:Act}{w:World}{d b off:Nat}{t:TypeId}{cs:List aa}{H':List aj}(s:Sat c st a w)(aN:aX st.env d=some (.p b off))(fZ:hq st.H (.aI b t cs) H'):Sat c ⟨(d,.ptr (cs.drop off))::st.env,H'⟩ a w:=by
 obtain⟨I,hw,he,az,aC⟩:=s.mem;obtain⟨bE,vs,aw,aK,cu⟩:=az.ok _ fZ.mem;obtain⟨cI,a2,a3,a4⟩:=a8.freeze (n:=vs.size) hw az fZ (b:=b) rfl aw (Nat.le_refl _);refine⟨s.ds,s.size,_,cI,he.trans a2,a3,Sat.tS (aC.bQ a2.keeps) ?_⟩;have ai:=ct (aC d _ aN);rw[ai];have:=(a4 cs vs.toList aK CH).drop off;exact .ptr _ _ _ (by simpa using this)
theorem aq.ep{p:Code}{d b off:Nat}{t:TypeId}{cs:List aa}{H':List aj}(aN:aX st.env d=some (.p b off))(fZ:hq st.H (.aI b t cs) H')(h:aq c r P p ⟨(d,.ptr (cs.drop off))::st.env,H'⟩ Q):aq c r P p st Q:=
 λa w s=>h a w (s.ep aN fZ)
theorem au.ep{d b off:Nat}{t:TypeId}{cs:List aa}{H':List aj}(aN:aX st.env d=some (.p b off))(fZ:hq st.H (.aI b t cs) H')(h:au c r P ops l ⟨(d,.ptr (cs.drop off))::st.env,H'⟩ Q):au c r P ops l st Q:=
 λa w s=>h a w (s.ep aN fZ)
theorem Sat.qA{a:Act}{w:World}{d b n cap k:Nat}{t:TypeId}{els:List (List aa)}{more:List aa}{H':List aj}(s:Sat c st a w)(aN:aX st.env d=some (.val (.slice (some ⟨b,0,none⟩) n cap)))(fZ:hq st.H (.aI b t (els.flatten++more)) H')
  (hn:els.length=n) (ao:∀e∈els,e.length=k) (ak:n<=cap) (hm:cap<=maxLen):Sat c ⟨(d,.aF k els)::st.env,H'⟩ a w:=by
 obtain⟨I,hw,he,az,aC⟩:=s.mem;obtain⟨bE,vs,aw,aK,cu⟩:=az.ok _ fZ.mem;obtain⟨cI,a2,a3,a4⟩:=a8.freeze (n:=vs.size) hw az fZ (b:=b) rfl aw (Nat.le_refl _);refine⟨s.ds,s.size,_,cI,he.trans a2,a3,Sat.tS (aC.bQ a2.keeps) ?_⟩;have ai:=ct (aC d _ aN);rw[ai];have ab:=(a4 _ vs.toList aK CH).take els.flatten.length;rw[List.take_left] at ab;exact .aF _ _ _ _ _ _ hn ak hm (oj els 0 ao ab)
theorem aq.qA{p:Code}{d b n cap k:Nat}{t:TypeId}{els:List (List aa)}{more:List aa}{H':List aj}(aN:aX st.env d=some (.val (.slice (some ⟨b,0,none⟩) n cap)))(fZ:hq st.H (.aI b t (els.flatten++more)) H')
  (hn:els.length=n) (ao:∀e∈els,e.length=k) (ak:n<=cap) (hm:cap<=maxLen) (h:aq c r P p ⟨(d,.aF k els)::st.env,H'⟩ Q):aq c r P p st Q:=
 λa w s=>h a w (s.qA aN fZ hn ao ak hm)
theorem Sat.le{a:Act}{w:World}{d:Nat}{x y:aa}(s:Sat c st a w)(aN:aX st.env d=some x)(h:aL x y):Sat c ⟨(d,y)::st.env,st.H⟩ a w:=by
 obtain⟨I,hw,he,az,aC⟩:=s.mem;exact⟨s.ds,s.size,I,hw,he,az,Sat.tS aC (h _ _ _ (aC d _ aN))⟩
theorem aq.le{p:Code}(d:Nat){x y:aa}(aN:aX st.env d=some x)(hle:aL x y)(h:aq c r P p ⟨(d,y)::st.env,st.H⟩ Q):aq c r P p st Q:=λa w s=>h a w (s.le aN hle)
theorem au.le(d:Nat){x y:aa}(aN:aX st.env d=some x)(hle:aL x y)(h:au c r P ops l ⟨(d,y)::st.env,st.H⟩ Q):au c r P ops l st Q:=λa w s=>h a w (s.le aN hle)
theorem aR.le{e:Exit}(d:Nat){x y:aa}(aN:aX st.env d=some x)(hle:aL x y)(h:aR c ⟨(d,y)::st.env,st.H⟩ e Q):aR c st e Q:=λa w s=>h a w (s.le aN hle)
theorem aR.ep{e:Exit}{d b off:Nat}{t:TypeId}{cs:List aa}{H':List aj}(aN:aX st.env d=some (.p b off))(fZ:hq st.H (.aI b t cs) H')(h:aR c ⟨(d,.ptr (cs.drop off))::st.env,H'⟩ e Q):aR c st e Q:=
 λa w s=>h a w (s.ep aN fZ)
def Gp(P:Program)(t:TypeId):Option (TypeId×Nat×Nat):=
 match P.underlying t with
 | some (.slice e)=>match P.info? e with
  | some i=>match i.zero with
   | some z=>bif Nat.beq z.cells.size i.size && Nat.blt 0 i.size then some (e,i.size,i.bytes) else none
   | none=>none
  | none=>none
 | _=>none
class hv (P:Program) (t:Nat) (x:outParam (Nat×Nat×Nat)):Prop where h:Gp P t=some x
theorem qB{t e k dA:Nat}(h:Gp P t=some (e,k,dA)):∃i z,P.underlying t=some (.slice e)/\P.info? e=some i/\i.zero=some z/\i.size=k/\i.bytes=dA/\z.cells.size=k/\0<k:=by
 unfold Gp at h;split at h
 ·rename_i e' hu;split at h
  ·rename_i i av;split at h
   ·rename_i z an;cases ak:(Nat.beq z.cells.size i.size && Nat.blt 0 i.size) with
    | false=>simp[ak] at h
    | true=>
     simp only[ak,cond_true,Option.some.injEq,Prod.mk.injEq] at h;obtain⟨rfl,rfl,rfl⟩:=h;simp only[Bool.and_eq_true] at ak;exact⟨i,z,hu,av,an,rfl,rfl,Nat.eq_of_beq_eq_true ak.1,Nat.le_of_ble_eq_true ak.2⟩
   ·cases h
  ·cases h
 ·cases h
theorem fX.values{I:a8}{w:World}{k b o:Nat}{els:List (List aa)}(h:fX I w k b o els):∃us,bZ I w els.flatten us/\us.length=els.length*k/\∀j u,us[j]? =some u->w.cell? ((⟨b,o,none⟩:Addr).add j)=some u:=by
 obtain⟨us,ab,ae⟩:=h.cells.values;refine⟨us,ab,?_,λj u hu=>?_⟩
 ·rw[ab.length,h.Mt]
 ·have:(⟨b,o,none⟩:Addr).add j=⟨b,o+j,none⟩:=by unfold Addr.add;split <;> simp_all
  rw[this];exact ae j u hu
theorem MT{els:List (List aa)}(h:els.all eG=true):eG els.flatten=true:=by
 simp only[eG,List.all_eq_true,List.mem_flatten] at h ⊢;rintro x ⟨e,he,ag⟩;exact h e he x ag
theorem zM{I:a8}{w:World}{tx e' k:Nat}{els:List (List aa)}{v:Value}(ao:P.underlying tx=some (.slice e'))(h:Rel I w (.aF k els) v)(ab:els.all eG=true):
  ∃us,bZ I w els.flatten us/\Src P k tx v els.length us w:=by
 cases h with
 | eP _ a il=>
  refine⟨[],.nil,?_⟩;cases a with
  | none=>exact Src.ofNil w ao _
  | some a=>exact Src.ofSlice w ao a 0 il [] bj bj bj
 | aF _ _ b off len cap ax ak hm he=>
  obtain⟨us,aS,ee,ny⟩:=he.values;subst ax;exact⟨us,aS,Src.ofSlice w ao _ _ cap us ee ny (vr aS (MT ab))⟩
theorem tT{s z:Operand}{t tx:TypeId}(h:o.op= .call {callee:=.builtin .append,args:=#[s,z],argTypes:=#[t,tx]})(a:Act)(w:World){v:Value}{w':World}
  (aK:(Builtin.append_ #[t,tx] o.type #[a.eval s,a.eval z]).run P w= .ok v w'):(execOp a.eval o).run P w= .ok (.value v) w':=by
 simp[execOp,h,resolve,invoke,builtin,aK]
theorem af.zN{s z:Operand}{t tx e k dA cJ:Nat}{els:List (List aa)}{h8 y:aa}{g1 g2:Bool}[cy:hv P t (e,k,dA)][je:ft P tx cJ](h:o.op= .call {callee:=.builtin .append,args:=#[s,z],argTypes:=#[t,tx]})
  (aH:bf ρ s=some (g1,h8)) (dB:g1=true) (sD:aL h8 .gF) (an:bf ρ z=some (g2,y)) (dY:g2=true) (hy:aL y (.aF k els)) (ab:els.all eG=true) (aw:els.length*dA<=140737488355328) (gr:els.length<=9223372036854775807):af P H ρ o (.aF k els):=by
 intro B I w r a eo hw az _ aA;obtain⟨i,zv,hu,av,l2,eH,lx,jv,jw⟩:=qB cy.h;obtain⟨e',_,qC,_⟩:=pU je.h;obtain⟨cX,lZ⟩:∃cX,a.eval s= .slice cX 0 0:=by
  have ai:=sD _ _ _ (aA.get ig aH dB);generalize a.eval s=u at ai;cases ai;exact⟨_,rfl⟩
 obtain⟨us,aS,ee⟩:=zM (P:=P) (tx:=tx) qC (hy _ _ _ (aA.get ig an dY)) ab;rw[<-eH] at ee;by_cases hn:els.length=0
 ·have lz:els= []:=List.eq_nil_of_length_eq_zero hn;subst lz;have qD:us= []:=by cases aS;rfl
  subst qD;have aK:=run_append_nothing (P:=P) w t tx o.type e i hu av cX 0 0 (Nat.le_refl _) (a.eval z) ee;exact cM.fN cB (tT h a w CS) ⟨I,hw,Ext.refl _ _ _,az,.eP _ _ _⟩
 ·have rB:(Builtin.firstCells i.size 0 (.slice cX 0 0)).run P w.drew= .ok (#[]:Array Value) w.drew:=by
   cases cX with
   | none=>simp[Builtin.firstCells]
   | some cX=>exact run_firstCells_some w.drew i.size 0 cX 0 0 [] bj bj
  have kT:Builtin.nextslicecap (0+els.length) 0*i.bytes<=281474976710656:=growslice_fits ad (by rw[lx,Nat.zero_add];exact aw);have aK:=run_append_grow_src (P:=P) w t tx o.type e i zv hu av l2 cX 0 0 [] rB (a.eval z) els.length us ee ad ad kT;simp only[Nat.zero_add,List.nil_append] at aK;generalize c8:grownCap w els.length 0 e=G at aK;have oX:els.length<=G:=by rw[<-c8];exact grownCap_ge w els.length 0 e
  have im:G<=maxLen:=by rw[<-c8];exact grownCap_le_maxLen w els.length 0 e lu
  obtain⟨cI,a2,a3,a4⟩:=a8.vj hw.drew e (us.toArray++Builtin.zeroCells zv.cells (G - els.length));have fc:fb I w I w.drew:=⟨λ_ _ x=>x,λ_ _ _=>rfl⟩;have V9:=aS.bQ fc;have kM:=l1 (I:=I) (w:=w.drew) (Builtin.zeroCells zv.cells (G - els.length)).toList;have sE:=a4 (els.flatten++(Builtin.zeroCells zv.cells (G - els.length)).toList.map .val) (by simpa using V9.append kM);have jx:=sE.take els.flatten.length;rw[List.take_left] at jx;have hlen:∀x∈els,x.length=k:=by
   have ai:=hy _ _ _ (aA.get ig an dY);generalize a.eval z=u at ai;cases ai with
   | eP=>simp at hn
   | aF _ _ b off len cap ax ak hm he=> 
    intro x ag;obtain⟨j,aU⟩:=List.mem_iff_getElem?.1 ag;exact (he.get aU).1
  exact cM.fN cB (tT h a w CS) ⟨_,cI,(Ext.trans ⟨fc.j0,fc.cell,(Below.refl _ _).drew⟩ a2),a3 _ az.drew,.aF _ _ _ _ _ _ rfl oX im (oj els 0 hlen jx)⟩
theorem Sat.iq{a:Act}{w:World}{d e k:Nat}(s:Sat c st a w)(aN:aX st.env d=some (.val (.slice none 0 0))):Sat c ⟨(d,.as (.aF k []) (.slice none 0 0))::st.env,.own e k (.slice none 0 0)::st.H⟩ a w:=by
 obtain⟨I,hw,he,az,aC⟩:=s.mem;refine⟨s.ds,s.size,I,hw,he,⟨λf aP=>?_,List.pairwise_cons.2 ⟨λf aP b aw=>by simp[aj.eX,Value.ownBlock] at aw,az.apart⟩⟩,Sat.tS aC ?_⟩
 ·rcases List.mem_cons.1 aP with rfl | aP
  ·exact⟨0,[],World.ownsRow_nil _ _ _ _,λg al=>by simp[Value.ownBlock] at al⟩
  ·exact az.ok f aP
 ·rw[ct (aC d _ aN)];exact .as _ _ (.eP _ _ _)
theorem aq.iq{p:Code}(d e k:Nat)(aN:aX st.env d=some (.val (.slice none 0 0)))(h:aq c r P p ⟨(d,.as (.aF k []) (.slice none 0 0))::st.env,.own e k (.slice none 0 0)::st.H⟩ Q):aq c r P p st Q:=
 λa w s=>h a w (s.iq aN)
theorem au.iq(d e k:Nat)(aN:aX st.env d=some (.val (.slice none 0 0)))(h:au c r P ops l ⟨(d,.as (.aF k []) (.slice none 0 0))::st.env,.own e k (.slice none 0 0)::st.H⟩ Q):au c r P ops l st Q:=
 λa w s=>h a w (s.iq aN)
theorem Wa{I:a8}{w:World}:fb I w I w.drew:=⟨λ_ _ x=>x,λ_ _ _=>rfl⟩
theorem Wb{B:Nat}{I:a8}{w:World}:Ext B I w I w.drew:=⟨λ_ _ x=>x,λ_ _ _=>rfl,(Below.refl _ _).drew⟩
theorem qE{k:Nat}:∀{els:List (List aa)},(∀x∈els,x.length=k)->els.flatten.length=els.length*k
 | [],_=>by simp
 | e::els,h=>by rw[List.flatten_cons,List.length_append,qE (λx ag=>h x (.tail _ ag)),h e (.head _),List.length_cons,Nat.add_mul];omega
theorem Rel.zO{I:a8}{w:World}{k:Nat}{els:List (List aa)}{v:Value}(h:Rel I w (.aF k els) v):∀x∈els,x.length=k:=by
 cases h with
 | eP=>intro x ag;cases ag
 | aF _ _ b off len cap ax ak hm he=>
  intro x ag;obtain⟨j,aU⟩:=List.mem_iff_getElem?.1 ag;exact (he.get aU).1
theorem vy{I:a8}{w:World}{b:Nat}{vs:Array Value}{t:TypeId}(aw:w.heap[b]? =some (.cells vs t (0,0))):∀(ys:List aa) (bY:List Value) (o:Nat),bZ I w ys bY->(∀j u,bY[j]? =some u->vs[o+j]? =some u)->(∀j,j<ys.length->I b (o+j))->Cells I w b o ys
 | [],_,o,_,_,_=>.nil _ _
 | y::ys,_,o,.cons _ v _ bY ag ht,an,b4=>by
  refine .cons _ _ _ v _ (by rw[kQ aw];simpa using an 0 v rfl) (by simpa using b4 0 bj) ag (vy aw ys bY (o+1) ht (λj u hu=>?_) (λj aU=>?_))
  ·have:=an (j+1) u (by simpa using hu);have e:o+(j+1)=o+1+j:=by omega
   rwa [e] at this
  ·have:=b4 (j+1) dj;have e:o+(j+1)=o+1+j:=by omega
   rwa [e] at this
theorem MU{h8:aa}{s z:Operand}{t tx e k dA cJ:Nat}{els news:List (List aa)}{v:Value}{y:aa}{g1 g2:Bool}{H':Value->List aj}[cy:hv P t (e,k,dA)][je:ft P tx cJ]
  (h:o.op= .call {callee:=.builtin .append,args:=#[s,z],argTypes:=#[t,tx]}) (aH:bf ρ s=some (g1,h8)) (dB:g1=true) (sD:aL h8 (.as (.aF k els) v)) (an:bf ρ z=some (g2,y)) (dY:g2=true) (hy:aL y (.aF k news))
  (ab:news.all eG=true) (hu:∀dr,bu H (.own e k v) (.own e k dr) (H' dr)) (aw:(els.length+news.length)*dA<=140737488355328) (gr:els.length+news.length<=9223372036854775807)
  {B:Nat} {I:a8} {w:World} {r:Option Nat} {a:Act} (hw:ck B I w) (az:br B I w H) (aC:gi I w ρ a o):
  cM P r o a w (λx w'=>∃aQ,ck B aQ w'/\Ext B I w aQ w'/\br B aQ w' (H' x)/\Rel aQ w' (.as (.aF k (els++news)) x) x) (λ_ _=>False):=by
 obtain⟨i,zv,mY,av,l2,eH,lx,jv,jw⟩:=qB cy.h;obtain⟨e',_,qC,_⟩:=pU je.h;have MV:=sD _ _ _ (aC.get ig aH dB);obtain⟨lZ,hold⟩:a.eval s=v/\Rel I w (.aF k els) v:=by
  generalize a.eval s=u at MV;cases MV with
  | as _ _ ag=>exact⟨rfl,ag⟩
 have qF:=hy _ _ _ (aC.get ig an dY);obtain⟨us,aS,ee⟩:=zM (P:=P) (tx:=tx) qC qF ab;rw[<-eH] at ee;obtain⟨n,xs,fx,cu⟩:=az.ok _ (hu v).mem
 suffices hmain:∃dr aQ w',(Builtin.append_ #[t,tx] o.type #[v,a.eval z]).run P w= .ok dr w'/\ck B aQ w'/\Ext B I w aQ w'/\br B aQ w' (H' dr)/\Rel aQ w' (.aF k (els++news)) dr by
  obtain⟨dr,aQ,w',a6,aW,cN,gO,mv⟩:=hmain;exact cM.fN (R:=λx w'=>∃aQ,ck B aQ w'/\Ext B I w aQ w'/\br B aQ w' (H' x)/\Rel aQ w' (.as (.aF k (els++news)) x) x) (E:=λ_ _=>False) cB (tT h a w (by rw[lZ];exact a6)) ⟨aQ,aW,cN,gO,.as _ _ mv⟩
 have ir:=qF.zO;have gj:=hold.zO;by_cases hn:news.length=0
 ·have lz:news= []:=List.eq_nil_of_length_eq_zero hn;subst lz;have qD:us= []:=by cases aS;rfl
  subst qD;obtain⟨cX,m,il,qG,hle⟩:∃cX m il,v= .slice cX m il/\m<=il:=by
   rcases fx.2 with⟨rfl,_⟩ | ⟨g,cap,cur,rfl,_,_,ak,_⟩
   ·exact⟨_,_,_,rfl,Nat.le_refl _⟩
   ·exact⟨_,_,_,rfl,ak⟩
  have aK:=run_append_nothing (P:=P) w t tx o.type e i mY av cX m il hle (a.eval z) ee;rw[<-qG] at aK;exact⟨v,I,w,aK,hw,Ext.refl _ _ _,az.gH (hu v) ⟨λ_ _ x=>x,λ_ _ _=>rfl⟩ (λ_ _ _=>rfl) (λ_ _ x=>.inl x) ⟨n,xs,fx,cu⟩ (λ_ aw=>.inl aw),by simpa using hold⟩
 have grown:∀(cX:Option Addr) (m old:Nat) (olds:List Value),m=els.length->bZ I w els.flatten olds->(Builtin.firstCells i.size m (.slice cX m old)).run P w.drew= .ok olds.toArray w.drew->old<m+news.length->v= .slice cX m old->
   ∃dr aQ w',(Builtin.append_ #[t,tx] o.type #[v,a.eval z]).run P w= .ok dr w'/\ck B aQ w'/\Ext B I w aQ w'/\br B aQ w' (H' dr)/\Rel aQ w' (.aF k (els++news)) dr:=by
  intro cX m old olds hm ed rB cO Wc;subst hm;have kT:Builtin.nextslicecap (els.length+news.length) old*i.bytes<=281474976710656:=growslice_fits cO (by rw[lx];exact aw);have aK:=run_append_grow_src (P:=P) w t tx o.type e i zv mY av l2 cX els.length old olds rB (a.eval z) news.length us ee cO ad kT;rw[<-Wc] at aK;generalize c8:grownCap w (els.length+news.length) old e=G at aK;have oX:els.length+news.length<=G:=by rw[<-c8];exact grownCap_ge w _ old e
  have im:G<=maxLen:=by rw[<-c8];exact grownCap_le_maxLen w _ old e lu
  generalize pV:(olds++us).toArray++Builtin.zeroCells zv.cells (G - (els.length+news.length))=cur at aK;have oS:olds.length=els.length*k:=by rw[ed.length,qE gj]
  have vi:us.length=news.length*k:=by rw[aS.length,qE ir]
  have j6:cur.size=G*k:=by
   rw[<-pV];simp only[Array.size_append,List.size_toArray,List.length_append,size_zeroCells,jv,oS,vi, <-Nat.add_mul];congr 1;omega
  have MW:(olds++us).length=(els.length+news.length)*k:=by rw[List.length_append,oS,vi,Nat.add_mul]
  have j7:cur.toList.take ((els.length+news.length)*k)=olds++us:=by
   rw[<-pV, <-MW,Array.toList_append];exact List.take_left
  have CY:=hw.drew
  let aQ:a8:=λb o=>I b o\/(b=w.heap.size/\o<(els.length+news.length)*k)
  have iS:fb I w aQ (w.drew.alloc (.cells cur e)):=⟨λ_ _ x=>.inl x,λb o x=>(mq CY _).cell b o x⟩;have om:(w.drew.alloc (.cells cur e)).heap[w.heap.size]? =some (.cells cur e (0,0)):=heap_alloc_new w.drew _;refine⟨.slice (some ⟨w.heap.size,0,none⟩) (els.length+news.length) G,aQ,_,aK,⟨(CY.alloc _).base,λb o ag=>?_⟩,⟨iS.j0,iS.cell,(Wb.trans (kN CY (.cells cur e))).below⟩,?_,?_⟩
  ·rcases ag with ag | ⟨rfl,ag⟩
   ·exact (CY.alloc _).there b o ag
   ·have:o<cur.size:=by rw[j6];exact Nat.lt_of_lt_of_le ag (Nat.mul_le_mul_right k oX)
    exact⟨cur[o],by rw[kQ om];exact Array.getElem?_eq_getElem this⟩
  ·refine az.gH (hu _) iS (λb cO _=>Below.heap_alloc w.drew _ b cO) (λb o ag=>ag.elim .inl (λag=>.inr (.inr (by rw[ag.1];exact Nat.le_refl _)))) ?_ (λb aw=>.inr ?_)
   ·refine⟨els.length+news.length,olds++us,⟨MW,.inr ⟨w.heap.size,G,cur,rfl,hw.base,om,oX,im,j6,j7⟩⟩,λg al o aA b4=>?_⟩;simp[Value.ownBlock] at al;subst al;rcases b4 with b4 | ⟨_,b4⟩
    ·exact absurd (hw.lt b4) (Nat.lt_irrefl _)
    ·omega
   ·simp[aj.eX,Value.ownBlock] at aw;omega
  ·refine .aF _ _ _ _ _ _ bj oX im (oj _ _ (λx ag=>(List.mem_append.1 ag).elim (gj x) (ir x)) ?_);rw[List.flatten_append];refine vy om _ (olds++us) 0 ((ed.append aS).bQ iS) (λj u hu=>?_) (λj aU=>.inr ⟨rfl,?_⟩)
   ·rw[<-j7,List.getElem?_take] at hu;split at hu
    ·simpa using hu
    ·cases hu
   ·rw[<-List.flatten_append,qE (λx ag=>(List.mem_append.1 ag).elim (gj x) (ir x)),List.length_append] at aU;omega
 rcases fx.2 with⟨CZ,sF⟩ | ⟨g,cap,cur,gI,hBg,al,kT,im,j6,htake⟩
 ·-- from nil
  subst CZ;have lz:els= []:=by
   cases hold with
   | eP=>rfl
  subst lz;exact grown none 0 0 [] rfl .nil (by simp[Builtin.firstCells]) dj rfl
 ·subst gI;have Wd:n=els.length:=by cases hold with
   | eP=>rfl
   | aF _ _ _ _ _ _ ax _ _ _=>exact ax.symm
  subst Wd;have sE:fX I w k g 0 els:=by cases hold with
   | eP=>exact .nil _ _ _
   | aF _ _ _ _ _ _ _ _ _ he=>exact he
  obtain⟨olds,dg,dh,ea⟩:=sE.values;have dp:∀j u,olds[j]? =some u->cur[j]? =some u:=λj u hu=>by
   have:=ea j u hu;have a6:(⟨g,0,none⟩:Addr).add j=⟨g,j,none⟩:=by unfold Addr.add;split <;> simp_all
   rw[a6,kQ al] at this;exact this
  have holds:olds=xs:=by
   rw[<-htake];apply List.ext_getElem?;intro j;rw[List.getElem?_take];by_cases aU:j<els.length*k
   ·rw[if_pos aU];have cO:j<olds.length:=by omega
    rw[List.getElem?_eq_getElem cO];have:=dp j _ (List.getElem?_eq_getElem cO);simpa using this.symm
   ·rw[if_neg aU,List.getElem?_eq_none ad]
  by_cases qH:els.length+news.length<=cap
  ·-- in place
   have hfit:els.length*i.size+us.length<=cur.size:=by rw[j6,ee.newsLen,eH, <-Nat.add_mul];exact Nat.mul_le_mul_right _ qH
   have vi:us.length=news.length*k:=by rw[aS.length,qE ir]
   have eh:=run_storeCells_at P g (els.length*i.size) e us 0 cur w al (by simpa using hfit) ee.one;simp only[Nat.add_zero] at eh;have aK:(Builtin.append_ #[t,tx] o.type #[.slice (some ⟨g,0,none⟩) els.length cap,a.eval z]).run P w= .ok (.slice (some ⟨g,0,none⟩) (els.length+news.length) cap) (w.setRow g (cur.toList.take (els.length*i.size)++us++cur.toList.drop (els.length*i.size+us.length)).toArray):=by
    rcases ee.kind with⟨e'',ao⟩ | ao <;> simp[Builtin.append_,run_underlying mY,run_underlying ao,sizeOf,typeInfo,av,ee.len,qH,ee.cells,Addr.add_lit,eh]
   rw[eH] at aK;generalize Gq:(cur.toList.take (els.length*k)++us++cur.toList.drop (els.length*k+us.length)).toArray=cur' at aK;have jc:(w.setRow g cur').heap[g]? =some (.cells cur' e (0,0)):=setRow_heap w g cur cur' e (0,0) al
   let aQ:a8:=λb o=>I b o\/(b=g/\o<(els.length+news.length)*k)
   have MX:cur'.size=cap*k:=by
    rw[<-Gq];simp only[List.size_toArray,List.length_append,List.length_take,List.length_drop,Array.length_toList];rw[eH] at hfit;omega
   have MY:cur'.toList.take ((els.length+news.length)*k)=xs++us:=by
    rw[<-Gq,htake];have:(els.length+news.length)*k=(xs++us).length:=by rw[List.length_append,fx.1,vi,Nat.add_mul]
    rw[this];exact List.take_left
   have We:∀j,j<els.length*k->cur'[j]? =cur[j]? :=λj aU=>by
    rw[<-Gq];have ai:j<cur.size:=by rw[j6];exact Nat.lt_of_lt_of_le aU (Nat.mul_le_mul_right k kT)
    simp only[List.getElem?_toArray];rw[List.append_assoc,List.getElem?_append_left dj,List.getElem?_take,if_pos aU];simp
   have iS:fb I w aQ (w.setRow g cur'):=⟨λ_ _ x=>.inl x,λb o x=>by
    by_cases aw:b=g
    ·subst aw;have aA:o<els.length*k:=Nat.lt_of_not_le λhle=>cu b rfl o hle x;rw[kQ jc,kQ al];exact We o aA
    ·exact World.cell?_of_block (a:=⟨b,o,none⟩) (setRow_other w g b cur' aw)⟩
   refine⟨_,aQ,_,aK,⟨xK,λb o ag=>?_⟩,⟨iS.j0,iS.cell,⟨rfl,rfl,rfl,bj,λj aU=>setRow_other w g j cur' ad⟩⟩,?_,?_⟩
   ·rcases ag with ag | ⟨rfl,ag⟩
    ·rw[iS.cell b o ag];exact hw.there b o ag
    ·have:o<cur'.size:=by rw[MX];exact Nat.lt_of_lt_of_le ag (Nat.mul_le_mul_right k qH)
     exact⟨cur'[o],by rw[kQ jc];exact Array.getElem?_eq_getElem this⟩
   ·refine az.gH (hu _) iS (λb cO bq=>setRow_other w g b cur' (λe=>bq xN)) (λb o ag=>ag.elim .inl (λag=>.inr (.inl (by rw[ag.1];rfl)))) ?_ (λb aw=>.inl aw);refine⟨els.length+news.length,xs++us,⟨VD,.inr ⟨g,cap,cur',rfl,hBg,jc,qH,im,MX,MY⟩⟩,λjb CU o aA b4=>?_⟩;simp[Value.ownBlock] at CU;subst CU;rcases b4 with b4 | ⟨_,b4⟩
    ·exact cu g rfl o (Nat.le_trans (Nat.mul_le_mul_right k ad) aA) b4
    ·omega
   ·refine .aF _ _ _ _ _ _ bj qH im (oj _ _ (λx ag=>(List.mem_append.1 ag).elim (gj x) (ir x)) ?_);rw[List.flatten_append];rw[holds] at dg;refine vy jc _ (xs++us) 0 ((dg.append aS).bQ iS) (λj u hu=>?_) (λj aU=>.inr ⟨rfl,?_⟩)
    ·rw[<-MY,List.getElem?_take] at hu;split at hu
     ·simpa using hu
     ·cases hu
    ·rw[<-List.flatten_append,qE (λx ag=>(List.mem_append.1 ag).elim (gj x) (ir x)),List.length_append] at aU;omega
  ·refine grown (some ⟨g,0,none⟩) els.length cap olds rfl dg ?_ ad rfl;rw[eH];exact run_firstCells_some w.drew k els.length ⟨g,0,none⟩ els.length cap olds dh (by simpa using ea)
theorem au.Wf{h8:aa}{s z:Operand}{t tx e k dA cJ:Nat}{els news:List (List aa)}{v:Value}{y:aa}{g1 g2:Bool}{H':Value->List aj}[cy:hv P t (e,k,dA)][je:ft P tx cJ](cU:o.guard=none)(aN:jt c.n o.dst=true)
  (h:o.op= .call {callee:=.builtin .append,args:=#[s,z],argTypes:=#[t,tx]}) (aH:bf (aX st.env) s=some (g1,h8)) (dB:g1=true) (sD:aL h8 (.as (.aF k els) v)) (an:bf (aX st.env) z=some (g2,y)) (dY:g2=true) (hy:aL y (.aF k news))
  (ab:news.all eG=true) (hu:∀dr,bu st.H (.own e k v) (.own e k dr) (H' dr)) (aw:(els.length+news.length)*dA<=140737488355328) (gr:els.length+news.length<=9223372036854775807)
  (next:∀dr,au c r P ops rest ⟨jN o.dst (.as (.aF k (els++news)) dr) st.env,H' dr⟩ Q):au c r P ops (o::rest) st Q:=by
 intro a w sat;refine wpListIn_plain cU λK ca=>?_;obtain⟨I,hw,he,az,aC⟩:=sat.mem;refine (MU h aH dB sD an dY hy ab hu aw gr hw az (aC.ops o)) K Q ?_ (λ_ _ h=>h.elim);rintro x j1 ⟨aQ,aW,cN,gO,mv⟩;exact ca _ _ (next x _ _ ⟨zo,zm,aQ,aW,he.trans cN,gO,(aC.bQ cN.keeps).put (by rw[sat.size];exact aN) mv⟩)
theorem au.Wg{s z:Operand}{t tx e k dA cJ:Nat}{els news:List (List aa)}{v:Value}{y:aa}{g1 g2:Bool}{H':Value->List aj}[cy:hv P t (e,k,dA)][je:ft P tx cJ](cU:o.guard=none)(aN:jt c.n o.dst=true)
  (h:o.op= .call {callee:=.builtin .append,args:=#[s,z],argTypes:=#[t,tx]}) (aH:bf (aX st.env) s=some (g1,.as (.aF k els) v)) (dB:g1=true) (an:bf (aX st.env) z=some (g2,y)) (dY:g2=true) (hy:aL y (.aF k news))
  (ab:news.all eG=true) (hu:∀dr,bu st.H (.own e k v) (.own e k dr) (H' dr)) (aw:(els.length+news.length)*dA<=140737488355328) (gr:els.length+news.length<=9223372036854775807)
  (next:∀dr,au c r P ops rest ⟨jN o.dst (.as (.aF k (els++news)) dr) st.env,H' dr⟩ Q):au c r P ops (o::rest) st Q:=au.Wf cU aN h aH dB (.refl _) an dY hy ab hu aw gr next
end
inductive jy(P:Program)(st:dn):List ResultVar->List aa->Prop
 | nil:jy P st [] []
 | tmp {t:Nat} {y:aa} {rs:List ResultVar} {ys:List aa} (h:bf (aX st.env) (.tmp t)=some (true,y)) (r:jy P st rs ys):jy P st (.tmp t::rs) (y::ys)
 | zg {t ty b off tb n:Nat} {cs bY:List aa} {rs:List ResultVar} {ys:List aa} (bX:dy P ty (true,n)) (h:aX st.env t=some (.p b off)) (hm:aj.aI b tb cs∈st.H) (an:(cs.drop off).take n=bY) (hn:Nat.beq bY.length n=true) (r:jy P st rs ys):jy P st (.cell t ty::rs) (.agg bY::ys)
 | Cl {t ty b off tb n:Nat} {cs:List aa} {z:aa} {rs:List ResultVar} {ys:List aa} (bX:dy P ty (false,n)) (h:aX st.env t=some (.p b off)) (hm:aj.aI b tb cs∈st.H) (an:cs[off]? =some z) (r:jy P st rs ys):jy P st (.cell t ty::rs) (z::ys)
 | zh {t ty n:Nat} {cs:List aa} {rs:List ResultVar} {ys:List aa} (bX:dy P ty (true,n)) (h:aX st.env t=some (.ptr cs)) (hn:Nat.ble n cs.length=true) (r:jy P st rs ys):jy P st (.cell t ty::rs) (.agg (cs.take n)::ys)
 | LH {t ty n:Nat} {cs:List aa} {z:aa} {rs:List ResultVar} {ys:List aa} (bX:dy P ty (false,n)) (h:aX st.env t=some (.ptr cs)) (an:cs[0]? =some z) (r:jy P st rs ys):jy P st (.cell t ty::rs) (z::ys)
def rC(tmps:Array Value):ResultVar->Sem Value
 | .tmp t=>pure (tmps.getD t undef)
 | .cell a t=>do loadVar t (<-asAddr (tmps.getD a undef))
theorem jy.run{c:Ctx}{P:Program}{st:dn}{a:Act}{w:World}{I:a8}(az:br c.B I w st.H)(aC:fs I w (aX st.env) a):∀{rs:List ResultVar} {ys:List aa},jy P st rs ys->
  ∃vs,(rs.mapM (rC a.tmps)).run P w= .ok vs w/\bZ I w ys vs:=by
 intro rs ys h;have zP:∀{r:ResultVar} {rs:List ResultVar} {y:aa} {ys:List aa} {v:Value},(rC a.tmps r).run P w= .ok v w->Rel I w y v->(∃vs,(rs.mapM (rC a.tmps)).run P w= .ok vs w/\bZ I w ys vs)->∃vs,((r::rs).mapM (rC a.tmps)).run P w= .ok vs w/\bZ I w (y::ys) vs:=by
  rintro r rs y ys v ab ae ⟨vs,aD,aV⟩;exact⟨v::vs,by simp only[List.mapM_cons,Sem.run_bind,ab,aD,Result.andThen_ok,Sem.run_pure],.cons _ _ _ _ ae aV⟩
 induction h with
 | nil=>exact⟨[],rfl,.nil⟩
 | @tmp t y rs ys h r bm=>
  refine zP (v:=a.tmps.getD t undef) rfl ?_ bm;unfold bf at h;cases ag:kO (aX st.env) (.tmp t) with
  | none=>simp[ag] at h
  | some z=>simp[ag] at h;exact Mu (aC t z ag) h rfl
 | @zg t ty b off tb n cs bY rs ys bX h hm an hn r bm=>
  have ai:=ct (aC t _ h);obtain⟨_,vs,aw,aK,_⟩:=az.ok _ hm;have ed:bZ I w bY ((vs.toList.drop off).take n):=by rw[<-an];exact (aK.drop off).take n
  have hlen:((vs.toList.drop off).take n).length=n:=by rw[ed.length];exact Nat.eq_of_beq_eq_true hn
  have ax:=CT (P:=P) bX.h b off ((vs.toList.drop off).take n) w hlen (λj v aU=>by
   rw[kQ aw];rw[List.getElem?_take] at aU;split at aU
   ·simpa using aU
   ·cases aU)
  refine zP (v:=.agg ((vs.toList.drop off).take n).toArray) ?_ (.agg _ _ (by simpa using ed)) bm;simp[rC,ai,asAddr,ax]
 | @Cl t ty b off tb n cs z rs ys bX h hm an r bm=>
  have ai:=ct (aC t _ h);obtain⟨_,vs,aw,aK,_⟩:=az.ok _ hm;obtain⟨v,ab,ae⟩:=aK.get an;have ax:=zu (P:=P) bX.h b off v w (by rw[kQ aw];simpa using ab);refine zP (v:=v) ?_ ae bm;simp[rC,ai,asAddr,ax]
 | @zh t ty n cs rs ys bX h hn r bm=>
  have ai:=aC t _ h;generalize hu:a.tmps.getD t undef=u at ai;cases ai with
  | ptr _ b o ak=>
   obtain⟨vs,ab,ae⟩:=(ak.take n).values;have hlen:vs.length=n:=by rw[ab.length,List.length_take];exact Nat.min_eq_left (Nat.le_of_ble_eq_true hn)
   have ax:=CT (P:=P) bX.h b o vs w hlen ae;refine zP (v:=.agg vs.toArray) ?_ (.agg _ _ pQ) bm;simp only[rC,hu,asAddr,Sem.run_bind,Sem.run_pure,Result.andThen_ok,ax]
 | @LH t ty n cs z rs ys bX h an r bm=>
  have ai:=aC t _ h;generalize hu:a.tmps.getD t undef=u at ai;cases ai with
  | ptr _ b o ak=>
   obtain⟨v,ab,_,ae⟩:=ak.get an;have ax:=zu (P:=P) bX.h b o v w pQ;refine zP (v:=v) ?_ ae bm;simp only[rC,hu,asAddr,Sem.run_bind,Sem.run_pure,Result.andThen_ok,ax]
def kU:List aa->aa
 | [x]=>x
 | xs=>.bJ xs
theorem jy.res{c:Ctx}{P:Program}{st:dn}{a:Act}{w:World}{I:a8}(az:br c.B I w st.H)(aC:fs I w (aX st.env) a){fn:Func}{rs:List ResultVar}(aK:fn.results=rs.toArray){ys:List aa}(h:jy P st rs ys):
  ∃v,(results fn a.tmps).run P w= .ok v w/\Rel I w (kU ys) v:=by
 obtain⟨vs,ab,ae⟩:=h.run az aC;have aP:(results fn a.tmps).run P w= .ok (if h:vs.length=1 then vs[0] else .tuple vs.toArray) w:=by
  unfold Go.results;rw[aK,List.mapM_toArray];simp only[Sem.run_bind,Sem.run_map];have key:∀g:ResultVar->Sem Value,(∀r,g r=rC a.tmps r)->(rs.mapM g).run P w= .ok vs w:=λg al=>by rw[show g=rC a.tmps from funext al];exact ab
  rw[key _ (λr=>by cases r <;> rfl)];simp
 refine⟨_,aP,?_⟩;cases ae with
 | nil=>exact .bJ _ _ .nil
 | cons x v xs vs ag ht=>
  cases ht with
  | nil=>simpa [kU] using ag
  | cons y u xs vs hy ht=>exact .bJ _ _ (.cons _ _ _ _ ag (.cons _ _ _ _ hy ht))
section
variable{c:Ctx}{r:Option Nat}{P:Program}{ops:Array Oper}{l rest:List Oper}{o:Oper}{st:dn}{Q:Exit->Act->World->Prop}{x:aa}
theorem aR.c5{fn:Func}{B:Nat}{cl:a8}{aO:World}{n:Nat}{bw:aa->List aj->Prop}{E:aa->List aj->Prop}{rs:List ResultVar}{ys bY:List aa}{H':List aj}(aK:fn.results=rs.toArray)(h:jy P st rs ys)(hle:bO ys bY)
  (b0:H'.Sublist st.H) (fE:bw (kU bY) H'):aR ⟨B,cl,aO,n,[]⟩ st .ret (bodyPost P fn (fD B cl aO bw E)):=by
 intro a w s;obtain⟨I,hw,he,az,aC⟩:=s.mem;obtain⟨v,ab,ae⟩:=h.res (c:=⟨B,cl,aO,n,[]⟩) az aC aK;refine⟨s.ds,v,ab,I,H',hw,he,az.sub b0,.inl ⟨v,_,rfl,?_,fE⟩⟩;revert ae;cases hle with
 | nil=>exact id
 | cons ag ht=>
  cases ht with
  | nil=>exact ag _ _ _
  | cons hy ht=>exact aL.bJ (.cons ag (.cons hy ht)) _ _ _
theorem aR.oY{fn:Func}{B:Nat}{cl:a8}{aO:World}{n:Nat}{bw:aa->List aj->Prop}{E:aa->List aj->Prop}{rs:List ResultVar}{ys bY:List aa}{H':List aj}(aK:fn.results=rs.toArray)(h:jy P st rs ys)(hle:bO ys bY)
  (b0:H'.Sublist st.H) (fE:bw (kU bY) H'):aR ⟨B,cl,aO,n,[]⟩ st .normal (bodyPost P fn (fD B cl aO bw E)):=
 λa w s=>aR.c5 aK h hle b0 fE a w s
def C0(P:Program)(v:Value)(vs:List Value)(w:World)(R:Ending->World->Prop):Prop:=
 (∃f fq eQ,v= .func (.func f) fq eQ/\nt P f=true/\Calls P f (fq++vs.toArray++eQ) w R)\/
 (∃l,v= .func (.yield l) #[] #[]/\YieldAt (bb none) 0 P l vs.toArray w R)
def e4(B:Nat)(P:Program)(g:aa)(xs:List aa)(H:List aj)(bw:aa->List aj->Prop)(E:aa->List aj->Prop):Prop:=
 ∀(I:a8) (w:World) (v:Value) (vs:List Value),ck B I w->br B I w H->Rel I w g v->bZ I w xs vs->C0 P v vs w (fD B I w bw E)
theorem e4.fn{B:Nat}{f:FuncId}{bM xs cs:List aa}{H:List aj}{bw:aa->List aj->Prop}{E:aa->List aj->Prop}(h:b1 P f (bM++xs++cs) H bw E):e4 B P (.fn (.func f) bM cs) xs H bw E:=by
 intro I w v vs hw az aC dT;cases aC with
 | fn _ _ _ fq eQ aP ak=>
  refine .inl ⟨f,fq,eQ,rfl,h.1,?_⟩;have:=h.2 B I w (fq.toList++vs++eQ.toList) hw az ((aP.append dT).append ak);have e:(fq.toList++vs++eQ.toList).toArray=fq++vs.toArray++eQ:=by apply Array.ext';simp
  rwa [e] at this
def dC(B:Nat)(P:Program)(f:FuncId)(xs:List aa)(H:List aj)(bw:aa->List aj->Prop)(E:aa->List aj->Prop):Prop:=
 nt P f=true/\∀(I:a8) (w:World) (vs:List Value),ck B I w->br B I w H->bZ I w xs vs->Calls P f vs.toArray w (fD B I w bw E)
theorem b1.b{B:Nat}{f:FuncId}{xs:List aa}{H:List aj}{bw:aa->List aj->Prop}{E:aa->List aj->Prop}(h:b1 P f xs H bw E):dC B P f xs H bw E:=⟨h.1,h.2 B⟩
theorem e4.sG{B:Nat}{f:FuncId}{bM xs cs:List aa}{H:List aj}{bw:aa->List aj->Prop}{E:aa->List aj->Prop}(h:dC B P f (bM++xs++cs) H bw E):e4 B P (.fn (.func f) bM cs) xs H bw E:=by
 intro I w v vs hw az aC dT;cases aC with
 | fn _ _ _ fq eQ aP ak=>
  refine .inl ⟨f,fq,eQ,rfl,h.1,?_⟩;have:=h.2 I w (fq.toList++vs++eQ.toList) hw az ((aP.append dT).append ak);have e:(fq.toList++vs++eQ.toList).toArray=fq++vs.toArray++eQ:=by apply Array.ext';simp
  rwa [e] at this
theorem e4.qI{B:Nat}{f:FuncId}{xs:List aa}{H:List aj}{bw:aa->List aj->Prop}{E:aa->List aj->Prop}(cA:nt P f=true)(h:e4 B P (.fn (.func f) [] []) xs H bw E):dC B P f xs H bw E:=by
 refine⟨cA,λI w vs hw az dT=>?_⟩;rcases h I w (.func (.func f) #[] #[]) vs hw az (.fn _ _ _ _ _ .nil .nil) dT with⟨f',fq,eQ,e,_,ak⟩ | ⟨l,e,_⟩
 ·simp only[Value.func.injEq,Fn.func.injEq] at e;obtain⟨rfl,rfl,rfl⟩:=e;simpa using ak
 ·simp at e
theorem dC.of{B:Nat}{f:FuncId}{fn:Func}{code:Code}{xs:List aa}{H:List aj}{bw:aa->List aj->Prop}{E:aa->List aj->Prop}{n:Nat}(aP:P.funcs[f]? =some fn)(aw:fn.body=some code)(qp:(fn.name== "runtime.NumGoroutine")=false)
  (hn:fn.ntmps=n) (ax:Nat.ble xs.length n=true) (h:∀I w,aq ⟨B,I,w,n,[]⟩ none P code ⟨oi 0 xs,H⟩ (bodyPost P fn (fD B I w bw E))):dC B P f xs H bw E:=by
 refine⟨ve,λI w vs hw az aC=>vk (n:=0) (callsIn_of_wp aP aw trivial ?_ rfl)⟩;refine h I w _ w ⟨rfl,?_,I,hw,Ext.refl _ _ _,az,λt y hy=>?_⟩
 ·have:=aC.length;have:=Nat.le_of_ble_eq_true ax;simp;omega
 ·obtain⟨v,ab,ae⟩:=aC.get zl;have:(vs.toArray++Array.replicate (fn.ntmps - vs.toArray.size) undef).getD t undef=v:=by
   have cO:=(List.getElem?_eq_some_iff.1 ab).1;simp only[Array.getD_eq_getD_getElem?];rw[Array.getElem?_append_left xL];simp[ab]
  rw[this];exact ae
theorem MZ{x:Operand}{args:Array Operand}{iI:Array TypeId}{l:Nat}(h:o.op= .call {callee:=.value x,args:=args,argTypes:=iI})(a:Act)(w:World)
  (ag:a.eval x= .func (.yield l) #[] #[]) {fn:FuncId} {tmps:Array Value} {assign body:Code} (hy:(Instr.yield l (args.map a.eval)).run P w= .ok (.round l fn tmps assign body) w):
  (execOp a.eval o).run P w= .ok (.round l fn tmps assign body) w:=by
 simp[execOp,h,resolve,ag,Deferred.ofValue,invoke,hy]
theorem au.Gr{x:Operand}{args:Array Operand}{iI:Array TypeId}{jO:aa}{ys:List (Bool×aa)}{xs:List aa}{g:Bool}{bw:aa->List aj->Prop}{E:aa->List aj->Prop}(cU:o.guard=none)(aN:jt c.n o.dst=true)
  (h:o.op= .call {callee:=.value x,args:=args,argTypes:=iI}) (ag:bf (aX st.env) x=some (g,jO)) (al:g=true) (bN:j2 (aX st.env) args.toList=some ys) (nw:ys.all (·.1)=true) (hle:bO (ys.map (·.2)) xs)
  (aC:e4 c.B P jO xs st.H bw E) (next:∀y H',bw y H'->au c r P ops rest ⟨jN o.dst y st.env,H'⟩ Q)
  (oe:∀y H',E y H'->∀a w,Sat c ⟨st.env,H'⟩ a w->∀I v,Rel I w y v->Q (.panic [{v,recovered:=false}]) a w):au c r P ops (o::rest) st Q:=by
 intro a w s;refine wpListIn_plain cU λK ca=>?_;obtain⟨I,hw,he,az,sA⟩:=s.mem;have ab:=(sA.ops o).get ig ag al;have ae:=hle.rel (tM (sA.ops o) args.toList ys (λz an=>by simp[h,Op.operands,Call.operands];right;simpa using an) bN (by simpa using nw));have key:cM P r o a w (λv w'=>∃aQ H' x,ck c.B aQ w'/\Ext c.B I w aQ w'/\br c.B aQ w' H'/\Rel aQ w' x v/\bw x H')
  (λch w'=>∃aQ H' v x,ck c.B aQ w'/\Ext c.B I w aQ w'/\br c.B aQ w' H'/\ch= [{v,recovered:=false}]/\Rel aQ w' x v/\E x H'):=by
  have conv:∀e w',fD c.B I w bw E e w'->match e with
    | .returned v=>∃aQ H' x,ck c.B aQ w'/\Ext c.B I w aQ w'/\br c.B aQ w' H'/\Rel aQ w' x v/\bw x H'
    | .panicked ch=>∃aQ H' v x,ck c.B aQ w'/\Ext c.B I w aQ w'/\br c.B aQ w' H'/\ch= [{v,recovered:=false}]/\Rel aQ w' x v/\E x H'
    | .outgrown=>False:=by
   rintro e w' ⟨aQ,H',dc,cc,cW,⟨v,x,rfl,ag,fE⟩ | ⟨v,x,rfl,ag,e5⟩⟩
   ·exact⟨aQ,H',x,dc,cc,cW,ag,fE⟩
   ·exact⟨aQ,H',v,x,dc,cc,cW,rfl,ag,e5⟩
  rcases aC I w _ _ hw az ab ae with⟨f,fq,eQ,a6,cA,ij⟩ | ⟨l,a6,fn,tmps,assign,body,hy,hR⟩
  ·refine cM.qs cB (Gf h cA a w a6) (by
    have aW:(args.toList.map a.eval).toArray=args.map a.eval:=by apply Array.ext';simp
    rw[aW] at ij;exact ij.mono conv)
  ·have aW:(args.toList.map a.eval).toArray=args.map a.eval:=by apply Array.ext';simp
   rw[aW] at hy;exact cM.Mv cB (MZ h a w a6 hy) (hR.mono conv)
 refine key K Q ?_ ?_
 ·rintro v w' ⟨aQ,H',x,dc,cc,cW,ag,fE⟩;refine ca _ _ (next x H' fE _ _ ⟨jr,jq,aQ,dc,he.trans cc,cW,?_⟩);exact (sA.bQ cc.keeps).put rp ag
 ·rintro ch w' ⟨aQ,H',v,x,dc,cc,cW,rfl,ag,e5⟩;exact oe x H' e5 a w' ⟨s.ds,s.size,aQ,dc,he.trans cc,cW,sA.bQ cc.keeps⟩ aQ v ag
theorem br.perm{B:Nat}{I:a8}{w:World}{H H':List aj}(h:br B I w H)(aB:H.Perm H'):br B I w H':=
 ⟨λe he=>h.ok e (aB.mem_iff.2 he),(aB.pairwise_iff (λ{x y} rD b aw ag=>rD b ag aw)).1 h.apart⟩
theorem Sat.perm{a:Act}{w:World}{H':List aj}(s:Sat c st a w)(aB:st.H.Perm H'):Sat c ⟨st.env,H'⟩ a w:=
 ⟨s.ds,s.size,let ⟨I,hw,ag,az,aC⟩:=s.mem;⟨I,hw,ag,az.perm aB,aC⟩⟩
theorem au.perm{H':List aj}(aB:st.H.Perm H')(h:au c r P ops l ⟨st.env,H'⟩ Q):au c r P ops l st Q:=λa w s=>h a w (s.perm aB)
theorem aq.perm{p:Code}{H':List aj}(aB:st.H.Perm H')(h:aq c r P p ⟨st.env,H'⟩ Q):aq c r P p st Q:=λa w s=>h a w (s.perm aB)
theorem aR.perm{e:Exit}{H':List aj}(aB:st.H.Perm H')(h:aR c ⟨st.env,H'⟩ e Q):aR c st e Q:=λa w s=>h a w (s.perm aB)
theorem au.kz{H':List aj}(aB:st.H=H')(h:au c r P ops l ⟨st.env,H'⟩ Q):au c r P ops l st Q:=λa w s=>h a w (aB▸s)
end
end Go.Eng

