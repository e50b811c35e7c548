/- A part of the proof. No condition. -/
import Derived.Test.YtodccgailpkgeaaGreatKindInfersP19
set_option linter.defProp false
set_option maxHeartbeats 1000000
set_option linter.unusedVariables false
set_option linter.unusedSimpArgs false
set_option maxRecDepth 10000
namespace Go.Proofs.YtodccgailpkgeaaGreat
open Go.Proofs.Tryz
open Go.Eng
open Go.Eng.Fc
variable{f x:Fact}{a b eJ:Int}{l L:List Fact}{c ls:List cZ}{k i:Nat}{left:ak}{al:Value->dn}{α:Type}{o:cW}
def mK{W}:dS W f=true↔gN W f=true/\∀k∈f.kids,dS W k=true:=by
 cases f;rw[dS,Bool.and_eq_true,Hb];rfl
def zQ{W}(h:gN W f)(a:dm f):f.kids= []:=by
 simp[gN,dm,Bool.and_eq_true,decide_eq_true_eq,beq_iff_eq] at h a;have:j6 f.op=0:=by rw[j6,if_neg aa,if_neg aa]
 rw[this] at h;exact List.eq_nil_of_length_eq_zero aa
def tz{W}(h:lA W f):dS W f=true/\cU f<=24:=by
 have a:=C1 W f 24 12 h;have c:=(GK W f 24 12).2 h;exact⟨a.1,aa⟩
def xN{W}:∀f:Fact,dS W f=true->okB f=true:=by
 refine Fact.l5 λf q h=>?_;obtain⟨a,m⟩:=mK.1 h;have o:f.path.length<=1000:=by
  simp[gN,Bool.and_eq_true] at a;have:=a.2;split at this
  ·simp only[jl,o2,Bool.and_eq_true,Bool.not_eq_true',Bool.or_eq_false_iff,Bool.not_eq_false',decide_eq_true_eq] at this;have:=this.1.2.1;omega
  ·simp only[jk,Bool.not_eq_true',Bool.or_eq_false_iff,decide_eq_false_iff_not] at this;have:=this.1.1.2;omega
 simp only[gN,Bool.and_eq_true,decide_eq_true_eq,beq_iff_eq] at a;have g:∀l:List Fact,(∀k∈l,okB k=true)->xK l=true:=by
  intro l
  induction l with
  | nil=>intro _;rfl
  | cons x r j=>intro s;rw[xK,s x dv,j (λk g=>s k (.tail _ g))];rfl
 cases f;rw[okB];simp[Fact.op,Fact.kids,Fact.path] at a o m q;simp[Bool.and_eq_true,decide_eq_true_eq,beq_iff_eq];exact⟨⟨⟨⟨a.1.1.1,a.1.1.2⟩,a.1.2⟩,o⟩,g _ (λk c=>q k c (m k c))⟩
def ae8{a b}{l}(h:l∈fR a b):l∈a\/l∈b:=by
 unfold fR at h
 induction b generalizing a with
 | nil=>exact .inl h
 | cons x r c=>
  rcases c (a:=nE a x) h with h | h
  ·unfold nE at h;split at h
   ·exact .inl h
   ·rcases List.mem_append.1 h with h | h
    ·exact .inl h
    ·simp at h;subst h;exact .inr dv
  ·exact .inr (.tail _ h)
def D3{W}:∀f:Fact,dS W f=true->∀b,∀c∈eh f b,∀l∈c,gN W l.f=true/\dm l.f=true:=by
 refine Fact.l5 λf t h b c a l j=>?_;obtain⟨z,s⟩:=mK.1 h;have r:=xN f h;by_cases q:f.op=1
 ·rw[Au q] at a;cases b <;> simp at a;subst a;cases j
 by_cases o:f.op=5
 ·have C:=AB r o;rw[Av o aa] at a;exact t _ gX (s _ gX) _ c a l j
 by_cases m:dm f=true
 ·rw[Aw q o m] at a;simp at a;subst a;simp at j;subst j;exact⟨z,m⟩
 ·have g:dm f=false:=by simpa using m
  have D:=Az r q o g;have v:=t (f.kids.getD 0 default) gX (s _ gX) b;have w:=t (f.kids.getD 1 default) gX (s _ gX) b;cases hcc:(b==(f.op==6)) with
  | true=>
   rw[Ax q o g hcc aa] at a;rcases List.mem_append.1 a with h | h
   ·exact v c h l j
   ·exact w c h l j
  | false=>
   rw[Ay q o g hcc aa] at a;obtain⟨x,B,a⟩:=List.mem_flatMap.1 a;obtain⟨y,A,rfl⟩:=List.mem_map.1 a;rcases ae8 j with h | h
   ·exact v x B l h
   ·exact w y A l h
def RS{W}(r:cx W){l}(h:gN W l.f)(g:dm l.f):mX W l:=by
 have t:=q0 r;have c:=zQ h g;simp[gN,Bool.and_eq_true] at h;have m:=h.2;rw[if_pos g] at m;simp[dm,Bool.and_eq_true,decide_eq_true_eq] at g;simp[jl,o2,Bool.and_eq_true,Bool.not_eq_true',Bool.or_eq_false_iff,Bool.not_eq_false',decide_eq_true_eq,decide_eq_false_iff_not,List.all_eq_true,o0] at m;obtain⟨⟨⟨q,s⟩,o,j⟩,a⟩:=m;unfold kE at a;refine⟨g,λaV=>?_,?_,lz,aa,j,c⟩
 ·rw[if_pos aV] at a;simp[jf,Bool.and_eq_true,decide_eq_true_eq] at a;exact⟨a.2.1,by have:=a.2.2;omega⟩
 ·split at a
  ·simp[Bool.and_eq_true,beq_iff_eq] at a;omega
  ·simp[Bool.and_eq_true,beq_iff_eq,decide_eq_true_eq] at a;omega
def RT{W}(m:cx W){f}(h:dS W f)(hn:cU f<=300):Jl W f:=
 ⟨xN f h,aa,λb c g=>⟨λl j=>let ⟨a,b⟩:=D3 f h b c g l j;RS m a b,Nat.le_trans (Ja f (xN f h) b c g) hn⟩⟩
def Jm{W}(h:dS W f):dS W (ox f)=true:=by
 rw[mK];refine⟨cO,λk a=>?_⟩;simp[ox,Fact.kids] at a;subst a;exact h
def Jn{W}{f g}(h:dS W f)(c:dS W g):dS W (sA f g)=true:=by
 rw[mK];refine⟨cO,λk a=>?_⟩;simp[sA,Fact.kids] at a;rcases a with rfl | rfl <;> assumption
def Jo(f):cU (ox f)=cU f+1:=by simp[ox,cU,fk];omega
def Jp(f g):cU (sA f g)=cU f+cU g+1:=by simp[sA,cU,fk];omega
noncomputable def impF (W:bt) (a b:Fact):Bool:=!canF W (sA a (ox b))
def pj(W:bt)(l:List Fact):Bool:=cx W && l.all (lA W)
def ae9{W}(h:pj W l):aG prog 171 [ab.world W,ab.facts l] (.bk [iP W,.b true]):=by
 simp only[pj,Bool.and_eq_true] at h;have:=O7 h.1 l;rwa [h.2] at this
def afa{W}(c:cx W){a b}(f:dS W a)(g:dS W b)(j:cU a<=100)(h:cU b<=100):aG prog 255 [iP W,ab.fact a,ab.fact b] (.b (impF W a b)):=by
 intro H;refine aM func255 λB I l=>?_;refine aI ?_;refine bP 5 14 ?_;refine aF ?_;refine bg (ad.call .k (adN b)) ?_;refine bg (ad.call .k (adO a (ox b))) ?_;refine aO ?_;refine ag (ad.call .k (ae7 c (RT c (Jn f (Jm g)) (by rw[Jp,Jo];omega)))) ?_;refine aT ?_;refine aC 6 (H) ?_;exact⟨dO,rfl⟩
def afb{W}(h:pj W l):cx W=true:=by simp[pj,Bool.and_eq_true] at h;exact h.1
def D4{W}(h:pj W l){f}(a:f∈l):dS W f=true/\cU f<=24:=by
 simp[pj,Bool.and_eq_true,List.all_eq_true] at h;exact tz (h.2 f a)
def afc{W}{a b}(h:pj W [a,b]):aG prog 234 [ab.world W,ab.fact a,ab.fact b] (.bk [.b (impF W a b),.i 0]):=by
 intro H;refine aM func234 λB I f=>?_;refine c4 ?_;refine ag (ad.row rfl rfl cC rfl rfl rfl rfl rfl rfl) ?_;refine ag (.s4 .k (.cons h8 (.cons (tr [a,b] rfl) .nil)) (ae9 h)) ?_;refine c4 ?_;refine bc (λaf=>?_) λaf=>?_
 ·cases af
 ·refine aP ?_;refine ag (.call .k (afa (afb h) (D4 h dv).1 (D4 h uX).1 (Nat.le_trans (D4 h (.head _)).2 aa) (Nat.le_trans (D4 h (.tail _ (.head _))).2 aa))) ?_;refine aT ?_;refine dL [.tmp 6,.tmp 7] (H) ?_;exact⟨dO,rfl⟩
abbrev ab.jR(l:List (List Fact)):ab:=.ai 1 (l.map λx=>[ab.facts x])
def eV(c:List cZ):List Fact:=c.map ju
structure AH(c:List cZ)(k:Nat)(left:ak):Prop where
 afd:∀x∈left,0<=x/\x<c.length
 len:left.length<=c.length
 has:∀m:Nat,k<=m->m<c.length->(m:Int)∈left
def AH.filter{c}{k}{left}(h:AH c k left):AH c (k+1) (left.filter λm=>!(m==(k:Int))):=
 ⟨λx f=>h.afd x (List.mem_filter.1 f).1,Nat.le_trans zx h.len,λm g a=>List.mem_filter.2 ⟨h.has m aa a,cB⟩⟩
def AH.ne(h:AH c k left)(a:k<c.length):left≠ []:=λe=>by have:=h.has k fs a;rw[e] at this;cases this
def an.b4(h:a=b):an (.i a) (.i b):=h▸ .refl _
theorem RU:∀{l m:ak},l.Pairwise (· <= ·)->m.Pairwise (· <= ·)->l.Perm m->l=m
 | [],m,_,_,h=>h.nil_eq
 | a::l,[],_,_,h=>absurd h.length_eq aS
 | a::l,b::m,q,r,h=>by
  have o:=List.pairwise_cons.1 q;have j:=List.pairwise_cons.1 r;have g:a=b:=by
   have f:b∈a::l:=h.mem_iff.2 dv;have c:a∈b::m:=h.mem_iff.1 dv;rcases List.mem_cons.1 f with e | f
   ·exact e.symm
   ·rcases List.mem_cons.1 c with e | c
    ·exact e
    ·have:=o.1 b f;have:=j.1 a c;omega
  subst g;rw[RU o.2 j.2 h.cons_inv]
def vL(x:Int):ak->ak
 | []=>[x]
 | y::r=>if x<=y then x::y::r else y::vL x r
def xO:ak->ak
 | []=>[]
 | x::r=>vL x (xO r)
theorem Jq(x):∀l:ak,(vL x l).Perm (x::l)
 | []=>.refl _
 | y::r=>by
  rw[vL];split
  ·exact .refl _
  ·exact ((Jq x r).cons y).trans (.swap _ _ _)
theorem RV(x):∀l:ak,l.Pairwise (· <= ·)->(vL x l).Pairwise (· <= ·)
 | [],_=>by simp[vL]
 | y::r,h=>by
  rw[vL];have f:=List.pairwise_cons.1 h;split
  ·rename_i c;exact List.pairwise_cons.2 ⟨λz a=>by rcases List.mem_cons.1 a with rfl | a;exact c;have:=f.1 z a;omega,h⟩
  ·rename_i c;exact List.pairwise_cons.2 ⟨λz a=>by rcases List.mem_cons.1 ((Jq x r).mem_iff.1 a) with rfl | a;omega;exact f.1 z a,RV x r f.2⟩
theorem D5:∀l:ak,(xO l).Perm l
 | []=>.refl _
 | x::r=>(Jq x _).trans ((D5 r).cons x)
theorem Jr:∀l:ak,(xO l).Pairwise (· <= ·)
 | []=>.nil
 | x::r=>RV x _ (Jr r)
def afe(l):hS l=xO l:=by
 refine RU ?_ (Jr l) ((List.mergeSort_perm l _).trans (D5 l).symm);have:=List.pairwise_mergeSort (le:=λ(x y:Int)=>decide (x<=y)) (λa b c f a=>by simp at*;omega) (λa b=>by simp;omega) l;exact this.imp λh=>by simpa using h
abbrev cQ:=Int->ak->dn
def jS(al:cQ)(a:Int)(p:ak)(k:dn):cQ:=λkA re=>if kA=a/\re=p then k else al kA re
def lb(s:Int)(k:dn):dn:=if k.av.contains s then k else {k with av:=xO (k.av++[s])}
def aff(s)(k):nG s k=lb s k:=by unfold nG lb;rw[afe]
def lI(l:cZ):cQ->ak->ak->cQ
 | al,_,[]=>al
 | al,pre,s::r=>
  lI l (jS (jS al l.f.arg pre (lb s (al l.f.arg pre))) l.f.arg (pre++[s]) (ie l (jS al l.f.arg pre (lb s (al l.f.arg pre)) l.f.arg (pre++[s])))) (pre++[s]) r
def vM(al:cQ)(l:cZ):cQ:=
 jS (lI l (jS al l.f.arg [] (ie l (al l.f.arg []))) [] l.f.path) l.f.arg l.f.path (fS (lI l (jS al l.f.arg [] (ie l (al l.f.arg []))) [] l.f.path l.f.arg l.f.path) l)
def ec(ls:List cZ):cQ:=ls.foldl vM (λ_ _=>kn)
def afg{p q}(s:p.length<=2)(o:q.length<=2)(h:bJ a p=bJ b q):a=b/\p=q:=by
 have f:∀i:Nat,∀x y:Int,(rl a p)[i]? =some (.int .i64 x)->(rl b q)[i]? =some (.int .i64 y)->x=y:=by
  intro i x y g j;have m:(rl a p)=(rl b q):=by
   have:=congrArg (λv:Value=>match v with | .agg c=>c.toList | _=>[]) h;simpa using this
  rw[m,j] at g;simpa using g.symm
 have r:=f 0 a b rfl rfl;have g:=f 1 p.length q.length rfl rfl;have j:=f 2 (p.getD 0 0) (q.getD 0 0) rfl rfl;have m:=f 3 (p.getD 1 0) (q.getD 1 0) rfl rfl;refine⟨r,?_⟩
 match p,q,s,o with
 | [],[],_,_=>rfl
 | [x],[y],_,_=>simp at j;rw[j]
 | [x,t],[y,w],_,_=>simp at j m;rw[j,m]
 | [],_::_,_,_=>simp at g;omega
 | _::_,[],_,_=>simp at g;omega
 | [_],_::_::_,_,_=>simp at g;omega
 | _::_::_,[_],_,_=>simp at g;omega
def jv(al:Value->dn)(cv:cQ):Prop:=∀a p,p.length<=2->al (bJ a p)=cv a p
def jv.fE{cv}(h:jv al cv){a}{p}(f:p.length<=2)(k):jv (updK al (bJ a p) k) (jS cv a p k):=by
 intro b q c;unfold updK jS;by_cases e:b=a/\q=p
 ·rw[if_pos e,if_pos (by rw[e.1,e.2])]
 ·rw[if_neg e,if_neg (λjL=>e (afg c f jL))];exact h b q c
theorem jv.walk{l}:∀(r:ak) {al:Value->dn} {cv:cQ} (c:ak),jv al cv->c.length+r.length<=2->jv (walkK l al c r) (lI l cv c r)
 | [],al,cv,c,h,_=>h
 | s::r,al,cv,c,h,m=>by
  simp[List.length_cons] at m;rw[walkK,lI];have g:jv (updK al (bJ l.f.arg c) (nG s (al (bJ l.f.arg c)))) (jS cv l.f.arg c (lb s (cv l.f.arg c))):=by
   rw[aff,h _ _ aa];exact h.fE aa _
  have j:=g.fE (a:=l.f.arg) (p:=c++[s]) cB (ie l (updK al (bJ l.f.arg c) (nG s (al (bJ l.f.arg c))) (bJ l.f.arg (c++[s]))));rw[g _ (c++[s]) cB] at j;have o:=jv.walk (l:=l) r (c++[s]) j cB;rw[g _ (c++[s]) cB];exact o
def jv.add{cv}(h:jv al cv){l}(j:l.f.path.length<=2):jv (addK al l) (vM cv l):=by
 unfold addK vM vI;have c:=h.fE (a:=l.f.arg) (p:=[]) aS (ie l (al (bJ l.f.arg [])));rw[h l.f.arg [] aS] at c ⊢;have g:=jv.walk (l:=l) l.f.path [] c cB;rw[g _ _ j];exact g.fE j _
def afh{W}(c:∀l∈ls,mX W l):jv (stageK ls) (ec ls):=by
 unfold stageK ec;have:∀(ls:List cZ) (al:Value->dn) (cv:cQ),jv al cv->(∀l∈ls,mX W l)->jv (ls.foldl addK al) (ls.foldl vM cv):=by
  intro ls
  induction ls with
  | nil=>intro al cv h _;exact h
  | cons l ls g=>intro al cv h c;exact g _ _ (h.add (c l dv).path) (λx f=>c x (.tail _ f))
 exact this ls _ _ (λ_ _ _=>rfl) c
def xP(al:cQ)(arg:Int)(path:ak):Bool:=(al arg path).av.all λs=>!(al arg (path++[s])).gi
def xQ(al:cQ)(arg:Int)(path:ak)(cls:Int):Bool:=((l4 (al arg path).bA (sE cls):Int)==0) && ((((al arg path).no &&& sE cls:Nat):Int)==0) && xP al arg path
def xR(al:cQ)(arg:Int)(path:ak):Bool:=decide (mW (al arg path).dz (al arg path).low<=(al arg path).high) && xQ al arg path 1
def xS(al:cQ)(arg:Int)(path:ak):Bool:=!(al arg path).whole && xQ al arg path 2
def qc(W:bt)(al:cQ)(can:ak->Bool)(arg:Int)(path:ak):ak->Nat->Nat->Option (Nat×Nat)
 | [],bA,no=>some (bA,no)
 | s::r,bA,no=>
  if(al arg (path++[s])).gi && !can (path++[s]) then none
  else if(al arg (path++[s])).gi then qc W al can arg path r (bA ||| 2^(W.owner.getD s.toNat default).toNat) no
  else if !can (path++[s]) then qc W al can arg path r bA (no ||| 2^(W.owner.getD s.toNat default).toNat)
  else qc W al can arg path r bA no
def vN(W:bt)(al:cQ)(can:ak->Bool)(arg:Int)(path:ak):Nat×Bool:=
 if(al arg path).whole || (al arg path).bA.testBit 1 || (al arg path).bA.testBit 2 || (al arg path).no.testBit 0 then (0,false)
 else match qc W al can arg path (al arg path).av (al arg path).bA (al arg path).no with
  | none=>(0,false)
  | some (bA,no)=>(l4 (jQ W W.parents.length 3 bA) 1,((l4 (jQ W W.parents.length 3 bA) 1 &&& no:Nat):Int)==0)
def rp(W:bt)(al:cQ):Nat->Int->ak->Bool
 | 0,arg,path=>xR al arg path || xS al arg path || (vN W al (λ_=>false) arg path).2
 | d+1,arg,path=>xR al arg path || xS al arg path || (vN W al (rp W al d arg) arg path).2
def afi{cv}(h:jv al cv)(g:∀a p,p.length=2->(al (bJ a p)).av= []){arg}{path}(f:path.length<=2):Jc al arg path=xP cv arg path:=by
 unfold Jc xP;rw[h arg path f];by_cases j:path.length=2
 ·have:=g arg path j;rw[h arg path f] at this;rw[this];rfl
 ·have c:∀s,al (bJ arg (path++[s]))=cv arg (path++[s]):=λs=>h _ _ cB;congr 1;funext s;rw[c]
def RW{cv}(h:jv al cv)(f:∀a p,p.length=2->(al (bJ a p)).av= []){arg}{path}(c:path.length<=2)(cls):tX al arg path cls=xQ cv arg path cls:=by
 unfold tX xQ;rw[h arg path c,afi h f c]
def RX{cv}(h:jv al cv)(f:∀a p,p.length=2->(al (bJ a p)).av= []){arg}{path}(c:path.length<=2):vG al arg path=xR cv arg path:=by
 unfold vG xR;rw[h arg path c,RW h f c]
def RY{cv}(h:jv al cv)(f:∀a p,p.length=2->(al (bJ a p)).av= []){arg}{path}(c:path.length<=2):vH al arg path=xS cv arg path:=by
 unfold vH xS;rw[h arg path c,RW h f c]
theorem D6{W}{al}{cv}(h:jv al cv){g f}{arg}{path}(c:path.length<2)(a:∀s,g (path++[s])=f (path++[s])):∀(l:ak) (bA no:Nat),iw W al g arg path l bA no=qc W cv f arg path l bA no
 | [],bA,no=>rfl
 | s::r,bA,no=>by
  rw[iw,qc];rw[h arg (path++[s]) cB,a,D6 h c a r,D6 h c a r,D6 h c a r]
def RZ{W}{cv}(h:jv al cv)(l:∀a p,p.length=2->(al (bJ a p)).av= []){f c}{arg}{path}(g:path.length<=2)(j:path.length<2->∀s,f (path++[s])=c (path++[s])):oz W al f arg path=vN W cv c arg path:=by
 unfold oz vN;simp[];rw[h arg path g];by_cases m:path.length=2
 ·have:=l arg path m;rw[h arg path g] at this;rw[this,iw,qc]
 ·rw[D6 h aa (j aa)];generalize qc W cv c arg path (cv arg path).av (cv arg path).bA (cv arg path).no=o;cases o <;> rfl
theorem D7{W}{al}{cv}(h:jv al cv)(c:∀a p,p.length=2->(al (bJ a p)).av= []){arg}:∀(d:Nat) (path:ak),path.length+d=2->rm W al d arg path=rp W cv d arg path
 | 0,path,f=>by rw[rm,rp,RX h c aa,RY h c aa,RZ h c aa (λao=>absurd ao aa)]
 | d+1,path,f=>by rw[rm,rp,RX h c aa,RY h c aa,RZ h c aa (λao s=>D7 h c d (path++[s]) cB)]
def vO(W:bt)(ls:List cZ):Bool:=rp W (ec ls) 2 0 [] && rp W (ec ls) 2 1 [] && rp W (ec ls) 2 2 []
def afj{W}(c:∀l∈ls,mX W l):togetherK W ls=vO W ls:=by
 have h:=afh c;have a:=(jb.RL c).deep;rw[togetherK,vO];simp[rn,List.range_succ,List.range_zero,List.nil_append,List.cons_append,List.all_cons,List.all_nil,Bool.and_true];rw[D7 h a 2 [] rfl,D7 h a 2 [] rfl,D7 h a 2 [] rfl];simp[Bool.and_assoc]
def AI(W:bt)(f:Fact):Bool:=(eh f false).any (vO W)
def any_eq{l:List α}{p q}(h:∀x∈l,p x=q x):l.any p=l.any q:=by
 induction l with
 | nil=>rfl
 | cons x r c=>rw[List.any_cons,List.any_cons,h x dv,c (λy a=>h y (.tail _ a))]
def afk{W}(h:RR W c):togetherK W c=vO W c:=afj h.1
def afl{W}(h:Jl W f):canF W f=AI W f:=any_eq λc a=>afk (h.case false c a)
def tZ(W:bt)(a b:Fact):Bool:=!AI W (sA a (ox b))
def imp_eq{W}(h:cx W){a b}(c:dS W a)(f:dS W b)(j:cU a<=100)(g:cU b<=100):impF W a b=tZ W a b:=by
 rw[impF,tZ,afl (RT h (Jn c (Jm f)) (by rw[Jp,Jo];omega))]
def Js:bt:=⟨[[],[3],[],[4,5]],[3,5]⟩
def xT(c:Int)(p:ak):Fact:=.mk 2 0 p c 0 []
def afm(n:Int)(p:ak):Fact:=.mk 3 0 p 0 n []
def gr:tZ Js (xT 4 []) (xT 3 [])=true:=by decide+kernel
def cv:tZ Js (sA (xT 4 []) (xT 5 [])) (xT 6 [])=false:=by decide+kernel
def Jt:tZ Js (afm 7 [0]) (xT 3 [])=true:=by decide+kernel
def afn(a b):aG prog 161 [ab.fact a,ab.fact b] (ab.fact (sA a b)):=by
 intro H;refine aM func161 λB I c=>?_;refine aY ?_;refine bK (λdM=>?_);refine ax ?_;refine ag h7 ?_;refine aT ?_;refine .cg (rs:=[.cell 4 60]) (H':=H) rfl sQ (.cons (.agg (.cons h8 (.cons h8 (.cons (an.nil 1) (.cons (.refl _) (.cons (.refl _) (.cons (tr [a,b] rfl) .nil))))))) .nil) bC ?_;exact⟨dO,rfl⟩
def R0(f):aG prog 162 [ab.fact f] (ab.fact (ox f)):=by
 intro H;refine aM func162 λB I a=>?_;refine aF ?_;refine bK (λdM=>?_);refine aT ?_;refine ag h7 ?_;refine aT ?_;refine .cg (rs:=[.cell 2 60]) (H':=H) rfl sQ (.cons (.agg (.cons h8 (.cons h8 (.cons (an.nil 1) (.cons (.refl _) (.cons (.refl _) (.cons (tr [f] rfl) .nil))))))) .nil) bC ?_;exact⟨dO,rfl⟩
def afo[Inhabited α]{ha fe:List α}{k:Nat}(br:ha.length=fe.length)(bD:k<ha.length)(ck:ha.take k=fe.take k)(h:ha.getD k default=fe.getD k default):ha.take (k+1)=fe.take (k+1):=by
 rw[<-dN.c2 bD, <-dN.c2 aa,ck,h]
def afp(a)(s:∀k∈a.kids,∀y,aG prog 235 [ab.fact k,ab.fact y] (.b (k==y)))(b):aG prog 235 [ab.fact a,ab.fact b] (.b (a==b)):=by
 intro H;refine aM func235 λB I C=>?_;refine Xb ?_;refine aj.db rfl rfl rfl rfl rfl rfl (λaw=>.call (.mk' rfl rfl rfl rfl c9) (Hk a.path b.path)) ?_;refine dk ?_;refine bc (λaf=>?_) λaf=>?_
 ·have f:a≠b:=by rintro rfl;simp at af
  refine aP ?_;refine aC 4 H ?_;exact⟨bq (by simp[f]),rfl⟩
 ·have c:(a.op=b.op/\a.arg=b.arg/\a.cls=b.cls/\a.n=b.n/\a.path=b.path)/\a.kids.length=b.kids.length:=by
   simp[eM,Bool.or_eq_false_iff,bne_eq_false_iff_eq,Bool.not_eq_false',beq_iff_eq] at af;obtain⟨⟨⟨⟨⟨w,ao⟩,q⟩,z⟩,r⟩,D⟩:=af;exact⟨⟨w,ao,q,z,r⟩,aa⟩
  refine bR ?_;refine bo (λm x=>∃k:Nat,x=⟨[(52,.i k),(51,.i a.kids.length),(2,.ptr (fy a)),(3,.ptr (fy b))],H⟩/\m=a.kids.length - k/\k<=a.kids.length/\a.kids.take k=b.kids.take k) ⟨0,rfl,rfl,Nat.zero_le _,rfl⟩ ?_;rintro m _ ⟨k,rfl,rfl,B,l⟩;refine .FP (t:=2) (i:=5) rfl rfl λp3=>?_;refine ax ?_;refine az (λae=>?_) λae=>?_
  ·have g:k<a.kids.length:=by omega
   have v:=c.2;refine bE ?_;refine bP 10 68 ?_;refine bR ?_;refine ag (.call .k (s (a.kids.getD k default) (hQ g) (b.kids.getD k default))) ?_;refine aF ?_;refine bc (λao=>?_) λao=>?_
   ·have f:a≠b:=by
     rintro rfl;simp at ao
    refine bE ?_;refine aC 4 H ?_;exact⟨bq (by simp[f]),rfl⟩
   ·have A:a.kids.getD k default=b.kids.getD k default:=by simpa using ao
    refine aP ?_;exact aW ⟨k+1,rfl,rfl,aa,afo c.2 g l A⟩
  ·obtain rfl:k=a.kids.length:=by omega
   rw[List.take_length,c.2,List.take_length] at l;have j:a=b:=Fact.ext' c.1.1 c.1.2.1 c.1.2.2.2.2 c.1.2.2.1 c.1.2.2.2.1 l;refine bE ?_;refine aC 4 H ?_;exact⟨bq (by simp[j]),rfl⟩
def afq(a b):aG prog 235 [ab.fact a,ab.fact b] (.b (a==b)):=Fact.l5 (P:=λa=>∀b,aG prog 235 [ab.fact a,ab.fact b] (.b (a==b))) (λa c b=>afp a c b) a b
def uB(l:List α)(i j)(x y:α):(l.set i x).getD j y=if i=j/\i<l.length then x else l.getD j y:=by
 simp[List.getD_eq_getElem?_getD,List.getElem?_set];by_cases h:i=j
 ·by_cases a:j<l.length
  ·simp[h,a]
  ·simp[h,a]
 ·simp[h]
theorem sc:∀(l:List ak) (i:Nat) (U:dq) (j:Nat),j<3+i->(hA l i U).getD j 0=U.getD j 0
 | [],i,U,j,h=>by rw[hA]
 | x::r,i,U,j,h=>by
  rw[hA,sc r (i+1) _ j aa,uB,if_neg aa]
def zS{W}(h:cx W):iB 0 W.parents=true:=by simp[cx,Bool.and_eq_true] at h;exact h.1.2
def pZ{W}(h:cx W){i}(a:i<W.parents.length):∀p∈W.parents.getD i default,3<=p/\p<3+i:=by
 have:=Hc W.parents 0 i (zS h) a;rw[Nat.zero_add] at this;exact zR i _ _ this
theorem zT:∀(l:List ak) (i:Nat) (U:dq) (k:Nat),3+i+l.length<=U.length->iB i l=true->k<l.length->∀b,((hA l i U).getD (3+(i+k)) 0).testBit b=(b==0 || b==3+(i+k) || (l.getD k default).any λp=>((hA l i U).getD p.toNat 0).testBit b)
 | [],i,U,k,c,_,a,b=>by simp at a
 | x::r,i,U,0,c,h,a,b=>by
  rw[iB,Bool.and_eq_true] at h;rw[hA,sc r (i+1) _ _ aa,uB,if_pos ⟨aa,by simp at c;omega⟩,Ol];show _=(b==0 || b==3+(i+0) || x.any _);rw[Nat.add_zero];congr 1;refine tA λp f=>?_;have:=zR i x [] h.1 p f;rw[sc r (i+1) _ _ aa,uB,if_neg aa]
 | x::r,i,U,k+1,c,h,a,b=>by
  rw[iB,Bool.and_eq_true] at h;have:=zT r (i+1) (U.set (3+i) (o1 U i x)) k (by simp at c ⊢;omega) h.2 (by simpa using a) b;rw[hA,show i+(k+1)=i+1+k from by omega];exact this
def oe{W}(h:cx W){i}(a:i<W.parents.length)(b):gv W (3+i) b=(b==0 || b==3+i || (W.parents.getD i default).any λp=>gv W p.toNat b):=by
 have:=zT W.parents 0 ([1,3,5]++List.replicate 60 0) i (by have:=q0 h;simp;omega) (zS h) a b;rw[Nat.zero_add] at this;exact this
def q2{W}{c}(a:c<3)(b):gv W c b=(b==0 || b==c):=by
 rw[gv,mF,sc _ _ _ _ aa];have:c=0\/c=1\/c=2:=by omega
 rcases this with rfl | rfl | rfl
 ·show Nat.testBit 1 b=_;rcases b with _ | b
  ·rfl
  ·rw[Nat.testBit_succ];simp
 ·show Nat.testBit 3 b=_;rcases b with _ | _ | b
  ·rfl
  ·rfl
  ·rw[Nat.testBit_succ,Nat.testBit_succ];simp
 ·show Nat.testBit 5 b=_;rcases b with _ | _ | _ | b
  ·rfl
  ·rfl
  ·rfl
  ·rw[Nat.testBit_succ,Nat.testBit_succ,Nat.testBit_succ];simp
def Hd{W}(h:cx W){c}(f:c<3+W.parents.length):gv W c 0=true:=by
 by_cases a:c<3
 ·rw[q2 a];rfl
 ·rw[show c=3+(c - 3) from by omega,oe h aa];rfl
def ui{W}(h:cx W){c}(f:c<3+W.parents.length):gv W c c=true:=by
 by_cases a:c<3
 ·rw[q2 a];simp
 ·have e:c=3+(c - 3):=by omega
  have:=oe h (i:=c - 3) aa c;rw[<-e] at this;rw[this];simp
instance:th prog 28 (4,1,.bool false):=⟨ay⟩
def ca(x:Fact):Fact×Bool:=if x.op=5 then (x.kids.getD 0 default,true) else (x,false)
def xU(x:Fact):Prop:=x.op=5->x.kids≠ []
def mi(W:bt)(L:List Fact)(arg:Int)(path:ak):bl:=cD W++[ab.facts L,.i arg,ab.ints path,.b false]
abbrev ab.mj(W:bt)(L:List Fact)(arg:Int)(path:ak):ab:=.agg (mi W L arg path)
def ld(p w:ak):Bool:=decide (p.length>=w.length) && p.take w.length==w
def pk(arg:Int)(path:ak)(x:Fact):Bool:=(ca x).1.arg==arg && (ca x).1.path==path
def ei(L:List Fact)(arg:Int)(path:ak):List Fact:=L.filter (pk arg path)
def AJ(arg:Int)(path:ak)(x:Fact):Bool:=!(ca x).2 && ((ca x).1.arg==arg && ld (ca x).1.path path)
def oB(L:List Fact)(arg:Int)(path:ak):Bool:=!L.any (AJ arg path)
def rq(arg:Int)(path:ak)(x:Fact):Bool:=(ca x).1.arg==arg && ld (ca x).1.path path
def ef(W:bt)(L:List Fact)(arg:Int)(path:ak):ak:=((List.range W.owner.length).map λ(n:Nat)=>(n:Int)).filter λs=>L.any (rq arg (path++[s]))
def rr(L:List Fact)(arg:Int)(path:ak)(n:Nat):ak:=((List.range n).map λ(n:Nat)=>(n:Int)).filter λs=>L.any (rq arg (path++[s]))
def afr(L)(arg)(path)(n):(rr L arg path n).length<=n:=Nat.le_trans zx aS
def afs{arg}{path}(h:L.any (rq arg (path++[(k:Int)]))=true):rr L arg path (k+1)=rr L arg path k++[(k:Int)]:=by
 rw[rr,List.range_succ,List.map_append,List.filter_append];congr 1;simp[List.map_cons,List.map_nil,List.filter_cons,h,if_true,List.filter_nil]
def aft{arg}{path}(h:L.any (rq arg (path++[(k:Int)]))=false):rr L arg path (k+1)=rr L arg path k:=by
 rw[rr,List.range_succ,List.map_append,List.filter_append];simp only[List.map_cons,List.map_nil,List.filter_cons,h,List.filter_nil];exact List.append_nil _
def vP(W:bt)(L:List Fact)(arg:Int)(path:ak):Bool:=(ef W L arg path).all λs=>oB L arg (path++[s])
def afu(W)(L)(arg)(path)(slot):ab.agg (cD W++[ab.facts L,.i arg,.ai 1 ((path.map λn=>[.i n])++[[.i slot]]),.b false])=ab.mj W L arg (path++[slot]):=by
 rw[ab.mj,mi,ab.ints,List.map_append];rfl
instance:Mh prog 260 3 4:=⟨ay⟩
def sa(l:ak):(l.map λn=>[.i n]).all dB=true:=DT (λ_=>rfl) l
def xV(x)(h:xU x):aG prog 257 [ab.fact x] (.bk [ab.fact (ca x).1,.b (ca x).2]):=by
 intro H;refine aM func257 λB I c=>?_;refine aF ?_;refine bK (λdM=>?_);refine bE ?_;refine az (λaf=>?_) λaf=>?_
 ·refine aY ?_;refine ag ((by first | exact .fC rfl rfl rfl rfl rfl ⟨aa,by have:=List.length_pos_iff.2 (h af);omega⟩ | exact .ep rfl rfl rfl rfl rfl ⟨aa,by have:=List.length_pos_iff.2 (h af);omega⟩)) ?_;refine aP ?_;refine .cg (rs:=[.cell 2 60,.tmp 3]) (H':=H) rfl sP cL bC ?_;exact⟨by rw[ca,if_pos af];rfl,rfl⟩
 ·refine bY ?_;refine .cg (rs:=[.cell 2 60,.tmp 3]) (H':=H) rfl sP cL bC ?_;exact⟨by rw[ca,if_neg af];rfl,rfl⟩
def R1(p w):aG prog 269 [.ints p,.ints w] (.b (ld p w)):=by
 intro H;refine aM func269 λB I a=>?_;refine .eG (t:=0) rfl λgV=>?_;refine .eG (t:=1) rfl λvi=>?_;refine ji ?_;refine gb (λaw=>.B2 rfl rfl qp rfl qp wq) ?_;refine aR ?_;refine aj.db rfl rfl rfl rfl rfl rfl (λaw=>.call (.mk' rfl rfl rfl rfl c9) (Hk (p.take w.length) w)) ?_;refine aT ?_;refine aC 4 H ?_;exact⟨bq (by rw[ld,show decide ((p.length:Int)>=w.length)=decide (p.length>=w.length) from by rw[decide_eq_decide];omega];cases decide (p.length>=w.length) <;> rfl),rfl⟩
def Ju(W)(L)(arg)(path)(slot)(h:path.length<=1000):aG prog 260 [ab.mj W L arg path,.i slot] (ab.mj W L arg (path++[slot])):=by
 intro H;refine aM func260 λB I c=>?_;refine aF ?_;refine bK (λdM=>?_);refine aF ?_;refine .cw mixed ?_;refine .V2 3 1 (path.map λn=>[.i n]) ([[.i slot]]) 13 16 8 11 0 14 20 (by intro x a;rcases List.mem_append.1 a with a | a;(· obtain⟨y,_,rfl⟩:=List.mem_map.1 a;rfl);(· rcases List.mem_singleton.1 a with rfl;rfl)) rfl aq aq rfl rfl aq ?_;refine bj.oV aq rfl rfl rfl rfl rfl (λ_=>b5) ?_;refine bj.oV aq rfl rfl rfl rfl rfl (λ_=>nK) ?_;refine bj.oV aq rfl rfl rfl rfl rfl (λ_=>b5) ?_;refine bj.oV aq rfl rfl rfl rfl rfl (λ_=>cJ) ?_;refine bj.oV aq rfl rfl rfl rfl rfl (λ_=>b5) ?_;refine bj.oV aq rfl rfl rfl rfl rfl (λ_=>cJ) ?_;refine bj.oV aq rfl rfl rfl rfl rfl (λ_=>b5) ?_;refine bj.oV aq rfl rfl rfl rfl rfl (λ_=>cJ) ?_;refine bj.V3 aq aq rfl rfl rfl rfl rfl rfl rfl rfl gu (sa path) nL nL ?_;refine bj.oV aq rfl rfl rfl rfl rfl (λ_=>.move rfl rfl rfl) ?_;refine bj.oV aq rfl rfl rfl rfl rfl (λ_=>.row rfl rfl cC rfl rfl rfl rfl rfl rfl) ?_;refine bj.V4 aq aq aq rfl rfl rfl rfl rfl (λ_=>rfl) rfl gu rfl (by rw[List.length_map];simp;omega) (by rw[List.length_map];simp;omega) ?_;refine bj.oV aq rfl rfl rfl rfl rfl (λ_=>b5) ?_;refine bj.oV aq rfl rfl rfl rfl rfl (λ_=>cJ) ?_;refine bj.nil ?_;refine ax ?_;refine dL [.cell 4 260] H ?_;exact⟨afu W L arg path slot,rfl⟩
def R2(arg)(path)(x):(bif bif !(ca x).2 then (ca x).1.arg==arg else false then ld (ca x).1.path path else false)=AJ arg path x:=by
 rw[kd,kd,AJ,Bool.and_assoc]
def R3(arg)(path)(x):(bif (ca x).1.arg==arg then (ca x).1.path==path else false)=pk arg path x:=by
 rw[kd,pk]
def afv(t)(arg)(path)(x):(bif t then true else bif (ca x).1.arg==arg then ld (ca x).1.path path else false)=(t || rq arg path x):=by
 rw[eM,kd,rq]
def Jv[Inhabited α]{l:List α}{i:Nat}{p:α->Bool}(h:i<l.length):(l.take (i+1)).any p=((l.take i).any p || p (l.getD i default)):=by
 rw[<-dN.c2 h,List.any_append,List.any_cons,List.any_nil,Bool.or_false]
def R4[Inhabited α]{l:List α}{i}{p}(h:i<l.length)(c:p (l.getD i default)=true):l.any p=true:=List.any_eq_true.2 ⟨_,hQ h,c⟩
def R5[Inhabited α]{l:List α}{i:Nat}{p:α->Bool}(h:i<l.length):(l.take (i+1)).filter p=(l.take i).filter p++if p (l.getD i default) then [l.getD i default] else []:=by
 rw[<-dN.c2 h,List.filter_append];congr 1;by_cases e:p (l.getD i default)=true
 ·rw[if_pos e];simp only[List.filter_cons,e,if_true,List.filter_nil]
 ·rw[if_neg e];simp only[List.filter_cons,e,if_false,List.filter_nil];rfl
def R6(l)(x):ab.ai 6 (kt l++[fy x])=ab.facts (l++[x]):=by rw[ab.facts,oK,oK,List.map_append];rfl
def R7(W)(L)(f:∀x∈L,xU x)(arg)(path):aG prog 261 [ab.mj W L arg path] (.b (oB L arg path)):=by
 intro H;refine aM func261 λB I j=>?_;refine .n0 (t:=0) (i:=2) rfl rfl λgV=>?_;refine ji ?_;refine bo (λm g=>∃i:Nat,g=⟨[(10,.i i),(9,.i L.length),(8,ab.facts L),(1,.ptr (mi W L arg path))],H⟩/\m=L.length - i/\i<=L.length/\(L.take i).any (AJ arg path)=false) iA ?_;rintro m _ ⟨i,rfl,rfl,h,a⟩;refine ax ?_;refine az (λaf=>?_) λaf=>?_
 ·refine aI ?_;refine bK (λdM=>?_);refine ax ?_;refine ag (.call .k (xV (L.getD i default) (f (L.getD i default) gX))) ?_;refine aF ?_;refine bK (λb1=>?_);refine jj ?_;refine aj.db rfl rfl rfl rfl rfl rfl (λaw=>.call (.mk' rfl rfl rfl rfl c9) (R1 (ca (L.getD i default)).1.path path)) ?_;refine aF ?_;refine az (λae=>?_) λae=>?_
  ·refine bE ?_;refine aC 2 H ?_;exact⟨bq (by rw[R2] at ae;rw[oB,R4 (i:=i) aa ae];rfl),rfl⟩
  ·refine aP ?_;exact aW ⟨i+1,rfl,rfl,aa,by rw[R2] at ae;rw[Jv aa,a,ae];rfl⟩
 ·obtain rfl:i=L.length:=by omega
  rw[List.take_length] at a;refine bE ?_;refine aC 2 H ?_;exact⟨bq (by rw[oB,a];rfl),rfl⟩
def Jw(W:bt)(L)(g:∀x∈L,xU x)(o:L.length<=1000)(arg:Int)(path):aG prog 256 [ab.mj W L arg path] (ab.facts (ei L arg path)):=by
 intro H;refine aM func256 λB I l=>?_;refine dk ?_;refine hh 3 60 6 ?_;refine aI ?_;refine bo (λm h=>∃(i:Nat) (v:Value),h=⟨[(11,.i i),(10,.i L.length),(9,ab.facts L),(3,.as (ab.facts ((L.take i).filter (pk arg path))) v),(1,.ptr (mi W L arg path))],.own 60 6 v::H⟩/\m=L.length - i/\i<=L.length) (⟨0,_,rfl,rfl,aa⟩) ?_;rintro m _ ⟨i,v,rfl,rfl,j⟩;refine ax ?_;refine az (λaf=>?_) λaf=>?_
 ·have f:((L.take i).filter (pk arg path)).length<=1000:=Nat.le_trans zx yi;refine aI ?_;refine bK (λdM=>?_);refine ax ?_;refine ag (ad.call .k (xV (L.getD i default) (g (L.getD i default) gX))) ?_;refine aF ?_;refine bK (λb1=>?_);refine ji ?_;refine aj.db rfl rfl rfl rfl rfl rfl (λaw=>ad.call (.mk' rfl rfl rfl rfl c9) (Hk (ca (L.getD i default)).1.path path)) ?_;refine aF ?_;refine bc (λae=>?_) (λae=>?_)
  ·rw[R3] at ae;have e:(L.take (i+1)).filter (pk arg path)=(L.take i).filter (pk arg path)++[L.getD i default]:=by rw[R5 aa,if_pos ae]
   refine aF ?_;refine ag (ad.row rfl rfl cC rfl rfl rfl rfl rfl rfl) ?_;refine aj.dJ rfl rfl rfl rfl rfl rfl rfl rfl (an.refl _) (rfl) (λ_=>df) K7 (by show (kt _).length+1<=_;rw[oK,List.length_map];omega) (λoC=>?_);refine aY ?_;refine aB.le 3 (y:=.as (ab.facts ((L.take (i+1)).filter (pk arg path))) oC) rfl (by rw[e, <-R6];exact an.refl _) ?_;refine aY ?_;exact aW (⟨i+1,oC,rfl,rfl,aa⟩)
  ·rw[R3] at ae;have e:(L.take (i+1)).filter (pk arg path)=(L.take i).filter (pk arg path):=by rw[R5 aa,if_neg (by rw[ae];simp),List.append_nil]
   refine aF ?_;rw[<-e];refine aY ?_;exact aW (⟨i+1,v,rfl,rfl,aa⟩)
 ·obtain rfl:i=L.length:=by omega
  rw[List.take_length];refine bR ?_;refine aZ.cg (rs:=[.tmp 2]) (H':=H) rfl (.tmp rfl (.nil)) (.cons (an.e2 _ _) .nil) bC ?_;exact⟨cO,rfl⟩
def R8(W:bt)(L:List Fact)(g:∀x∈L,xU x)(l:W.owner.length<=40)(arg:Int)(path:ak)(q:path.length<=100):aG prog 259 [ab.mj W L arg path] (ab.ints (ef W L arg path)):=by
 intro H;refine aM (n:=54) func259 λB I r=>?_;refine aB.n0 (t:=0) (i:=2) rfl rfl (λgV=>?_);refine dk ?_;refine hh 3 3 1 ?_;refine ba ?_;refine bo (λm a=>∃(k:Nat) (v:Value),a=⟨[(14,.i k),(13,.i W.owner.length),(3,.as (ab.ints (rr L arg path k)) v),(1,.ptr (mi W L arg path))],.own 3 1 v::H⟩/\m=W.owner.length - k/\k<=W.owner.length) (⟨0,_,rfl,rfl,aa⟩) ?_;rintro m _ ⟨k,v,rfl,rfl,j⟩;refine ax ?_;refine az (λaf=>?_) λaf=>?_
 ·have h:=afr L arg path k;refine Cy ?_;refine bo (λm a=>∃(i:Nat),a=⟨[(20,.i i),(19,.i L.length),(18,ab.facts L),(5,.b ((L.take i).any (rq arg (path++[(k:Int)])))),(4,.i k),(14,.i k),(13,.i W.owner.length),(3,.as (ab.ints (rr L arg path k)) v),(1,.ptr (mi W L arg path))],.own 3 1 v::H⟩/\m=L.length - i/\i<=L.length) (⟨0,rfl,rfl,aa⟩) ?_;rintro m _ ⟨i,rfl,rfl,o⟩;refine ax ?_;refine az (λae=>?_) λae=>?_
  ·refine aI ?_;refine bK (λdM=>?_);refine ax ?_;refine ag (ad.call .k (xV (L.getD i default) (g (L.getD i default) (hQ aa)))) ?_;refine aF ?_;refine bK (λb1=>?_);refine aY ?_;refine aB.cw mixed ?_;refine aI ?_;refine b0.dG 2 6 54 rfl aq rfl rfl aq ?_;refine dk ?_;refine b0.dG 8 14 54 rfl aq rfl rfl aq ?_;refine aY ?_;refine eO.db rfl rfl rfl rfl rfl (λaw=>ad.call (.mk' rfl rfl rfl rfl c9) (Ju W L arg path k aa)) ?_;refine eO.db rfl rfl rfl rfl rfl (λaw=>ad.V6 rfl rfl (cl aw) rfl) ?_;refine aO ?_;refine aj.db rfl rfl rfl rfl rfl rfl (λaw=>ad.call (.mk' rfl rfl rfl rfl c9) (R1 (ca (L.getD i default)).1.path (path++[(k:Int)]))) ?_;refine bY ?_;exact aW (⟨i+1,by rw[Jv aa, <-afv],rfl,aa⟩)
  ·obtain rfl:i=L.length:=by omega
   rw[List.take_length];refine bY ?_;refine bc (λao=>?_) (λao=>?_)
   ·have e:=afs ao;refine aF ?_;refine ag (ad.row rfl rfl cC rfl rfl rfl rfl rfl rfl) ?_;refine aj.dJ rfl rfl rfl rfl rfl rfl rfl rfl (an.refl _) (rfl) (λ_=>df) La EY (λv51=>?_);refine aY ?_;refine aB.le 3 (y:=.as (ab.ints (rr L arg path (k+1))) v51) rfl (by rw[e,ab.ints,List.map_append];exact an.refl _) ?_;refine aY ?_;exact aW (⟨k+1,v51,rfl,rfl,aa⟩)
   ·have e:=aft ao;refine aF ?_;rw[<-e];refine aY ?_;exact aW (⟨k+1,v,rfl,rfl,aa⟩)
 ·obtain rfl:k=W.owner.length:=by omega
  refine bR ?_;refine aZ.cg (rs:=[.tmp 2]) (H':=H) rfl (.tmp rfl (.nil)) (.cons (an.e2 _ _) .nil) bC ?_;exact⟨cO,rfl⟩
def R9(W:bt)(L:List Fact)(e5:∀x∈L,xU x)(bb:W.owner.length<=40)(arg:Int)(path:List Int)(ck:path.length<=100):aG prog 258 [ab.mj W L arg path] (.b (vP W L arg path)):=by
 intro H;refine aM (n:=18) func258 λB I bW=>?_;refine bY ?_;refine ag (ad.call .k (R8 W L e5 bb arg path ck)) ?_;refine aT ?_;refine bo (λm st=>∃i:Nat,st=⟨[(8,.i i),(7,.i (ef W L arg path).length),(6,ab.ints (ef W L arg path)),(1,.ptr (mi W L arg path))],H⟩/\m=(ef W L arg path).length - i/\i<=(ef W L arg path).length/\((ef W L arg path).take i).all (λs=>oB L arg (path++[s]))=true) (⟨0,rfl,rfl,aa,rfl⟩) ?_;rintro m _ ⟨i,rfl,rfl,aQ,yT⟩;refine aR ?_;refine aB.eG (t:=6) rfl (λa8=>?_);refine aT ?_;refine az (λaf=>?_) λaf=>?_
 ·refine eb ?_;refine ag (ad.call .k (Ju W L arg path _ aa)) ?_;refine ag (ad.call .k (R7 W L e5 arg _)) ?_;refine aF ?_;refine az (λae=>?_) λae=>?_
  ·refine bE ?_;refine aC 2 (H) ?_;exact⟨bq (by rw[vP];symm;rw[List.all_eq_false];exact⟨(ef W L arg path).getD i default,hQ aa,m2⟩),rfl⟩
  ·refine aP ?_;exact aW (⟨i+1,rfl,rfl,aa,by rw[<-dN.c2 aa,List.all_append,yT];simpa using ae⟩)
 ·obtain rfl:i=(ef W L arg path).length:=by omega
  rw[List.take_length] at yT;refine bE ?_;refine aC 2 (H) ?_;exact⟨bq (by rw[vP,yT]),rfl⟩
structure ua(W:bt)(x:Fact):Prop where
 split:xU x
 op:2<=(ca x).1.op/\(ca x).1.op<=4
 cls:(ca x).1.op=2->0<=(ca x).1.cls/\(ca x).1.cls<3+W.parents.length
 n: -1000000000<=(ca x).1.n/\(ca x).1.n<=1000000000
 path:(ca x).1.path.length<=2
abbrev qd:=Int×Int×ak
def oG(a b:Int):Int:=if b>a then b else a
def pr(a b:Int):Int:=if b<a then b else a
def ml(s:qd)(x:Fact):Option qd:=
 if(ca x).1.op=2 then (if(decide ((ca x).1.cls>1) !=(ca x).2)=true then none else some s)
 else if(ca x).1.op=3 then (if(ca x).2=true then some (oG s.1 (ca x).1.n,s.2.1,s.2.2) else some (s.1,pr s.2.1 ((ca x).1.n - 1),s.2.2))
 else if(ca x).2=true then some (s.1,s.2.1,s.2.2++[(ca x).1.n])
 else some (oG s.1 (ca x).1.n,pr s.2.1 (ca x).1.n,s.2.2)
def qe:List Fact->qd->Option qd
 | [],s=>some s
 | x::r,s=>match ml s x with
  | none=>none
  | some t=>qe r t
def AK:qd:=(-1000000000,1000000000,[])
def ru(W:bt)(L:List Fact)(arg:Int)(path:ak):Int×Bool:=
 match qe (ei L arg path) AK with
 | none=>(0,false)
 | some s=>if mW s.2.2 s.1<=s.2.1 then (mW s.2.2 s.1,vP W L arg path) else (0,false)
def isNone(x:Fact):Bool:=(ca x).1.op==2 && ((ca x).1.cls==0 || (ca x).1.cls==2)
def ub(W:bt)(L:List Fact)(arg:Int)(path:ak):Bool:=((ei L arg path).all λx=>!(isNone x==(ca x).2)) && vP W L arg path
def xW{s:qd}(h:i<l.length):qe (l.drop i) s=match ml s (l.getD i default) with
  | none=>none
  | some t=>qe (l.drop (i+1)) t:=by
 rw[List.drop_eq_getElem_cons h,qe,pX h]
def Jy{arg}{path}(h:x∈ei L arg path):x∈L:=(List.mem_filter.1 h).1
def Jz(L)(arg)(path):(ei L arg path).length<=L.length:=List.length_filter_le _ _
theorem Sa(a):∀(f:Nat) (n:Int),n<=oy a f n
 | 0,n=>by rw[oy];omega
 | f+1,n=>by rw[oy];split;(· have:=Sa a f (n+1);omega);(· omega)
def afw(a)(n):n<=mW a n:=Sa a _ n
def afx(l)(x n:Int):(!(l++[x]).contains n)=bif !l.contains n then x !=n else false:=by
 rw[List.contains_eq_any_beq,List.contains_eq_any_beq,List.any_append,kd,Bool.not_or];congr 1;simp[bne,BEq.comm]
def afy{s}(h:(ca x).1.op=2)(a:(decide ((ca x).1.cls>1) !=(ca x).2)=false):ml s x=some s:=by rw[ml,if_pos h,if_neg (by rw[a];simp)]
def afz{s}(h:(ca x).1.op=2)(a:(decide ((ca x).1.cls>1) !=(ca x).2)):ml s x=none:=by rw[ml,if_pos h,if_pos a]
def afA{s}(h:(bif (ca x).1.op==3 then (ca x).2 else false)=true):ml s x=some (oG s.1 (ca x).1.n,s.2.1,s.2.2):=by
 rw[kd,Bool.and_eq_true,beq_iff_eq] at h;rw[ml,if_neg aa,if_pos h.1,if_pos h.2]
def int_lt{s}(h:(bif (ca x).1.op==3 then (ca x).2 else false)=false)(c:(ca x).1.op=3):ml s x=some (s.1,pr s.2.1 ((ca x).1.n - 1),s.2.2):=by
 rw[kd,Bool.and_eq_false_iff,beq_eq_false_iff_ne] at h;have a:(ca x).2=false:=h.resolve_left aa;rw[ml,if_neg aa,if_pos c,if_neg (by rw[a];simp)]
def afB{s}(a: ¬(ca x).1.op=2)(c: ¬(ca x).1.op=3)(h:(ca x).2):ml s x=some (s.1,s.2.1,s.2.2++[(ca x).1.n]):=by rw[ml,if_neg a,if_neg c,if_pos h]
def int_eq{s}(a: ¬(ca x).1.op=2)(c: ¬(ca x).1.op=3)(h:(ca x).2=false):ml s x=some (oG s.1 (ca x).1.n,pr s.2.1 (ca x).1.n,s.2.2):=by rw[ml,if_neg a,if_neg c,if_neg wv]
def afC(W:bt)(L:List Fact)(e5:∀x∈L,ua W x)(br:L.length<=1000)(bb:W.owner.length<=40)(arg:Int)(path:List Int)(ck:path.length<=100):aG prog 236 [ab.mj W L arg path] (.bk [.i (ru W L arg path).1,.b (ru W L arg path).2]):=by
 intro H;refine aM (n:=95) func236 λB I bW=>?_;have mM:=Jz L arg path;refine jj ?_;refine aB.qx 6 3 1 rfl ?_;refine aO ?_;refine ag (ad.call .k (Jw W L (λx aK=>(e5 x aK).split) br arg path)) ?_;refine aT ?_;refine bo (λm st=>∃(i:Nat) (s:qd) (v:Value),st=⟨[(18,.i i),(17,.i (ei L arg path).length),(16,ab.facts (ei L arg path)),(6,.as (ab.ints s.2.2) v),(5,.i s.2.1),(4,.i s.1),(1,.ptr (mi W L arg path))],.own 3 1 v::H⟩/\m=(ei L arg path).length - i/\i<=(ei L arg path).length/\qe ((ei L arg path).drop i) s=qe (ei L arg path) AK/\-1000000000<=s.1/\s.1<=1000000000/\-1000000001<=s.2.1/\s.2.1<=1000000000/\s.2.2.length<=i) (⟨0,AK,_,rfl,rfl,aa,rfl,c8,c8,c8,c8,c8⟩) ?_;rintro m _ ⟨i,s,v,rfl,rfl,aQ,hR,a8⟩;refine ax ?_;refine az (λaf=>?_) λaf=>?_
 ·have aK:=e5 ((ei L arg path).getD i default) (Jy (hQ aa));have alc:=aK.n;refine aI ?_;refine aj.uP rfl rfl rfl rfl (λdM=>?_);refine ax ?_;refine ag (ad.call .k (xV ((ei L arg path).getD i default) aK.split)) ?_;refine aF ?_;refine aj.uP rfl rfl rfl rfl (λb1=>?_);refine dk ?_;refine az (λae=>?_) λae=>?_
  ·refine ba ?_;refine aB.cond rfl (λao=>?_) (λao=>?_)
   ·refine dk ?_;refine dL [.tmp 2,.tmp 3] (H) ?_;exact⟨by rw[xW aa,afz ae ao] at hR;rw[ru, <-hR];rfl,rfl⟩
   ·refine aY ?_;refine aY ?_;exact aW (⟨i+1,s,v,rfl,rfl,aa,by rw[xW aa,afy ae ao] at hR;exact hR,x7⟩)
  ·refine bE ?_;refine az (λaV=>?_) λaV=>?_
   ·refine aY ?_;refine ag (ad.max2 rfl rfl rfl rfl rfl rfl) ?_;refine aT ?_;refine aY ?_;exact aW (⟨i+1,(oG s.1 (ca ((ei L arg path).getD i default)).1.n,s.2.1,s.2.2),v,rfl,rfl,aa,by rw[xW aa,afA aV] at hR;exact hR,x7⟩)
   ·refine aI ?_;refine az (λbu=>?_) λbu=>?_
    ·refine aT ?_;refine ag (ad.min2 rfl rfl rfl rfl rfl rfl) ?_;refine aT ?_;refine aY ?_;exact aW (⟨i+1,(s.1,pr s.2.1 ((ca ((ei L arg path).getD i default)).1.n - 1),s.2.2),v,rfl,rfl,aa,by rw[xW aa,int_lt aV bu] at hR;exact hR,x7⟩)
    ·refine ax ?_;refine az (λcr=>?_) λcr=>?_
     ·refine aY ?_;refine ag (ad.row rfl rfl cC rfl rfl rfl rfl rfl rfl) ?_;refine aj.dJ rfl rfl rfl rfl rfl rfl rfl rfl (an.refl _) (rfl) (λv=>by repeat (first | exact bG.head _ _ _ | apply bG.tail)) La EY (λv70=>?_);refine aT ?_;refine aB.le 6 (y:=.as (ab.ints (s.2.2++[(ca ((ei L arg path).getD i default)).1.n])) v70) rfl (by rw[ab.ints,List.map_append];exact an.refl _) ?_;refine aY ?_;exact aW (⟨i+1,(s.1,s.2.1,s.2.2++[(ca ((ei L arg path).getD i default)).1.n]),v70,rfl,rfl,aa,by rw[xW aa,afB ae bu cr] at hR;exact hR,x7⟩)
     ·refine aB.cw mixed ?_;refine b0.Mj (.i (oG s.1 (ca ((ei L arg path).getD i default)).1.n)) 4 8 0 9 95 rfl rfl aq aq rfl rfl aq ?_;refine bj.zd aq aq rfl rfl rfl rfl (ad.move rfl rfl rfl) ?_;refine bj.zd aq aq rfl rfl rfl rfl (b5) ?_;refine bj.zd aq aq rfl rfl rfl rfl (cJ) ?_;refine bj.zd aq aq rfl rfl rfl rfl (ad.max2 rfl rfl rfl rfl rfl rfl) ?_;refine bj.ze aq rfl rfl rfl rfl (ad.move rfl rfl rfl) ?_;refine bj.ze aq rfl rfl rfl rfl (b5) ?_;refine bj.ze aq rfl rfl rfl rfl (cJ) ?_;refine bj.ze aq rfl rfl rfl rfl (ad.min2 rfl rfl rfl rfl rfl rfl) ?_;refine bj.Ml aq aq rfl rfl rfl (ad.assign rfl rfl rfl) ?_;refine bj.nil ⟨rfl,?_⟩;refine ax ?_;refine aY ?_;exact aW (⟨i+1,(oG s.1 (ca ((ei L arg path).getD i default)).1.n,pr s.2.1 (ca ((ei L arg path).getD i default)).1.n,s.2.2),v,rfl,rfl,aa,by rw[xW aa,int_eq ae bu cr] at hR;exact hR,x7⟩)
 ·obtain rfl:i=(ei L arg path).length:=by omega
  rw[List.drop_length,qe] at hR;refine aP ?_;refine aB.le 6 (y:=ab.ints s.2.2) rfl (an.e2 _ _) ?_;refine ax ?_;refine bo (λm st=>∃(n:Int),st=⟨[(11,.i n),(6,ab.ints s.2.2),(5,.i s.2.1),(1,.ptr (mi W L arg path))],H⟩/\m=(s.2.1+1 - n).toNat/\s.1<=n/\n<=1000000001/\mW s.2.2 n=mW s.2.2 s.1) (⟨s.1,rfl,rfl,aa,aa,rfl⟩) ?_;rintro m _ ⟨n,rfl,rfl,hn,NX,ala⟩;refine aI ?_;refine az (λdK=>?_) λdK=>?_
  ·refine jI ?_;refine bo (λm st=>∃(q:Nat) (fr:Bool),st=⟨[(80,.i q),(79,.i s.2.2.length),(78,ab.ints s.2.2),(12,.b fr),(11,.i n),(6,ab.ints s.2.2),(5,.i s.2.1),(1,.ptr (mi W L arg path))],H⟩/\m=s.2.2.length - q/\q<=s.2.2.length/\fr= !(s.2.2.take q).contains n) (⟨0,true,rfl,rfl,aa,rfl⟩) ?_;rintro m _ ⟨q,fr,rfl,rfl,cd,ak9⟩;refine ax ?_;refine az (λdA=>?_) λdA=>?_
   ·refine zq ?_;exact aW (⟨q+1,bif fr then s.2.2.getD q default !=n else false,rfl,rfl,aa,by rw[<-dN.c2 (show q<s.2.2.length by omega),afx, <-ak9]⟩)
   ·obtain rfl:q=s.2.2.length:=by omega
    rw[List.take_length] at ak9;subst ak9;refine bY ?_;refine aB.cond rfl (λdP=>?_) (λdP=>?_)
    ·have ak9:s.2.2.contains n=false:=by simpa only[Bool.not_eq_true'] using dP
     refine aY ?_;refine ag (ad.call .k (R9 W L (λx aK=>(e5 x aK).split) bb arg path ck)) ?_;refine bY ?_;refine dL [.tmp 2,.tmp 3] (H) ?_;exact⟨by rw[Rp ak9] at ala;rw[ru, <-hR];simp only[];rw[<-ala,if_pos aa];rfl,rfl⟩
    ·have ak9:s.2.2.contains n=true:=by simpa only[Bool.not_eq_false'] using dP
     refine aI ?_;exact aW (⟨n+1,rfl,rfl,aa,aa,by rw[<-ala,Ro ak9]⟩)
  ·have xw:=afw s.2.2 n;refine bR ?_;refine dL [.tmp 2,.tmp 3] (H) ?_;exact⟨by rw[ru, <-hR];simp only[];rw[if_neg aa];rfl,rfl⟩
def Sb(x):(bif (ca x).1.op==2 then bif (ca x).1.cls==0 then true else (ca x).1.cls==2 else false)=isNone x:=by rw[kd,eM,isNone]
def afD(W:bt)(L:List Fact)(e5:∀x∈L,ua W x)(br:L.length<=1000)(bb:W.owner.length<=40)(arg:Int)(path:List Int)(ck:path.length<=100):aG prog 237 [ab.mj W L arg path] (.b (ub W L arg path)):=by
 intro H;refine aM (n:=39) func237 λB I bW=>?_;have mM:=Jz L arg path;refine bY ?_;refine ag (ad.call .k (Jw W L (λx aK=>(e5 x aK).split) br arg path)) ?_;refine aT ?_;refine bo (λm st=>∃(i:Nat),st=⟨[(11,.i i),(10,.i (ei L arg path).length),(9,ab.facts (ei L arg path)),(1,.ptr (mi W L arg path))],H⟩/\m=(ei L arg path).length - i/\i<=(ei L arg path).length/\((ei L arg path).take i).all (λx=>!(isNone x==(ca x).2))=true) (⟨0,rfl,rfl,aa,rfl⟩) ?_;rintro m _ ⟨i,rfl,rfl,aQ,yT⟩;refine ax ?_;refine az (λaf=>?_) λaf=>?_
 ·have aK:=e5 ((ei L arg path).getD i default) (Jy (hQ aa));refine aI ?_;refine aj.uP rfl rfl rfl rfl (λdM=>?_);refine ax ?_;refine ag (ad.call .k (xV ((ei L arg path).getD i default) aK.split)) ?_;refine aF ?_;refine aj.uP rfl rfl rfl rfl (λb1=>?_);refine W7 ?_;refine aB.cond rfl (λae=>?_) (λae=>?_)
  ·rw[Sb] at ae;refine bE ?_;refine aC 2 (H) ?_;exact⟨bq (by rw[ub];symm;rw[Bool.and_eq_false_iff];left;rw[List.all_eq_false];exact⟨(ei L arg path).getD i default,hQ aa,by rw[ae];simp⟩),rfl⟩
  ·rw[Sb] at ae;refine aP ?_;exact aW (⟨i+1,rfl,rfl,aa,by rw[<-dN.c2 (show i<(ei L arg path).length by omega),List.all_append,yT,List.all_cons,ae];rfl⟩)
 ·obtain rfl:i=(ei L arg path).length:=by omega
  rw[List.take_length] at yT;refine aI ?_;refine ag (ad.call .k (R9 W L (λx aK=>(e5 x aK).split) bb arg path ck)) ?_;refine aY ?_;refine aC 2 (H) ?_;exact⟨bq (by rw[ub,yT];rfl),rfl⟩
end Go.Proofs.YtodccgailpkgeaaGreat

