/- A part of the proof. No condition. -/
import Derived.Test.YtodccgailpkgeaaGreatKindClosesP19
set_option linter.defProp false
set_option maxHeartbeats 1000000
set_option linter.unusedVariables false
set_option linter.unusedSimpArgs false
set_option maxRecDepth 10000
namespace Go.Proofs.YtodccgailpkgeaaGreat
open Go.Proofs.Tryz
open Go.Eng
open Go.Eng.Fc
variable{f x:Fact}{a b eL:Int}{l L:List Fact}{c ls:List c1}{k i:Nat}{left:al}{an:Value->dq}{α:Type}{o:cY}
def mS{W}:dS W f=true↔gS W f=true/\∀k∈f.kids,dS W k=true:=by
 cases f;rw[dS,Bool.and_eq_true,Hj];rfl
def zY{W}(h:gS W f)(a:dp f):f.kids= []:=by
 simp[gS,dp,Bool.and_eq_true,decide_eq_true_eq,beq_iff_eq] at h a;have:kj f.op=0:=by rw[kj,if_neg aa,if_neg aa]
 rw[this] at h;exact List.eq_nil_of_length_eq_zero aa
def tH{W}(h:lL W f):dS W f=true/\cW f<=24:=by
 have a:=Dd W f 24 12 h;have c:=(GS W f 24 12).2 h;exact⟨a.1,aa⟩
def xV{W}:∀f:Fact,dS W f=true->okB f=true:=by
 refine Fact.mf λf q h=>?_;obtain⟨a,m⟩:=mS.1 h;have o:f.path.length<=1000:=by
  simp[gS,Bool.and_eq_true] at a;have:=a.2;split at this
  ·simp only[jx,pe,Bool.and_eq_true,Bool.not_eq_true',Bool.or_eq_false_iff,Bool.not_eq_false',decide_eq_true_eq] at this;have:=this.1.2.1;omega
  ·simp only[jw,Bool.not_eq_true',Bool.or_eq_false_iff,decide_eq_false_iff_not] at this;have:=this.1.1.2;omega
 simp only[gS,Bool.and_eq_true,decide_eq_true_eq,beq_iff_eq] at a;have g:∀l:List Fact,(∀k∈l,okB k=true)->xS l=true:=by
  intro l
  induction l with
  | nil=>intro _;rfl
  | cons x r j=>intro s;rw[xS,s x dB,j (λk g=>s k (.tail _ g))];rfl
 cases f;rw[okB];simp[Fact.op,Fact.kids,Fact.path] at a o m q;simp[Bool.and_eq_true,decide_eq_true_eq,beq_iff_eq];exact⟨⟨⟨⟨a.1.1.1,a.1.1.2⟩,a.1.2⟩,o⟩,g _ (λk c=>q k c (m k c))⟩
def afY{a b}{l}(h:l∈fS a b):l∈a\/l∈b:=by
 unfold fS at h
 induction b generalizing a with
 | nil=>exact .inl h
 | cons x r c=>
  rcases c (a:=nO a x) h with h | h
  ·unfold nO at h;split at h
   ·exact .inl h
   ·rcases List.mem_append.1 h with h | h
    ·exact .inl h
    ·simp at h;subst h;exact .inr dB
  ·exact .inr (.tail _ h)
def Ef{W}:∀f:Fact,dS W f=true->∀b,∀c∈ei f b,∀l∈c,gS W l.f=true/\dp l.f=true:=by
 refine Fact.mf λf t h b c a l j=>?_;obtain⟨z,s⟩:=mS.1 h;have r:=xV f h;by_cases q:f.op=1
 ·rw[AF q] at a;cases b <;> simp at a;subst a;cases j
 by_cases o:f.op=5
 ·have C:=AL r o;rw[AG o aa] at a;exact t _ gZ (s _ gZ) _ c a l j
 by_cases m:dp f=true
 ·rw[AH q o m] at a;simp at a;subst a;simp at j;subst j;exact⟨z,m⟩
 ·have g:dp f=false:=by simpa using m
  have D:=AK r q o g;have v:=t (f.kids.getD 0 default) gZ (s _ gZ) b;have w:=t (f.kids.getD 1 default) gZ (s _ gZ) b;cases hcc:(b==(f.op==6)) with
  | true=>
   rw[AI q o g hcc aa] at a;rcases List.mem_append.1 a with h | h
   ·exact v c h l j
   ·exact w c h l j
  | false=>
   rw[AJ q o g hcc aa] at a;obtain⟨x,B,a⟩:=List.mem_flatMap.1 a;obtain⟨y,A,rfl⟩:=List.mem_map.1 a;rcases afY j with h | h
   ·exact v x B l h
   ·exact w y A l h
def Sv{W}(r:cy W){l}(h:gS W l.f)(g:dp l.f):m6 W l:=by
 have t:=q8 r;have c:=zY h g;simp[gS,Bool.and_eq_true] at h;have m:=h.2;rw[if_pos g] at m;simp[dp,Bool.and_eq_true,decide_eq_true_eq] at g;simp[jx,pe,Bool.and_eq_true,Bool.not_eq_true',Bool.or_eq_false_iff,Bool.not_eq_false',decide_eq_true_eq,decide_eq_false_iff_not,List.all_eq_true,pc] at m;obtain⟨⟨⟨q,s⟩,o,j⟩,a⟩:=m;unfold kO at a;refine⟨g,λaL=>?_,?_,lK,aa,j,c⟩
 ·rw[if_pos aL] at a;simp[jr,Bool.and_eq_true,decide_eq_true_eq] at a;exact⟨a.2.1,by have:=a.2.2;omega⟩
 ·split at a
  ·simp[Bool.and_eq_true,beq_iff_eq] at a;omega
  ·simp[Bool.and_eq_true,beq_iff_eq,decide_eq_true_eq] at a;omega
def Sw{W}(m:cy W){f}(h:dS W f)(hn:cW f<=300):JI W f:=
 ⟨xV f h,aa,λb c g=>⟨λl j=>let ⟨a,b⟩:=Ef f h b c g l j;Sv m a b,Nat.le_trans (Jw f (xV f h) b c g) hn⟩⟩
def JJ{W}(h:dS W f):dS W (oG f)=true:=by
 rw[mS];refine⟨cM,λk a=>?_⟩;simp[oG,Fact.kids] at a;subst a;exact h
def JK{W}{f g}(h:dS W f)(c:dS W g):dS W (sM f g)=true:=by
 rw[mS];refine⟨cM,λk a=>?_⟩;simp[sM,Fact.kids] at a;rcases a with rfl | rfl <;> assumption
def JL(f):cW (oG f)=cW f+1:=by simp[oG,cW,fk];omega
def JM(f g):cW (sM f g)=cW f+cW g+1:=by simp[sM,cW,fk];omega
noncomputable def impF (W:bx) (a b:Fact):Bool:=!canF W (sM a (oG b))
def px(W:bx)(l:List Fact):Bool:=cy W && l.all (lL W)
def afZ{W}(h:px W l):aI prog 171 [ab.world W,ab.facts l] (.bj [ja W,.b true]):=by
 simp only[px,Bool.and_eq_true] at h;have:=Pv h.1 l;rwa [h.2] at this
def af0{W}(c:cy W){a b}(f:dS W a)(g:dS W b)(j:cW a<=100)(h:cW b<=100):aI prog 255 [ja W,ab.fact a,ab.fact b] (.b (impF W a b)):=by
 intro H;refine aM func255 λB I l=>?_;refine aJ ?_;refine b0 5 14 ?_;refine aH ?_;refine bh (ad.call .k (aeE b)) ?_;refine bh (ad.call .k (aeF a (oG b))) ?_;refine aQ ?_;refine ag (ad.call .k (afX c (Sw c (JK f (JJ g)) (by rw[JM,JL];omega)))) ?_;refine aS ?_;refine aB 6 (H) ?_;exact⟨dP,rfl⟩
def af1{W}(h:px W l):cy W=true:=by simp[px,Bool.and_eq_true] at h;exact h.1
def Eg{W}(h:px W l){f}(a:f∈l):dS W f=true/\cW f<=24:=by
 simp[px,Bool.and_eq_true,List.all_eq_true] at h;exact tH (h.2 f a)
def af2{W}{a b}(h:px W [a,b]):aI prog 234 [ab.world W,ab.fact a,ab.fact b] (.bj [.b (impF W a b),.i 0]):=by
 intro H;refine aM func234 λB I f=>?_;refine c6 ?_;refine ag (ad.row rfl rfl cD rfl rfl rfl rfl rfl rfl) ?_;refine ag (.tf .k (.cons ig (.cons (tB [a,b] rfl) .nil)) (afZ h)) ?_;refine c6 ?_;refine bc (λaf=>?_) λaf=>?_
 ·cases af
 ·refine aP ?_;refine ag (.call .k (af0 (af1 h) (Eg h dB).1 (Eg h uY).1 (Nat.le_trans (Eg h (.head _)).2 aa) (Nat.le_trans (Eg h (.tail _ (.head _))).2 aa))) ?_;refine aS ?_;refine dM [.tmp 6,.tmp 7] (H) ?_;exact⟨dP,rfl⟩
abbrev ab.j2(l:List (List Fact)):ab:=.aj 1 (l.map λx=>[ab.facts x])
def eW(c:List c1):List Fact:=c.map jC
structure AQ(c:List c1)(k:Nat)(left:al):Prop where
 af3:∀x∈left,0<=x/\x<c.length
 len:left.length<=c.length
 has:∀m:Nat,k<=m->m<c.length->(m:Int)∈left
def AQ.filter{c}{k}{left}(h:AQ c k left):AQ c (k+1) (left.filter λm=>!(m==(k:Int))):=
 ⟨λx f=>h.af3 x (List.mem_filter.1 f).1,Nat.le_trans zE h.len,λm g a=>List.mem_filter.2 ⟨h.has m aa a,cF⟩⟩
def AQ.ne(h:AQ c k left)(a:k<c.length):left≠ []:=λe=>by have:=h.has k ft a;rw[e] at this;cases this
def aq.b6(h:a=b):aq (.i a) (.i b):=h▸ .refl _
theorem Sx:∀{l m:al},l.Pairwise (· <= ·)->m.Pairwise (· <= ·)->l.Perm m->l=m
 | [],m,_,_,h=>h.nil_eq
 | a::l,[],_,_,h=>absurd h.length_eq aT
 | a::l,b::m,q,r,h=>by
  have o:=List.pairwise_cons.1 q;have j:=List.pairwise_cons.1 r;have g:a=b:=by
   have f:b∈a::l:=h.mem_iff.2 dB;have c:a∈b::m:=h.mem_iff.1 dB;rcases List.mem_cons.1 f with e | f
   ·exact e.symm
   ·rcases List.mem_cons.1 c with e | c
    ·exact e
    ·have:=o.1 b f;have:=j.1 a c;omega
  subst g;rw[Sx o.2 j.2 h.cons_inv]
def vP(x:Int):al->al
 | []=>[x]
 | y::r=>if x<=y then x::y::r else y::vP x r
def xW:al->al
 | []=>[]
 | x::r=>vP x (xW r)
theorem JN(x):∀l:al,(vP x l).Perm (x::l)
 | []=>.refl _
 | y::r=>by
  rw[vP];split
  ·exact .refl _
  ·exact ((JN x r).cons y).trans (.swap _ _ _)
theorem Sy(x):∀l:al,l.Pairwise (· <= ·)->(vP x l).Pairwise (· <= ·)
 | [],_=>by simp[vP]
 | y::r,h=>by
  rw[vP];have f:=List.pairwise_cons.1 h;split
  ·rename_i c;exact List.pairwise_cons.2 ⟨λz a=>by rcases List.mem_cons.1 a with rfl | a;exact c;have:=f.1 z a;omega,h⟩
  ·rename_i c;exact List.pairwise_cons.2 ⟨λz a=>by rcases List.mem_cons.1 ((JN x r).mem_iff.1 a) with rfl | a;omega;exact f.1 z a,Sy x r f.2⟩
theorem Eh:∀l:al,(xW l).Perm l
 | []=>.refl _
 | x::r=>(JN x _).trans ((Eh r).cons x)
theorem JO:∀l:al,(xW l).Pairwise (· <= ·)
 | []=>.nil
 | x::r=>Sy x _ (JO r)
def af4(l):hV l=xW l:=by
 refine Sx ?_ (JO l) ((List.mergeSort_perm l _).trans (Eh l).symm);have:=List.pairwise_mergeSort (le:=λ(x y:Int)=>decide (x<=y)) (λa b c f a=>by simp at*;omega) (λa b=>by simp;omega) l;exact this.imp λh=>by simpa using h
abbrev cS:=Int->al->dq
def j3(an:cS)(a:Int)(p:al)(k:dq):cS:=λkJ rm=>if kJ=a/\rm=p then k else an kJ rm
def lu(s:Int)(k:dq):dq:=if k.aw.contains s then k else {k with aw:=xW (k.aw++[s])}
def af5(s)(k):nQ s k=lu s k:=by unfold nQ lu;rw[af4]
def lS(l:c1):cS->al->al->cS
 | an,_,[]=>an
 | an,pre,s::r=>
  lS l (j3 (j3 an l.f.arg pre (lu s (an l.f.arg pre))) l.f.arg (pre++[s]) (iq l (j3 an l.f.arg pre (lu s (an l.f.arg pre)) l.f.arg (pre++[s])))) (pre++[s]) r
def vQ(an:cS)(l:c1):cS:=
 j3 (lS l (j3 an l.f.arg [] (iq l (an l.f.arg []))) [] l.f.path) l.f.arg l.f.path (fT (lS l (j3 an l.f.arg [] (iq l (an l.f.arg []))) [] l.f.path l.f.arg l.f.path) l)
def ec(ls:List c1):cS:=ls.foldl vQ (λ_ _=>kA)
def af6{p q}(s:p.length<=2)(o:q.length<=2)(h:bL a p=bL b q):a=b/\p=q:=by
 have f:∀i:Nat,∀x y:Int,(ru a p)[i]? =some (.int .i64 x)->(ru b q)[i]? =some (.int .i64 y)->x=y:=by
  intro i x y g j;have m:(ru a p)=(ru b q):=by
   have:=congrArg (λv:Value=>match v with | .agg c=>c.toList | _=>[]) h;simpa using this
  rw[m,j] at g;simpa using g.symm
 have r:=f 0 a b rfl rfl;have g:=f 1 p.length q.length rfl rfl;have j:=f 2 (p.getD 0 0) (q.getD 0 0) rfl rfl;have m:=f 3 (p.getD 1 0) (q.getD 1 0) rfl rfl;refine⟨r,?_⟩
 match p,q,s,o with
 | [],[],_,_=>rfl
 | [x],[y],_,_=>simp at j;rw[j]
 | [x,t],[y,w],_,_=>simp at j m;rw[j,m]
 | [],_::_,_,_=>simp at g;omega
 | _::_,[],_,_=>simp at g;omega
 | [_],_::_::_,_,_=>simp at g;omega
 | _::_::_,[_],_,_=>simp at g;omega
def jD(an:Value->dq)(cx:cS):Prop:=∀a p,p.length<=2->an (bL a p)=cx a p
def jD.fE{cx}(h:jD an cx){a}{p}(f:p.length<=2)(k):jD (updK an (bL a p) k) (j3 cx a p k):=by
 intro b q c;unfold updK j3;by_cases e:b=a/\q=p
 ·rw[if_pos e,if_pos (by rw[e.1,e.2])]
 ·rw[if_neg e,if_neg (λjV=>e (af6 c f jV))];exact h b q c
theorem jD.walk{l}:∀(r:al) {an:Value->dq} {cx:cS} (c:al),jD an cx->c.length+r.length<=2->jD (walkK l an c r) (lS l cx c r)
 | [],an,cx,c,h,_=>h
 | s::r,an,cx,c,h,m=>by
  simp[List.length_cons] at m;rw[walkK,lS];have g:jD (updK an (bL l.f.arg c) (nQ s (an (bL l.f.arg c)))) (j3 cx l.f.arg c (lu s (cx l.f.arg c))):=by
   rw[af5,h _ _ aa];exact h.fE aa _
  have j:=g.fE (a:=l.f.arg) (p:=c++[s]) cF (iq l (updK an (bL l.f.arg c) (nQ s (an (bL l.f.arg c))) (bL l.f.arg (c++[s]))));rw[g _ (c++[s]) cF] at j;have o:=jD.walk (l:=l) r (c++[s]) j cF;rw[g _ (c++[s]) cF];exact o
def jD.add{cx}(h:jD an cx){l}(j:l.f.path.length<=2):jD (addK an l) (vQ cx l):=by
 unfold addK vQ vM;have c:=h.fE (a:=l.f.arg) (p:=[]) aT (iq l (an (bL l.f.arg [])));rw[h l.f.arg [] aT] at c ⊢;have g:=jD.walk (l:=l) l.f.path [] c cF;rw[g _ _ j];exact g.fE j _
def af7{W}(c:∀l∈ls,m6 W l):jD (stageK ls) (ec ls):=by
 unfold stageK ec;have:∀(ls:List c1) (an:Value->dq) (cx:cS),jD an cx->(∀l∈ls,m6 W l)->jD (ls.foldl addK an) (ls.foldl vQ cx):=by
  intro ls
  induction ls with
  | nil=>intro an cx h _;exact h
  | cons l ls g=>intro an cx h c;exact g _ _ (h.add (c l dB).path) (λx f=>c x (.tail _ f))
 exact this ls _ _ (λ_ _ _=>rfl) c
def xX(an:cS)(arg:Int)(path:al):Bool:=(an arg path).aw.all λs=>!(an arg (path++[s])).gi
def xY(an:cS)(arg:Int)(path:al)(cls:Int):Bool:=((me (an arg path).bB (sQ cls):Int)==0) && ((((an arg path).no &&& sQ cls:Nat):Int)==0) && xX an arg path
def xZ(an:cS)(arg:Int)(path:al):Bool:=decide (m5 (an arg path).dE (an arg path).low<=(an arg path).high) && xY an arg path 1
def x0(an:cS)(arg:Int)(path:al):Bool:=!(an arg path).whole && xY an arg path 2
def qj(W:bx)(an:cS)(can:al->Bool)(arg:Int)(path:al):al->Nat->Nat->Option (Nat×Nat)
 | [],bB,no=>some (bB,no)
 | s::r,bB,no=>
  if(an arg (path++[s])).gi && !can (path++[s]) then none
  else if(an arg (path++[s])).gi then qj W an can arg path r (bB ||| 2^(W.owner.getD s.toNat default).toNat) no
  else if !can (path++[s]) then qj W an can arg path r bB (no ||| 2^(W.owner.getD s.toNat default).toNat)
  else qj W an can arg path r bB no
def vR(W:bx)(an:cS)(can:al->Bool)(arg:Int)(path:al):Nat×Bool:=
 if(an arg path).whole || (an arg path).bB.testBit 1 || (an arg path).bB.testBit 2 || (an arg path).no.testBit 0 then (0,false)
 else match qj W an can arg path (an arg path).aw (an arg path).bB (an arg path).no with
  | none=>(0,false)
  | some (bB,no)=>(me (j1 W W.parents.length 3 bB) 1,((me (j1 W W.parents.length 3 bB) 1 &&& no:Nat):Int)==0)
def rz(W:bx)(an:cS):Nat->Int->al->Bool
 | 0,arg,path=>xZ an arg path || x0 an arg path || (vR W an (λ_=>false) arg path).2
 | d+1,arg,path=>xZ an arg path || x0 an arg path || (vR W an (rz W an d arg) arg path).2
def af8{cx}(h:jD an cx)(g:∀a p,p.length=2->(an (bL a p)).aw= []){arg}{path}(f:path.length<=2):Jz an arg path=xX cx arg path:=by
 unfold Jz xX;rw[h arg path f];by_cases j:path.length=2
 ·have:=g arg path j;rw[h arg path f] at this;rw[this];rfl
 ·have c:∀s,an (bL arg (path++[s]))=cx arg (path++[s]):=λs=>h _ _ cF;congr 1;funext s;rw[c]
def Sz{cx}(h:jD an cx)(f:∀a p,p.length=2->(an (bL a p)).aw= []){arg}{path}(c:path.length<=2)(cls):ub an arg path cls=xY cx arg path cls:=by
 unfold ub xY;rw[h arg path c,af8 h f c]
def SA{cx}(h:jD an cx)(f:∀a p,p.length=2->(an (bL a p)).aw= []){arg}{path}(c:path.length<=2):vK an arg path=xZ cx arg path:=by
 unfold vK xZ;rw[h arg path c,Sz h f c]
def SB{cx}(h:jD an cx)(f:∀a p,p.length=2->(an (bL a p)).aw= []){arg}{path}(c:path.length<=2):vL an arg path=x0 cx arg path:=by
 unfold vL x0;rw[h arg path c,Sz h f c]
theorem Ei{W}{an}{cx}(h:jD an cx){g f}{arg}{path}(c:path.length<2)(a:∀s,g (path++[s])=f (path++[s])):∀(l:al) (bB no:Nat),iE W an g arg path l bB no=qj W cx f arg path l bB no
 | [],bB,no=>rfl
 | s::r,bB,no=>by
  rw[iE,qj];rw[h arg (path++[s]) cF,a,Ei h c a r,Ei h c a r,Ei h c a r]
def SC{W}{cx}(h:jD an cx)(l:∀a p,p.length=2->(an (bL a p)).aw= []){f c}{arg}{path}(g:path.length<=2)(j:path.length<2->∀s,f (path++[s])=c (path++[s])):oI W an f arg path=vR W cx c arg path:=by
 unfold oI vR;simp[];rw[h arg path g];by_cases m:path.length=2
 ·have:=l arg path m;rw[h arg path g] at this;rw[this,iE,qj]
 ·rw[Ei h aa (j aa)];generalize qj W cx c arg path (cx arg path).aw (cx arg path).bB (cx arg path).no=o;cases o <;> rfl
theorem Ej{W}{an}{cx}(h:jD an cx)(c:∀a p,p.length=2->(an (bL a p)).aw= []){arg}:∀(d:Nat) (path:al),path.length+d=2->rv W an d arg path=rz W cx d arg path
 | 0,path,f=>by rw[rv,rz,SA h c aa,SB h c aa,SC h c aa (λak=>absurd ak aa)]
 | d+1,path,f=>by rw[rv,rz,SA h c aa,SB h c aa,SC h c aa (λak s=>Ej h c d (path++[s]) cF)]
def vS(W:bx)(ls:List c1):Bool:=rz W (ec ls) 2 0 [] && rz W (ec ls) 2 1 [] && rz W (ec ls) 2 2 []
def af9{W}(c:∀l∈ls,m6 W l):togetherK W ls=vS W ls:=by
 have h:=af7 c;have a:=(jm.Sn c).deep;rw[togetherK,vS];simp[ry,List.range_succ,List.range_zero,List.nil_append,List.cons_append,List.all_cons,List.all_nil,Bool.and_true];rw[Ej h a 2 [] rfl,Ej h a 2 [] rfl,Ej h a 2 [] rfl];simp[Bool.and_assoc]
def AR(W:bx)(f:Fact):Bool:=(ei f false).any (vS W)
def any_eq{l:List α}{p q}(h:∀x∈l,p x=q x):l.any p=l.any q:=by
 induction l with
 | nil=>rfl
 | cons x r c=>rw[List.any_cons,List.any_cons,h x dB,c (λy a=>h y (.tail _ a))]
def aga{W}(h:Su W c):togetherK W c=vS W c:=af9 h.1
def agb{W}(h:JI W f):canF W f=AR W f:=any_eq λc a=>aga (h.case false c a)
def ud(W:bx)(a b:Fact):Bool:=!AR W (sM a (oG b))
def imp_eq{W}(h:cy W){a b}(c:dS W a)(f:dS W b)(j:cW a<=100)(g:cW b<=100):impF W a b=ud W a b:=by
 rw[impF,ud,agb (Sw h (JK c (JJ f)) (by rw[JM,JL];omega))]
def JP:bx:=⟨[[],[3],[],[4,5]],[3,5]⟩
def x1(c:Int)(p:al):Fact:=.mk 2 0 p c 0 []
def agc(n:Int)(p:al):Fact:=.mk 3 0 p 0 n []
def gu:ud JP (x1 4 []) (x1 3 [])=true:=by decide+kernel
def cx:ud JP (sM (x1 4 []) (x1 5 [])) (x1 6 [])=false:=by decide+kernel
def JQ:ud JP (agc 7 [0]) (x1 3 [])=true:=by decide+kernel
def agd(a b):aI prog 161 [ab.fact a,ab.fact b] (ab.fact (sM a b)):=by
 intro H;refine aM func161 λB I c=>?_;refine aV ?_;refine bT (λdN=>?_);refine ay ?_;refine ag ie ?_;refine aS ?_;refine .cl (rs:=[.cell 4 60]) (H':=H) rfl s4 (.cons (.agg (.cons ig (.cons ig (.cons (aq.nil 1) (.cons (.refl _) (.cons (.refl _) (.cons (tB [a,b] rfl) .nil))))))) .nil) bE ?_;exact⟨dP,rfl⟩
def SD(f):aI prog 162 [ab.fact f] (ab.fact (oG f)):=by
 intro H;refine aM func162 λB I a=>?_;refine aH ?_;refine bT (λdN=>?_);refine aS ?_;refine ag ie ?_;refine aS ?_;refine .cl (rs:=[.cell 2 60]) (H':=H) rfl s4 (.cons (.agg (.cons ig (.cons ig (.cons (aq.nil 1) (.cons (.refl _) (.cons (.refl _) (.cons (tB [f] rfl) .nil))))))) .nil) bE ?_;exact⟨dP,rfl⟩
def age[Inhabited α]{c f:List α}{k}(m:c.length=f.length)(g:k<c.length)(j:c.take k=f.take k)(h:c.getD k default=f.getD k default):c.take (k+1)=f.take (k+1):=by
 rw[<-dO.c3 g, <-dO.c3 aa,j,h]
def agf(a)(s:∀k∈a.kids,∀y,aI prog 235 [ab.fact k,ab.fact y] (.b (k==y)))(b):aI prog 235 [ab.fact a,ab.fact b] (.b (a==b)):=by
 intro H;refine aM func235 λB I C=>?_;refine XO ?_;refine ai.cG rfl rfl rfl rfl rfl rfl (λav=>.call (.mk' rfl rfl rfl rfl cU) (Hy a.path b.path)) ?_;refine di ?_;refine bc (λaf=>?_) λaf=>?_
 ·have f:a≠b:=by rintro rfl;simp at af
  refine aP ?_;refine aB 4 H ?_;exact⟨bn (by simp[f]),rfl⟩
 ·have c:(a.op=b.op/\a.arg=b.arg/\a.cls=b.cls/\a.n=b.n/\a.path=b.path)/\a.kids.length=b.kids.length:=by
   simp[eO,Bool.or_eq_false_iff,bne_eq_false_iff_eq,Bool.not_eq_false',beq_iff_eq] at af;obtain⟨⟨⟨⟨⟨w,ak⟩,q⟩,z⟩,r⟩,D⟩:=af;exact⟨⟨w,ak,q,z,r⟩,aa⟩
  refine bS ?_;refine bm (λm x=>∃k:Nat,x=⟨[(52,.i k),(51,.i a.kids.length),(2,.ptr (fy a)),(3,.ptr (fy b))],H⟩/\m=a.kids.length - k/\k<=a.kids.length/\a.kids.take k=b.kids.take k) ⟨0,rfl,rfl,Nat.zero_le _,rfl⟩ ?_;rintro m _ ⟨k,rfl,rfl,B,l⟩;refine .FY (t:=2) (i:=5) rfl rfl λmY=>?_;refine ay ?_;refine az (λae=>?_) λae=>?_
  ·have g:k<a.kids.length:=by omega
   have v:=c.2;refine bA ?_;refine b0 10 68 ?_;refine bS ?_;refine ag (.call .k (s (a.kids.getD k default) (hT g) (b.kids.getD k default))) ?_;refine aH ?_;refine bc (λak=>?_) λak=>?_
   ·have f:a≠b:=by
     rintro rfl;simp at ak
    refine bA ?_;refine aB 4 H ?_;exact⟨bn (by simp[f]),rfl⟩
   ·have A:a.kids.getD k default=b.kids.getD k default:=by simpa using ak
    refine aP ?_;exact aU ⟨k+1,rfl,rfl,aa,age c.2 g l A⟩
  ·obtain rfl:k=a.kids.length:=by omega
   rw[List.take_length,c.2,List.take_length] at l;have j:a=b:=Fact.ext' c.1.1 c.1.2.1 c.1.2.2.2.2 c.1.2.2.1 c.1.2.2.2.1 l;refine bA ?_;refine aB 4 H ?_;exact⟨bn (by simp[j]),rfl⟩
def agh(a b):aI prog 235 [ab.fact a,ab.fact b] (.b (a==b)):=Fact.mf (P:=λa=>∀b,aI prog 235 [ab.fact a,ab.fact b] (.b (a==b))) (λa c b=>agf a c b) a b
def uD(l:List α)(i j)(x y:α):(l.set i x).getD j y=if i=j/\i<l.length then x else l.getD j y:=by
 simp[List.getD_eq_getElem?_getD,List.getElem?_set];by_cases h:i=j
 ·by_cases a:j<l.length
  ·simp[h,a]
  ·simp[h,a]
 ·simp[h]
theorem sl:∀(l:List al) (i:Nat) (U:du) (j:Nat),j<3+i->(hB l i U).getD j 0=U.getD j 0
 | [],i,U,j,h=>by rw[hB]
 | x::r,i,U,j,h=>by
  rw[hB,sl r (i+1) _ j aa,uD,if_neg aa]
def z1{W}(h:cy W):iJ 0 W.parents=true:=by simp[cy,Bool.and_eq_true] at h;exact h.1.2
def p3{W}(h:cy W){i}(a:i<W.parents.length):∀p∈W.parents.getD i default,3<=p/\p<3+i:=by
 have:=Hk W.parents 0 i (z1 h) a;rw[Nat.zero_add] at this;exact zZ i _ _ this
theorem z6:∀(l:List al) (i:Nat) (U:du) (k:Nat),3+i+l.length<=U.length->iJ i l=true->k<l.length->∀b,((hB l i U).getD (3+(i+k)) 0).testBit b=(b==0 || b==3+(i+k) || (l.getD k default).any λp=>((hB l i U).getD p.toNat 0).testBit b)
 | [],i,U,k,c,_,a,b=>by simp at a
 | x::r,i,U,0,c,h,a,b=>by
  rw[iJ,Bool.and_eq_true] at h;rw[hB,sl r (i+1) _ _ aa,uD,if_pos ⟨aa,by simp at c;omega⟩,OM];show _=(b==0 || b==3+(i+0) || x.any _);rw[Nat.add_zero];congr 1;refine tI λp f=>?_;have:=zZ i x [] h.1 p f;rw[sl r (i+1) _ _ aa,uD,if_neg aa]
 | x::r,i,U,k+1,c,h,a,b=>by
  rw[iJ,Bool.and_eq_true] at h;have:=z6 r (i+1) (U.set (3+i) (pd U i x)) k (by simp at c ⊢;omega) h.2 (by simpa using a) b;rw[hB,show i+(k+1)=i+1+k from by omega];exact this
def ou{W}(h:cy W){i}(a:i<W.parents.length)(b):gy W (3+i) b=(b==0 || b==3+i || (W.parents.getD i default).any λp=>gy W p.toNat b):=by
 have:=z6 W.parents 0 ([1,3,5]++List.replicate 60 0) i (by have:=q8 h;simp;omega) (z1 h) a b;rw[Nat.zero_add] at this;exact this
def ra{W}{c}(a:c<3)(b):gy W c b=(b==0 || b==c):=by
 rw[gy,mN,sl _ _ _ _ aa];have:c=0\/c=1\/c=2:=by omega
 rcases this with rfl | rfl | rfl
 ·show Nat.testBit 1 b=_;rcases b with _ | b
  ·rfl
  ·rw[Nat.testBit_succ];simp
 ·show Nat.testBit 3 b=_;rcases b with _ | _ | b
  ·rfl
  ·rfl
  ·rw[Nat.testBit_succ,Nat.testBit_succ];simp
 ·show Nat.testBit 5 b=_;rcases b with _ | _ | _ | b
  ·rfl
  ·rfl
  ·rfl
  ·rw[Nat.testBit_succ,Nat.testBit_succ,Nat.testBit_succ];simp
def Hl{W}(h:cy W){c}(f:c<3+W.parents.length):gy W c 0=true:=by
 by_cases a:c<3
 ·rw[ra a];rfl
 ·rw[show c=3+(c - 3) from by omega,ou h aa];rfl
def um{W}(h:cy W){c}(f:c<3+W.parents.length):gy W c c=true:=by
 by_cases a:c<3
 ·rw[ra a];simp
 ·have e:c=3+(c - 3):=by omega
  have:=ou h (i:=c - 3) aa c;rw[<-e] at this;rw[this];simp
instance:tr prog 28 (4,1,.bool false):=⟨ax⟩
def cb(x:Fact):Fact×Bool:=if x.op=5 then (x.kids.getD 0 default,true) else (x,false)
def x2(x:Fact):Prop:=x.op=5->x.kids≠ []
def mx(W:bx)(L:List Fact)(arg:Int)(path:al):bl:=cB W++[ab.facts L,.i arg,ab.ints path,.b false]
abbrev ab.my(W:bx)(L:List Fact)(arg:Int)(path:al):ab:=.agg (mx W L arg path)
def lv(p w:al):Bool:=decide (p.length>=w.length) && p.take w.length==w
def py(arg:Int)(path:al)(x:Fact):Bool:=(cb x).1.arg==arg && (cb x).1.path==path
def ej(L:List Fact)(arg:Int)(path:al):List Fact:=L.filter (py arg path)
def AS(arg:Int)(path:al)(x:Fact):Bool:=!(cb x).2 && ((cb x).1.arg==arg && lv (cb x).1.path path)
def oK(L:List Fact)(arg:Int)(path:al):Bool:=!L.any (AS arg path)
def rA(arg:Int)(path:al)(x:Fact):Bool:=(cb x).1.arg==arg && lv (cb x).1.path path
def eg(W:bx)(L:List Fact)(arg:Int)(path:al):al:=((List.range W.owner.length).map λ(n:Nat)=>(n:Int)).filter λs=>L.any (rA arg (path++[s]))
def rB(L:List Fact)(arg:Int)(path:al)(n:Nat):al:=((List.range n).map λ(n:Nat)=>(n:Int)).filter λs=>L.any (rA arg (path++[s]))
def agi(L)(arg)(path)(n):(rB L arg path n).length<=n:=Nat.le_trans zE aT
def agj{arg}{path}(h:L.any (rA arg (path++[(k:Int)]))=true):rB L arg path (k+1)=rB L arg path k++[(k:Int)]:=by
 rw[rB,List.range_succ,List.map_append,List.filter_append];congr 1;simp[List.map_cons,List.map_nil,List.filter_cons,h,if_true,List.filter_nil]
def agk{arg}{path}(h:L.any (rA arg (path++[(k:Int)]))=false):rB L arg path (k+1)=rB L arg path k:=by
 rw[rB,List.range_succ,List.map_append,List.filter_append];simp only[List.map_cons,List.map_nil,List.filter_cons,h,List.filter_nil];exact List.append_nil _
def vT(W:bx)(L:List Fact)(arg:Int)(path:al):Bool:=(eg W L arg path).all λs=>oK L arg (path++[s])
def agl(W)(L)(arg)(path)(slot):ab.agg (cB W++[ab.facts L,.i arg,.aj 1 ((path.map λn=>[.i n])++[[.i slot]]),.b false])=ab.my W L arg (path++[slot]):=by
 rw[ab.my,mx,ab.ints,List.map_append];rfl
instance:ME prog 260 3 4:=⟨ax⟩
def si(l:al):(l.map λn=>[.i n]).all dG=true:=D6 (λ_=>rfl) l
def x3(x)(h:x2 x):aI prog 257 [ab.fact x] (.bj [ab.fact (cb x).1,.b (cb x).2]):=by
 intro H;refine aM func257 λB I c=>?_;refine aH ?_;refine bT (λdN=>?_);refine bA ?_;refine az (λaf=>?_) λaf=>?_
 ·refine aV ?_;refine ag ((by first | exact .fC rfl rfl rfl rfl rfl ⟨aa,by have:=List.length_pos_iff.2 (h af);omega⟩ | exact .ep rfl rfl rfl rfl rfl ⟨aa,by have:=List.length_pos_iff.2 (h af);omega⟩)) ?_;refine aP ?_;refine .cl (rs:=[.cell 2 60,.tmp 3]) (H':=H) rfl wc cL bE ?_;exact⟨by rw[cb,if_pos af];rfl,rfl⟩
 ·refine bQ ?_;refine .cl (rs:=[.cell 2 60,.tmp 3]) (H':=H) rfl wc cL bE ?_;exact⟨by rw[cb,if_neg af];rfl,rfl⟩
def SE(p w):aI prog 269 [.ints p,.ints w] (.b (lv p w)):=by
 intro H;refine aM func269 λB I a=>?_;refine .ez (t:=0) rfl λgP=>?_;refine .ez (t:=1) rfl λvj=>?_;refine iB ?_;refine gw (λav=>.Ce rfl rfl qz rfl qz wx) ?_;refine aR ?_;refine ai.cG rfl rfl rfl rfl rfl rfl (λav=>.call (.mk' rfl rfl rfl rfl cU) (Hy (p.take w.length) w)) ?_;refine aS ?_;refine aB 4 H ?_;exact⟨bn (by rw[lv,show decide ((p.length:Int)>=w.length)=decide (p.length>=w.length) from by rw[decide_eq_decide];omega];cases decide (p.length>=w.length) <;> rfl),rfl⟩
def JR(W)(L)(arg)(path)(slot)(h:path.length<=1000):aI prog 260 [ab.my W L arg path,.i slot] (ab.my W L arg (path++[slot])):=by
 intro H;refine aM func260 λB I c=>?_;refine aH ?_;refine bT (λdN=>?_);refine aH ?_;refine .cu mixed ?_;refine .WH 3 1 (path.map λn=>[.i n]) ([[.i slot]]) 13 16 8 11 0 14 20 (by intro x a;rcases List.mem_append.1 a with a | a;(· obtain⟨y,_,rfl⟩:=List.mem_map.1 a;rfl);(· rcases List.mem_singleton.1 a with rfl;rfl)) rfl ao ao rfl rfl ao ?_;refine bg.o6 ao rfl rfl rfl rfl rfl (λ_=>b9) ?_;refine bg.o6 ao rfl rfl rfl rfl rfl (λ_=>nU) ?_;refine bg.o6 ao rfl rfl rfl rfl rfl (λ_=>b9) ?_;refine bg.o6 ao rfl rfl rfl rfl rfl (λ_=>cP) ?_;refine bg.o6 ao rfl rfl rfl rfl rfl (λ_=>b9) ?_;refine bg.o6 ao rfl rfl rfl rfl rfl (λ_=>cP) ?_;refine bg.o6 ao rfl rfl rfl rfl rfl (λ_=>b9) ?_;refine bg.o6 ao rfl rfl rfl rfl rfl (λ_=>cP) ?_;refine bg.WI ao ao rfl rfl rfl rfl rfl rfl rfl rfl gx (si path) nV nV ?_;refine bg.o6 ao rfl rfl rfl rfl rfl (λ_=>.move rfl rfl rfl) ?_;refine bg.o6 ao rfl rfl rfl rfl rfl (λ_=>.row rfl rfl cD rfl rfl rfl rfl rfl rfl) ?_;refine bg.WJ ao ao ao rfl rfl rfl rfl rfl (λ_=>rfl) rfl gx rfl (by rw[List.length_map];simp;omega) (by rw[List.length_map];simp;omega) ?_;refine bg.o6 ao rfl rfl rfl rfl rfl (λ_=>b9) ?_;refine bg.o6 ao rfl rfl rfl rfl rfl (λ_=>cP) ?_;refine bg.nil ?_;refine ay ?_;refine dM [.cell 4 260] H ?_;exact⟨agl W L arg path slot,rfl⟩
def SF(arg)(path)(x):(bif bif !(cb x).2 then (cb x).1.arg==arg else false then lv (cb x).1.path path else false)=AS arg path x:=by
 rw[kr,kr,AS,Bool.and_assoc]
def SG(arg)(path)(x):(bif (cb x).1.arg==arg then (cb x).1.path==path else false)=py arg path x:=by
 rw[kr,py]
def agm(t)(arg)(path)(x):(bif t then true else bif (cb x).1.arg==arg then lv (cb x).1.path path else false)=(t || rA arg path x):=by
 rw[eO,kr,rA]
def JS[Inhabited α]{l:List α}{i}{p}(h:i<l.length):(l.take (i+1)).any p=((l.take i).any p || p (l.getD i default)):=by
 rw[<-dO.c3 h,List.any_append,List.any_cons,List.any_nil,Bool.or_false]
def SH[Inhabited α]{l:List α}{i}{p}(h:i<l.length)(c:p (l.getD i default)=true):l.any p=true:=List.any_eq_true.2 ⟨_,hT h,c⟩
def SI[Inhabited α]{l:List α}{i}{p}(h:i<l.length):(l.take (i+1)).filter p=(l.take i).filter p++if p (l.getD i default) then [l.getD i default] else []:=by
 rw[<-dO.c3 h,List.filter_append];congr 1;by_cases e:p (l.getD i default)=true
 ·rw[if_pos e];simp only[List.filter_cons,e,if_true,List.filter_nil]
 ·rw[if_neg e];simp only[List.filter_cons,e,if_false,List.filter_nil];rfl
def SJ(l)(x):ab.aj 6 (kG l++[fy x])=ab.facts (l++[x]):=by rw[ab.facts,oU,oU,List.map_append];rfl
def SK(W)(L)(f:∀x∈L,x2 x)(arg)(path):aI prog 261 [ab.my W L arg path] (.b (oK L arg path)):=by
 intro H;refine aM func261 λB I j=>?_;refine .n9 (t:=0) (i:=2) rfl rfl λgP=>?_;refine iB ?_;refine bm (λm g=>∃i:Nat,g=⟨[(10,.i i),(9,.i L.length),(8,ab.facts L),(1,.ptr (mx W L arg path))],H⟩/\m=L.length - i/\i<=L.length/\(L.take i).any (AS arg path)=false) iI ?_;rintro m _ ⟨i,rfl,rfl,h,a⟩;refine ay ?_;refine az (λaf=>?_) λaf=>?_
 ·refine aJ ?_;refine bT (λdN=>?_);refine ay ?_;refine ag (.call .k (x3 (L.getD i default) (f (L.getD i default) gZ))) ?_;refine aH ?_;refine bT (λb1=>?_);refine iY ?_;refine ai.cG rfl rfl rfl rfl rfl rfl (λav=>.call (.mk' rfl rfl rfl rfl cU) (SE (cb (L.getD i default)).1.path path)) ?_;refine aH ?_;refine az (λae=>?_) λae=>?_
  ·refine bA ?_;refine aB 2 H ?_;exact⟨bn (by rw[SF] at ae;rw[oK,SH (i:=i) aa ae];rfl),rfl⟩
  ·refine aP ?_;exact aU ⟨i+1,rfl,rfl,aa,by rw[SF] at ae;rw[JS aa,a,ae];rfl⟩
 ·obtain rfl:i=L.length:=by omega
  rw[List.take_length] at a;refine bA ?_;refine aB 2 H ?_;exact⟨bn (by rw[oK,a];rfl),rfl⟩
def JT(W:bx)(L)(g:∀x∈L,x2 x)(o:L.length<=1000)(arg:Int)(path):aI prog 256 [ab.my W L arg path] (ab.facts (ej L arg path)):=by
 intro H;refine aM func256 λB I l=>?_;refine di ?_;refine hi 3 60 6 ?_;refine aJ ?_;refine bm (λm h=>∃(i:Nat) (v:Value),h=⟨[(11,.i i),(10,.i L.length),(9,ab.facts L),(3,.as (ab.facts ((L.take i).filter (py arg path))) v),(1,.ptr (mx W L arg path))],.own 60 6 v::H⟩/\m=L.length - i/\i<=L.length) (⟨0,_,rfl,rfl,aa⟩) ?_;rintro m _ ⟨i,v,rfl,rfl,j⟩;refine ay ?_;refine az (λaf=>?_) λaf=>?_
 ·have f:((L.take i).filter (py arg path)).length<=1000:=Nat.le_trans zE yr;refine aJ ?_;refine bT (λdN=>?_);refine ay ?_;refine ag (ad.call .k (x3 (L.getD i default) (g (L.getD i default) gZ))) ?_;refine aH ?_;refine bT (λb1=>?_);refine iB ?_;refine ai.cG rfl rfl rfl rfl rfl rfl (λav=>ad.call (.mk' rfl rfl rfl rfl cU) (Hy (cb (L.getD i default)).1.path path)) ?_;refine aH ?_;refine bc (λae=>?_) (λae=>?_)
  ·rw[SG] at ae;have e:(L.take (i+1)).filter (py arg path)=(L.take i).filter (py arg path)++[L.getD i default]:=by rw[SI aa,if_pos ae]
   refine aH ?_;refine ag (ad.row rfl rfl cD rfl rfl rfl rfl rfl rfl) ?_;refine ai.dJ rfl rfl rfl rfl rfl rfl rfl rfl (aq.refl _) (rfl) (λ_=>dt) Ls (by show (kG _).length+1<=_;rw[oU,List.length_map];omega) (λoL=>?_);refine aV ?_;refine aA.le 3 (y:=.as (ab.facts ((L.take (i+1)).filter (py arg path))) oL) rfl (by rw[e, <-SJ];exact aq.refl _) ?_;refine aV ?_;exact aU (⟨i+1,oL,rfl,rfl,aa⟩)
  ·rw[SG] at ae;have e:(L.take (i+1)).filter (py arg path)=(L.take i).filter (py arg path):=by rw[SI aa,if_neg (by rw[ae];simp),List.append_nil]
   refine aH ?_;rw[<-e];refine aV ?_;exact aU (⟨i+1,v,rfl,rfl,aa⟩)
 ·obtain rfl:i=L.length:=by omega
  rw[List.take_length];refine bS ?_;refine aZ.cl (rs:=[.tmp 2]) (H':=H) rfl (.tmp rfl (.nil)) (.cons (aq.eY _ _) .nil) bE ?_;exact⟨cM,rfl⟩
def SL(W:bx)(L:List Fact)(g:∀x∈L,x2 x)(l:W.owner.length<=40)(arg:Int)(path:al)(q:path.length<=100):aI prog 259 [ab.my W L arg path] (ab.ints (eg W L arg path)):=by
 intro H;refine aM (n:=54) func259 λB I r=>?_;refine aA.n9 (t:=0) (i:=2) rfl rfl (λgP=>?_);refine di ?_;refine hi 3 3 1 ?_;refine a8 ?_;refine bm (λm a=>∃(k:Nat) (v:Value),a=⟨[(14,.i k),(13,.i W.owner.length),(3,.as (ab.ints (rB L arg path k)) v),(1,.ptr (mx W L arg path))],.own 3 1 v::H⟩/\m=W.owner.length - k/\k<=W.owner.length) (⟨0,_,rfl,rfl,aa⟩) ?_;rintro m _ ⟨k,v,rfl,rfl,j⟩;refine ay ?_;refine az (λaf=>?_) λaf=>?_
 ·have h:=agi L arg path k;refine zy ?_;refine bm (λm a=>∃(i:Nat),a=⟨[(20,.i i),(19,.i L.length),(18,ab.facts L),(5,.b ((L.take i).any (rA arg (path++[(k:Int)])))),(4,.i k),(14,.i k),(13,.i W.owner.length),(3,.as (ab.ints (rB L arg path k)) v),(1,.ptr (mx W L arg path))],.own 3 1 v::H⟩/\m=L.length - i/\i<=L.length) (⟨0,rfl,rfl,aa⟩) ?_;rintro m _ ⟨i,rfl,rfl,o⟩;refine ay ?_;refine az (λae=>?_) λae=>?_
  ·refine aJ ?_;refine bT (λdN=>?_);refine ay ?_;refine ag (ad.call .k (x3 (L.getD i default) (g (L.getD i default) (hT aa)))) ?_;refine aH ?_;refine bT (λb1=>?_);refine aV ?_;refine aA.cu mixed ?_;refine aJ ?_;refine bW.dk 2 6 54 rfl ao rfl rfl ao ?_;refine di ?_;refine bW.dk 8 14 54 rfl ao rfl rfl ao ?_;refine aV ?_;refine ed.cG rfl rfl rfl rfl rfl (λav=>ad.call (.mk' rfl rfl rfl rfl cU) (JR W L arg path k aa)) ?_;refine ed.cG rfl rfl rfl rfl rfl (λav=>ad.WL rfl rfl (cf av) rfl) ?_;refine aQ ?_;refine ai.cG rfl rfl rfl rfl rfl rfl (λav=>ad.call (.mk' rfl rfl rfl rfl cU) (SE (cb (L.getD i default)).1.path (path++[(k:Int)]))) ?_;refine bQ ?_;exact aU (⟨i+1,by rw[JS aa, <-agm],rfl,aa⟩)
  ·obtain rfl:i=L.length:=by omega
   rw[List.take_length];refine bQ ?_;refine bc (λak=>?_) (λak=>?_)
   ·have e:=agj ak;refine aH ?_;refine ag (ad.row rfl rfl cD rfl rfl rfl rfl rfl rfl) ?_;refine ai.dJ rfl rfl rfl rfl rfl rfl rfl rfl (aq.refl _) (rfl) (λ_=>dt) Lv E7 (λv51=>?_);refine aV ?_;refine aA.le 3 (y:=.as (ab.ints (rB L arg path (k+1))) v51) rfl (by rw[e,ab.ints,List.map_append];exact aq.refl _) ?_;refine aV ?_;exact aU (⟨k+1,v51,rfl,rfl,aa⟩)
   ·have e:=agk ak;refine aH ?_;rw[<-e];refine aV ?_;exact aU (⟨k+1,v,rfl,rfl,aa⟩)
 ·obtain rfl:k=W.owner.length:=by omega
  refine bS ?_;refine aZ.cl (rs:=[.tmp 2]) (H':=H) rfl (.tmp rfl (.nil)) (.cons (aq.eY _ _) .nil) bE ?_;exact⟨cM,rfl⟩
def SM(W)(L)(c:∀x∈L,x2 x)(f:W.owner.length<=40)(arg)(path)(h:path.length<=100):aI prog 258 [ab.my W L arg path] (.b (vT W L arg path)):=by
 intro H;refine aM func258 λB I l=>?_;refine bQ ?_;refine ag (.call .k (SL W L c f arg path h)) ?_;refine aS ?_;refine bm (λm g=>∃i:Nat,g=⟨[(8,.i i),(7,.i (eg W L arg path).length),(6,.ints (eg W L arg path)),(1,.ptr (mx W L arg path))],H⟩/\m=(eg W L arg path).length - i/\i<=(eg W L arg path).length/\((eg W L arg path).take i).all (λs=>oK L arg (path++[s]))=true) iI ?_;rintro m _ ⟨i,rfl,rfl,j,a⟩;refine aR ?_;refine .ez (t:=6) rfl λba=>?_;refine aS ?_;refine az (λaf=>?_) λaf=>?_
 ·refine dW ?_;refine ag (.call .k (JR W L arg path _ aa)) ?_;refine ag (.call .k (SK W L c arg _)) ?_;refine aH ?_;refine az (λae=>?_) λae=>?_
  ·refine bA ?_;refine aB 2 H ?_;exact⟨bn (by rw[vT];symm;rw[List.all_eq_false];exact⟨(eg W L arg path).getD i default,hT aa,nf⟩),rfl⟩
  ·refine aP ?_;exact aU ⟨i+1,rfl,rfl,aa,by rw[<-dO.c3 aa,List.all_append,a];simpa using ae⟩
 ·obtain rfl:i=(eg W L arg path).length:=by omega
  rw[List.take_length] at a;refine bA ?_;refine aB 2 H ?_;exact⟨bn (by rw[vT,a]),rfl⟩
structure ue(W:bx)(x:Fact):Prop where
 split:x2 x
 op:2<=(cb x).1.op/\(cb x).1.op<=4
 cls:(cb x).1.op=2->0<=(cb x).1.cls/\(cb x).1.cls<3+W.parents.length
 n: -1000000000<=(cb x).1.n/\(cb x).1.n<=1000000000
 path:(cb x).1.path.length<=2
abbrev qk:=Int×Int×al
def oP(a b:Int):Int:=if b>a then b else a
def pB(a b:Int):Int:=if b<a then b else a
def mz(s:qk)(x:Fact):Option qk:=
 if(cb x).1.op=2 then (if(decide ((cb x).1.cls>1) !=(cb x).2)=true then none else some s)
 else if(cb x).1.op=3 then (if(cb x).2=true then some (oP s.1 (cb x).1.n,s.2.1,s.2.2) else some (s.1,pB s.2.1 ((cb x).1.n - 1),s.2.2))
 else if(cb x).2=true then some (s.1,s.2.1,s.2.2++[(cb x).1.n])
 else some (oP s.1 (cb x).1.n,pB s.2.1 (cb x).1.n,s.2.2)
def ql:List Fact->qk->Option qk
 | [],s=>some s
 | x::r,s=>match mz s x with
  | none=>none
  | some t=>ql r t
def AT:qk:=(-1000000000,1000000000,[])
def rC(W:bx)(L:List Fact)(arg:Int)(path:al):Int×Bool:=
 match ql (ej L arg path) AT with
 | none=>(0,false)
 | some s=>if m5 s.2.2 s.1<=s.2.1 then (m5 s.2.2 s.1,vT W L arg path) else (0,false)
def isNone(x:Fact):Bool:=(cb x).1.op==2 && ((cb x).1.cls==0 || (cb x).1.cls==2)
def uf(W:bx)(L:List Fact)(arg:Int)(path:al):Bool:=((ej L arg path).all λx=>!(isNone x==(cb x).2)) && vT W L arg path
def x4{s:qk}(h:i<l.length):ql (l.drop i) s=match mz s (l.getD i default) with
  | none=>none
  | some t=>ql (l.drop (i+1)) t:=by
 rw[List.drop_eq_getElem_cons h,ql,p1 h]
def JU{arg}{path}(h:x∈ej L arg path):x∈L:=(List.mem_filter.1 h).1
def JV(L)(arg)(path):(ej L arg path).length<=L.length:=List.length_filter_le _ _
theorem SN(a):∀(f:Nat) (n:Int),n<=oH a f n
 | 0,n=>by rw[oH];omega
 | f+1,n=>by rw[oH];split;(· have:=SN a f (n+1);omega);(· omega)
def agn(a)(n):n<=m5 a n:=SN a _ n
def ago(l)(x n:Int):(!(l++[x]).contains n)=bif !l.contains n then x !=n else false:=by
 rw[List.contains_eq_any_beq,List.contains_eq_any_beq,List.any_append,kr,Bool.not_or];congr 1;simp[bne,BEq.comm]
def agp{s}(h:(cb x).1.op=2)(a:(decide ((cb x).1.cls>1) !=(cb x).2)=false):mz s x=some s:=by rw[mz,if_pos h,if_neg (by rw[a];simp)]
def agq{s}(h:(cb x).1.op=2)(a:(decide ((cb x).1.cls>1) !=(cb x).2)):mz s x=none:=by rw[mz,if_pos h,if_pos a]
def agr{s}(h:(bif (cb x).1.op==3 then (cb x).2 else false)=true):mz s x=some (oP s.1 (cb x).1.n,s.2.1,s.2.2):=by
 rw[kr,Bool.and_eq_true,beq_iff_eq] at h;rw[mz,if_neg aa,if_pos h.1,if_pos h.2]
def int_lt{s}(h:(bif (cb x).1.op==3 then (cb x).2 else false)=false)(c:(cb x).1.op=3):mz s x=some (s.1,pB s.2.1 ((cb x).1.n - 1),s.2.2):=by
 rw[kr,Bool.and_eq_false_iff,beq_eq_false_iff_ne] at h;have a:(cb x).2=false:=h.resolve_left aa;rw[mz,if_neg aa,if_pos c,if_neg (by rw[a];simp)]
def ags{s}(a: ¬(cb x).1.op=2)(c: ¬(cb x).1.op=3)(h:(cb x).2):mz s x=some (s.1,s.2.1,s.2.2++[(cb x).1.n]):=by rw[mz,if_neg a,if_neg c,if_pos h]
def int_eq{s}(a: ¬(cb x).1.op=2)(c: ¬(cb x).1.op=3)(h:(cb x).2=false):mz s x=some (oP s.1 (cb x).1.n,pB s.2.1 (cb x).1.n,s.2.2):=by rw[mz,if_neg a,if_neg c,if_neg wz]
def agt(W)(L)(l:∀x∈L,ue W x)(F:L.length<=1000)(E:W.owner.length<=40)(arg)(path)(J:path.length<=100):aI prog 236 [ab.my W L arg path] (.bj [.i (rC W L arg path).1,.b (rC W L arg path).2]):=by
 intro H;refine aM func236 λB I O=>?_;have w:=JV L arg path;refine iY ?_;refine hi 6 3 1 ?_;refine aQ ?_;refine ag (.call .k (JT W L (λx g=>(l x g).split) F arg path)) ?_;refine aS ?_;refine bm (λm h=>∃(i:Nat) (s:qk) (v:Value),h=⟨[(18,.i i),(17,.i (ej L arg path).length),(16,ab.facts (ej L arg path)),(6,.as (.ints s.2.2) v),(5,.i s.2.1),(4,.i s.1),(1,.ptr (mx W L arg path))],.own 3 1 v::H⟩/\m=(ej L arg path).length - i/\i<=(ej L arg path).length/\ql ((ej L arg path).drop i) s=ql (ej L arg path) AT/\-1000000000<=s.1/\s.1<=1000000000/\-1000000001<=s.2.1/\s.2.1<=1000000000/\s.2.2.length<=i) ⟨0,AT,_,rfl,rfl,aa,rfl,c8,c8,c8,c8,c8⟩ ?_;rintro m _ ⟨i,s,v,rfl,rfl,N,c,ba⟩;refine ay ?_;refine az (λaf=>?_) λaf=>?_
 ·have g:=l ((ej L arg path).getD i default) (JU gZ);have K:=g.n;refine aJ ?_;refine bT (λdN=>?_);refine ay ?_;refine ag (.call .k (x3 ((ej L arg path).getD i default) g.split)) ?_;refine aH ?_;refine bT (λb1=>?_);refine di ?_;refine az (λae=>?_) λae=>?_
  ·refine a8 ?_;refine bc (λak=>?_) λak=>?_
   ·refine di ?_;refine dM [.tmp 2,.tmp 3] H ?_;exact⟨by rw[x4 aa,agq ae ak] at c;rw[rC, <-c];rfl,rfl⟩
   ·refine aV ?_;refine aV ?_;exact aU ⟨i+1,s,v,rfl,rfl,aa,by rw[x4 aa,agp ae ak] at c;exact c,ye⟩
  ·refine bA ?_;refine az (λaL=>?_) λaL=>?_
   ·refine aV ?_;refine ag zC ?_;refine aS ?_;refine aV ?_;exact aU (⟨i+1,(oP s.1 (cb ((ej L arg path).getD i default)).1.n,s.2.1,s.2.2),v,rfl,rfl,aa,by rw[x4 aa,agr aL] at c;exact c,ye⟩)
   ·refine aJ ?_;refine az (λbo=>?_) λbo=>?_
    ·refine aS ?_;refine ag CQ ?_;refine aS ?_;refine aV ?_;exact aU (⟨i+1,(s.1,pB s.2.1 ((cb ((ej L arg path).getD i default)).1.n - 1),s.2.2),v,rfl,rfl,aa,by rw[x4 aa,int_lt aL bo] at c;exact c,ye⟩)
    ·refine ay ?_;refine az (λcm=>?_) λcm=>?_
     ·refine aV ?_;refine ag ie ?_;refine ai.dJ rfl rfl rfl rfl rfl rfl rfl rfl (aq.refl _) (rfl) (λ_=>dt) Lv E7 λv70=>?_;refine aS ?_;refine .le 6 (y:=.as (.ints (s.2.2++[(cb ((ej L arg path).getD i default)).1.n])) v70) rfl (by rw[ab.ints,List.map_append];exact .refl _) ?_;refine aV ?_;exact aU (⟨i+1,(s.1,s.2.1,s.2.2++[(cb ((ej L arg path).getD i default)).1.n]),v70,rfl,rfl,aa,by rw[x4 aa,ags ae bo cm] at c;exact c,ye⟩)
     ·refine .cu mixed ?_;refine .MG (.i (oP s.1 (cb ((ej L arg path).getD i default)).1.n)) 4 8 0 9 95 rfl rfl ao ao rfl rfl ao ?_;refine bg.zk ao ao rfl rfl rfl rfl pb ?_;refine bg.zk ao ao rfl rfl rfl rfl b9 ?_;refine bg.zk ao ao rfl rfl rfl rfl cP ?_;refine bg.zk ao ao rfl rfl rfl rfl zC ?_;refine bg.zl ao rfl rfl rfl rfl pb ?_;refine bg.zl ao rfl rfl rfl rfl b9 ?_;refine bg.zl ao rfl rfl rfl rfl cP ?_;refine bg.zl ao rfl rfl rfl rfl CQ ?_;refine bg.MI ao ao rfl rfl rfl (.assign rfl rfl rfl) ?_;refine bg.nil ⟨rfl,?_⟩;refine ay ?_;refine aV ?_;exact aU (⟨i+1,(oP s.1 (cb ((ej L arg path).getD i default)).1.n,pB s.2.1 (cb ((ej L arg path).getD i default)).1.n,s.2.2),v,rfl,rfl,aa,by rw[x4 aa,int_eq ae bo cm] at c;exact c,ye⟩)
 ·obtain rfl:i=(ej L arg path).length:=by omega
  rw[List.drop_length,ql] at c;refine aP ?_;refine .le 6 (y:=.ints s.2.2) rfl GO ?_;refine ay ?_;refine bm (λm h=>∃(n:Int),h=⟨[(11,.i n),(6,.ints s.2.2),(5,.i s.2.1),(1,.ptr (mx W L arg path))],H⟩/\m=(s.2.1+1 - n).toNat/\s.1<=n/\n<=1000000001/\m5 s.2.2 n=m5 s.2.2 s.1) ⟨s.1,rfl,rfl,aa,aa,rfl⟩ ?_;rintro m _ ⟨n,rfl,rfl,M,G,f⟩;refine aJ ?_;refine az (λdx=>?_) λdx=>?_
  ·refine jR ?_;refine bm (λm h=>∃(q:Nat) (j:Bool),h=⟨[(80,.i q),(79,.i s.2.2.length),(78,.ints s.2.2),(12,.b j),(11,.i n),(6,.ints s.2.2),(5,.i s.2.1),(1,.ptr (mx W L arg path))],H⟩/\m=s.2.2.length - q/\q<=s.2.2.length/\j= !(s.2.2.take q).contains n) ⟨0,true,rfl,rfl,aa,rfl⟩ ?_;rintro m _ ⟨q,j,rfl,rfl,P,a⟩;refine ay ?_;refine az (λdF=>?_) λdF=>?_
   ·refine xa ?_;exact aU (⟨q+1,bif j then s.2.2.getD q default !=n else false,rfl,rfl,aa,by rw[<-dO.c3 (show q<s.2.2.length by omega),ago, <-a]⟩)
   ·obtain rfl:q=s.2.2.length:=by omega
    rw[List.take_length] at a;subst a;refine bQ ?_;refine bc (λde=>?_) λde=>?_
    ·have a:s.2.2.contains n=false:=by simpa only[Bool.not_eq_true'] using de
     refine aV ?_;refine ag (.call .k (SM W L (λx g=>(l x g).split) E arg path J)) ?_;refine bQ ?_;refine dM [.tmp 2,.tmp 3] H ?_;exact⟨by rw[R1 a] at f;rw[rC, <-c];simp[];rw[<-f,if_pos aa];rfl,rfl⟩
    ·have a:s.2.2.contains n=true:=by simpa only[Bool.not_eq_false'] using de
     refine aJ ?_;exact aU ⟨n+1,rfl,rfl,aa,aa,by rw[<-f,R0 a]⟩
  ·have D:=agn s.2.2 n;refine bS ?_;refine dM [.tmp 2,.tmp 3] H ?_;exact⟨by rw[rC, <-c];simp[];rw[if_neg aa];rfl,rfl⟩
def SO(x):(bif (cb x).1.op==2 then bif (cb x).1.cls==0 then true else (cb x).1.cls==2 else false)=isNone x:=by rw[kr,eO,isNone]
def agu(W)(L)(f:∀x∈L,ue W x)(q:L.length<=1000)(j:W.owner.length<=40)(arg)(path)(l:path.length<=100):aI prog 237 [ab.my W L arg path] (.b (uf W L arg path)):=by
 intro H;refine aM func237 λB I s=>?_;have h:=JV L arg path;refine bQ ?_;refine ag (.call .k (JT W L (λx c=>(f x c).split) q arg path)) ?_;refine aS ?_;refine bm (λm o=>∃(i:Nat),o=⟨[(11,.i i),(10,.i (ej L arg path).length),(9,ab.facts (ej L arg path)),(1,.ptr (mx W L arg path))],H⟩/\m=(ej L arg path).length - i/\i<=(ej L arg path).length/\((ej L arg path).take i).all (λx=>!(isNone x==(cb x).2))=true) iI ?_;rintro m _ ⟨i,rfl,rfl,r,a⟩;refine ay ?_;refine az (λaf=>?_) λaf=>?_
 ·have c:=f ((ej L arg path).getD i default) (JU gZ);refine aJ ?_;refine bT (λdN=>?_);refine ay ?_;refine ag (.call .k (x3 ((ej L arg path).getD i default) c.split)) ?_;refine aH ?_;refine bT (λb1=>?_);refine XL ?_;refine bc (λae=>?_) λae=>?_
  ·rw[SO] at ae;refine bA ?_;refine aB 2 H ?_;exact⟨bn (by rw[uf];symm;rw[Bool.and_eq_false_iff];left;rw[List.all_eq_false];exact⟨(ej L arg path).getD i default,hT aa,by rw[ae];simp⟩),rfl⟩
  ·rw[SO] at ae;refine aP ?_;exact aU (⟨i+1,rfl,rfl,aa,by rw[<-dO.c3 (show i<(ej L arg path).length by omega),List.all_append,a,List.all_cons,ae];rfl⟩)
 ·obtain rfl:i=(ej L arg path).length:=by omega
  rw[List.take_length] at a;refine aJ ?_;refine ag (.call .k (SM W L (λx c=>(f x c).split) j arg path l)) ?_;refine aV ?_;refine aB 2 H ?_;exact⟨bn (by rw[uf,a];rfl),rfl⟩
end Go.Proofs.YtodccgailpkgeaaGreat

