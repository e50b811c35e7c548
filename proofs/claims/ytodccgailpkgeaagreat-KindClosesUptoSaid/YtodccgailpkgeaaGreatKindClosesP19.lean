/- A part of the proof. No condition. -/
import Derived.Test.YtodccgailpkgeaaGreatKindClosesP18
import Derived.Shelf.Sort.Plain
import Derived.Shelf.Slices.In.SortNone
import Derived.Sort.OwnSortedInts
import Derived.Tactics
import Derived.Tactics2
import Derived.Laws.Pointers
import Derived.TacticsInMore
import Derived.RegionIn
import Derived.RecoverIn
set_option linter.defProp false
set_option maxHeartbeats 1000000
set_option linter.unusedVariables false
set_option linter.unusedSimpArgs false
set_option maxRecDepth 10000
namespace Go.Proofs.YtodccgailpkgeaaGreat
open Go.Proofs.Tryz
open Go.Eng
open Go.Eng.Fc
open Go.Eng.Fc Go.Shelf Go.Sort
variable{W:bx}{bt B tb:Nat}{can:al->Bool}{k:dq}{r:al}{s:Int}{U:du}{Hx H:aC}{w bN:World}{x:Bool}{a:Act}{env:List (Nat×ab)}{ls:List c1}{c9:cr}{E:ab->aC->Prop}
def oH(dE:al):Nat->Int->Int
 | 0,n=>n
 | f+1,n=>if dE.contains n then oH dE f (n+1) else n
def mv(dE:al)(n:Int):Nat:=(dE.filter λx=>decide (n<=x)).length
def m5(dE:al)(n:Int):Int:=oH dE (mv dE n+1) n
def JA{a}{n:Int}(h:a.contains n=true):mv a (n+1)+1<=mv a n:=by
 have j:n∈a:=by simpa using h
 clear h
 induction a with
 | nil=>cases j
 | cons x r m=>
  have sub:∀l:al,mv l (n+1)<=mv l n:=by
   intro l
   induction l with
   | nil=>simp[mv]
   | cons y s g=>
    unfold mv at g ⊢;by_cases f:n+1<=y
    ·have c:n<=y:=by omega
     simp[List.filter_cons,f,c];exact g
    ·by_cases c:n<=y
     ·simp only[List.filter_cons,f,c,decide_true,decide_false,if_true];simp;omega
     ·simp only[List.filter_cons,f,c,decide_false];simpa using g
  rcases List.mem_cons.1 j with e | j
  ·subst e;have:=sub r;unfold mv at this ⊢;have f: ¬n+1<=n:=by omega
   simp only[List.filter_cons,f,Int.le_refl,decide_true,decide_false,if_true];simp;omega
  ·have:=m j;unfold mv at this ⊢;by_cases f:n+1<=x
   ·have c:n<=x:=by omega
    simp[List.filter_cons,f,c];omega
   ·by_cases c:n<=x
    ·simp only[List.filter_cons,f,c,decide_true,decide_false,if_true];simp;omega
    ·simp only[List.filter_cons,f,c,decide_false];simp;omega
def afg{a}:∀(f g:Nat) (n:Int),mv a n+1<=f->mv a n+1<=g->oH a f n=oH a g n:=by
 intro f
 induction f with
 | zero=>intro g n h _;omega
 | succ f j=>
  intro g n h l;obtain⟨g,rfl⟩:∃q,g=q+1:=⟨g - 1,aa⟩;rw[oH,oH];by_cases c:a.contains n=true
  ·rw[if_pos c,if_pos c];have m:=JA c;exact j g (n+1) aa aa
  ·rw[if_neg c,if_neg c]
def R0{a}{n}(h:a.contains n=true):m5 a n=m5 a (n+1):=by
 have c:=JA h;show oH a (mv a n+1) n=_;rw[oH,if_pos h];exact afg _ _ _ c ft
def R1{a}{n}(h:a.contains n=false):m5 a n=n:=by
 show oH a (mv a n+1) n=_;rw[oH,if_neg (λe=>by rw[h] at e;cases e)]
def afh(a)(n):mv a n<=a.length:=List.length_filter_le _ _
def afi{an}(K:qh W an)(t:W.owner.length<=40){arg}{path}(h:lQ arg path):
  hS prog [mu bt an] 292 [iQ W bt,ab.spot arg path] (.bj [.i (m5 (an (bL arg path)).dE (an (bL arg path)).low),.b (decide (m5 (an (bL arg path)).dE (an (bL arg path)).low<=(an (bL arg path)).high) && ub an arg path 1)]):=by
 intro H s;refine aM func292 λB I z=>?_;have r:=K.low (bL arg path);have f:=K.dE (bL arg path);have v:=afh (an (bL arg path)).dE (an (bL arg path)).low;refine bA ?_;refine ag (.h2 .k (c5.refl _) (vJ W bt an arg path (sP h)) (λe g=>by repeat (first | exact s e g | apply List.mem_cons_of_mem))) ?_;refine dW ?_;refine bm (λm x=>∃n:Int,x=⟨[(7,.i n),(6,.ptr (m4 (an (bL arg path)))),(0,iQ W bt),(3,.ptr (nP arg path))],H⟩/\m=mv (an (bL arg path)).dE n/\m5 (an (bL arg path)).dE n=m5 (an (bL arg path)).dE (an (bL arg path)).low/\(an (bL arg path)).low<=n/\n - (an (bL arg path)).low+mv (an (bL arg path)).dE n<=1000) (⟨(an (bL arg path)).low,rfl,rfl,rfl,Int.le_refl _,aa⟩) ?_;rintro m _ ⟨n,rfl,rfl,o,w,q⟩;refine a8 ?_;refine ag (.call .k ((HC _ _))) ?_;refine aQ ?_;refine bc (λaf=>?_) λaf=>?_
 ·replace af:=dA af;have l:=JA (show (an (bL arg path)).dE.contains n=true from af);have j:=R0 (show (an (bL arg path)).dE.contains n=true from af);refine a8 ?_;exact aU ⟨n+1,rfl,rfl,by rw[<-j];exact o,aa,aa⟩
 ·have c:=R1 (show (an (bL arg path)).dE.contains n=false from af);refine jR ?_;refine ai.cG rfl rfl rfl rfl rfl rfl (λav=>.h2 zA cL (RZ K t h 1 aa) (λe g=>by repeat (first | exact s e g | apply List.mem_cons_of_mem))) ?_;refine ay ?_;refine dM [.tmp 4,.tmp 5] H ?_;exact⟨by rw[<-o,c, <-kr];rfl,rfl⟩
def vK(an:Value->dq)(arg:Int)(path:al):Bool:=decide (m5 (an (bL arg path)).dE (an (bL arg path)).low<=(an (bL arg path)).high) && ub an arg path 1
def vL(an:Value->dq)(arg:Int)(path:al):Bool:=!(an (bL arg path)).whole && ub an arg path 2
def iE(W:bx)(an:Value->dq)(can:al->Bool)(arg:Int)(path:al):al->Nat->Nat->Option (Nat×Nat)
 | [],bB,no=>some (bB,no)
 | s::r,bB,no=>
  let gi:=(an (bL arg (path++[s]))).gi
  let is:=can (path++[s])
  if gi && !is then none
  else if gi then iE W an can arg path r (bB ||| 2^(W.owner.getD s.toNat default).toNat) no
  else if !is then iE W an can arg path r bB (no ||| 2^(W.owner.getD s.toNat default).toNat)
  else iE W an can arg path r bB no
def j1(W:bx):Nat->Nat->Nat->Nat
 | 0,_,bB=>bB
 | f+1,c,bB=>j1 W f (c+1) (if bB.testBit c then bB ||| (mN W).getD c 0 else bB)
def oI(W:bx)(an:Value->dq)(can:al->Bool)(arg:Int)(path:al):Nat×Bool:=
 let k:=an (bL arg path)
 if k.whole || k.bB.testBit 1 || k.bB.testBit 2 || k.no.testBit 0 then (0,false)
 else match iE W an can arg path k.aw k.bB k.no with
  | none=>(0,false)
  | some (bB,no)=>(me (j1 W W.parents.length 3 bB) 1,((me (j1 W W.parents.length 3 bB) 1 &&& no:Nat):Int)==0)
def rv(W:bx)(an:Value->dq):Nat->Int->al->Bool
 | 0,arg,path=>vK an arg path || vL an arg path || (oI W an (λ_=>false) arg path).2
 | d+1,arg,path=>vK an arg path || vL an arg path || (oI W an (rv W an d arg) arg path).2
def Ea{an}{arg}{path}{l:al}{k bB no:Nat}(a:k<l.length):iE W an can arg path (l.drop k) bB no=iE W an can arg path (l.getD k default::l.drop (k+1)) bB no:=by
 rw[List.drop_eq_getElem_cons a,p1 a]
def afj{an}{arg}{path r}{bB no}(h:(bif (an (bL arg (path++[s]))).gi then !can (path++[s]) else false)=false)(a:(an (bL arg (path++[s]))).gi=true):iE W an can arg path r (bB ||| 2^(W.owner.getD s.toNat default).toNat) no=iE W an can arg path (s::r) bB no:=by
 have c:can (path++[s])=true:=by rw[a] at h;simpa using h
 rw[iE];simp[a,c]
def afk{an}{arg}{path r}{bB no}(c:(an (bL arg (path++[s]))).gi=false)(a:can (path++[s])=false):iE W an can arg path r bB (no ||| 2^(W.owner.getD s.toNat default).toNat)=iE W an can arg path (s::r) bB no:=by
 rw[iE];simp[c,a]
def afl{an}{arg}{path r}{bB no}(c:(an (bL arg (path++[s]))).gi=false)(a:can (path++[s])):iE W an can arg path r bB no=iE W an can arg path (s::r) bB no:=by
 rw[iE];simp[c,a]
def R2{c a r}(g:c<3+W.parents.length)(h:j1 W (3+W.parents.length - c) c a=r):j1 W (3+W.parents.length - (c+1)) (c+1) (if a.testBit c then a ||| (mN W).getD c 0 else a)=r:=by
 obtain⟨q,f⟩:∃q,3+W.parents.length - c=q+1:=⟨3+W.parents.length - c - 1,aa⟩;rw[f,j1] at h;rw[show 3+W.parents.length - (c+1)=q from by omega];exact h
def afm{an}{arg}{path r}{bB no}(h:(bif (an (bL arg (path++[s]))).gi then !can (path++[s]) else false)=true):iE W an can arg path (s::r) bB no=none:=by
 rw[kr] at h;rw[iE];exact if_pos h
def afn{an}{arg}{path}(h:(bif bif bif (an (bL arg path)).whole then true else (an (bL arg path)).bB.testBit (Int.toNat 1) then true else (an (bL arg path)).bB.testBit (Int.toNat 2) then true else (an (bL arg path)).no.testBit (Int.toNat 0))=true):oI W an can arg path=(0,false):=by
 simp only[eO] at h;rw[oI];exact if_pos h
def afo{an}{arg}{path}(h:iE W an can arg path (an (bL arg path)).aw (an (bL arg path)).bB (an (bL arg path)).no=none):oI W an can arg path=(0,false):=by
 rw[oI,h];simp
def afp{an}{arg}{path}{bB no}(h:(bif bif bif (an (bL arg path)).whole then true else (an (bL arg path)).bB.testBit (Int.toNat 1) then true else (an (bL arg path)).bB.testBit (Int.toNat 2) then true else (an (bL arg path)).no.testBit (Int.toNat 0))=false)
  (a:some (bB,no)=iE W an can arg path (an (bL arg path)).aw (an (bL arg path)).bB (an (bL arg path)).no):oI W an can arg path=(me (j1 W W.parents.length 3 bB) 1,((me (j1 W W.parents.length 3 bB) 1 &&& no:Nat):Int)==0):=by
 simp[eO] at h;rw[oI, <-a];exact if_neg gU
def afq(a b):me a b<18446744073709551616:=BitVec.isLt (w:=64) _
def afr(a:cy W){i}(c:i<W.owner.length):3<=W.owner.getD i default/\W.owner.getD i default<3+W.parents.length:=by
 simp[cy,Bool.and_eq_true,List.all_eq_true] at a;have:=a.2 _ (hT c);simpa [sh] using this
theorem R3:∀(l:List al) (i:Nat) (U:du),(hB l i U).length=U.length
 | [],_,_=>rfl
 | x::r,i,U=>by rw[hB,R3 r];simp
def afs(W):(mN W).length=63:=by rw[mN,R3];rfl
def aft(c:∀x∈U,x<18446744073709551616){i}(g:i<61)(l):pd U i l<18446744073709551616:=by
 unfold pd;have:∀(l:al) (s:Nat),s<18446744073709551616->l.foldl (λs (p:Int)=>s ||| U.getD p.toNat 0) s<18446744073709551616:=by
  intro l
  induction l with
  | nil=>intro s a;exact a
  | cons p r f=>intro s a;exact f _ (mj a (vm c _))
 exact this l _ (mj aa (re aa))
theorem R4:∀(l:List al) (i:Nat) (U:du),i+l.length<=61->(∀x∈U,x<18446744073709551616)->∀x∈hB l i U,x<18446744073709551616
 | [],_,_,_,h=>h
 | y::r,i,U,a,h=>by
  rw[hB];simp[List.length_cons] at a;exact R4 r (i+1) _ aa (HD h (aft h aa y))
def R5(h:W.parents.length<=60):∀x∈mN W,x<18446744073709551616:=R4 _ _ _ aa c8
def afu{c}{q}(a:q=c)(h:c<U.length):(List.drop q (List.drop 2 (cB W++U.map λs=>ab.set s)))[0]? =some (ab.set (U.getD c 0)):=by
 subst a;rw[List.drop_drop,List.getElem?_drop];have:=HB (W:=W) (U:=U) (i:=q) h;rw[show 2+q+0=2+q from rfl];exact this
def afv{an}(K:qh W an)(A:cy W){arg:Int}{path}(h:lQ arg path)(can)(J:∀s∈(an (bL arg path)).aw,hS prog [mu bt an] 285 [iQ W bt,ab.spot arg (path++[s])] (.b (can (path++[s])))):
  hS prog [mu bt an] 294 [iQ W bt,ab.spot arg path] (.bj [ab.set (oI W an can arg path).1,.b (oI W an can arg path).2]):=by
 intro H D;refine aM func294 λB I R=>?_;have G:=vn A;have F:=q8 A;refine bA ?_;refine ag (ad.h2 .k (c5.refl _) (vJ W bt an arg path (sP h)) (λe w=>by repeat (first | exact D e w | apply List.mem_cons_of_mem))) ?_;refine aV ?_;refine b0 9 136 ?_;refine o9 ?_;refine ai.cG rfl rfl rfl rfl rfl rfl (λav=>ad.call (.mk' rfl rfl rfl rfl cU) (Dh _ 1 aa (K.bB _))) ?_;refine aH ?_;refine ai.cG rfl rfl rfl rfl rfl rfl (λav=>ad.call (.mk' rfl rfl rfl rfl cU) (Dh _ 2 aa (K.bB _))) ?_;refine aH ?_;refine ai.cG rfl rfl rfl rfl rfl rfl (λav=>ad.call (.mk' rfl rfl rfl rfl cU) (Dh _ 0 aa (K.no _))) ?_;refine aH ?_;refine bc (λaf=>?_) (λaf=>?_)
 ·have a:=afn (W:=W) (can:=can) af;refine aJ ?_;refine dM [.tmp 4,.tmp 5] (H) ?_;exact⟨by rw[a];rfl,rfl⟩
 ·have af:=af;refine c6 ?_;refine bm (λm B=>∃(k bB no:Nat),B=⟨[(47,.i k),(46,.i (an (bL arg path)).aw.length),(45,ab.ints (an (bL arg path)).aw),(7,ab.set bB),(8,ab.set no),(0,iQ W bt),(3,.ptr (nP arg path))],H⟩/\m=(an (bL arg path)).aw.length - k/\k<=(an (bL arg path)).aw.length/\bB<18446744073709551616/\no<18446744073709551616/\iE W an can arg path ((an (bL arg path)).aw.drop k) bB no=iE W an can arg path (an (bL arg path)).aw (an (bL arg path)).bB (an (bL arg path)).no) (⟨0,_,_,rfl,rfl,Nat.zero_le _,K.bB _,K.no _,rfl⟩) ?_;rintro m _ ⟨k,bB,no,rfl,rfl,Q,o,j,r⟩;refine aA.ez (t:=45) rfl (λmY=>?_);refine ay ?_;refine az (λae=>?_) λae=>?_
  ·refine bS ?_;have q:(an (bL arg path)).aw.getD k default∈(an (bL arg path)).aw:=hT aa;have x:=D9 K G h q;have P:=K.slot arg path h _ q;have M:=afr A (i:=((an (bL arg path)).aw.getD k default).toNat) aa;refine aH ?_;refine ag (ad.call .k (Jy arg path ((an (bL arg path)).aw.getD k default) x.1)) ?_;refine bT (λdN=>?_);refine aV ?_;refine b0 9 136 ?_;refine aQ ?_;refine bh (ad.h2 .k cL (vJ W bt an arg (path++[(an (bL arg path)).aw.getD k default]) (sP x.2)) (λe w=>by repeat (first | exact D e w | apply List.mem_cons_of_mem))) ?_;refine aS ?_;refine bh (ad.h2 .k cL (J _ q) (λe w=>by repeat (first | exact D e w | apply List.mem_cons_of_mem))) ?_;refine gv ?_;refine bc (λak=>?_) (λak=>?_)
   ·have a:=afo (W:=W) (can:=can) (by rw[<-r,Ea (l:=(an (bL arg path)).aw) (k:=k) aa];exact afm ak);refine di ?_;refine dM [.tmp 4,.tmp 5] (H) ?_;exact⟨by rw[a];rfl,rfl⟩
   ·have ak:=ak;refine ay ?_;refine az (λaL=>?_) λaL=>?_
    ·refine di ?_;refine ag (ad.call .k ((vk _ _ aa aa))) ?_;refine a8 ?_;exact aU (⟨k+1,bB ||| 2^(W.owner.getD ((an (bL arg path)).aw.getD k default).toNat default).toNat,no,rfl,rfl,aa,mj o (re aa),j,by rw[<-r,Ea (l:=(an (bL arg path)).aw) (k:=k) aa];exact afj ak aL⟩)
    ·refine aP ?_;refine az (λbo=>?_) λbo=>?_
     ·refine di ?_;refine ag (ad.call .k ((vk _ _ aa aa))) ?_;refine a8 ?_;exact aU (⟨k+1,bB,no ||| 2^(W.owner.getD ((an (bL arg path)).aw.getD k default).toNat default).toNat,rfl,rfl,aa,o,mj j (re aa),by rw[<-r,Ea (l:=(an (bL arg path)).aw) (k:=k) aa];exact afk (by simpa using aL) (by simpa using bo)⟩)
     ·refine aJ ?_;exact aU (⟨k+1,bB,no,rfl,rfl,aa,o,j,by rw[<-r,Ea (l:=(an (bL arg path)).aw) (k:=k) aa];exact afl (by simpa using aL) (by simpa using bo)⟩)
  ·obtain rfl:k=(an (bL arg path)).aw.length:=by omega
   rw[List.drop_length,iE] at r;have a:=afp (W:=W) (can:=can) af r;refine bS ?_;refine bm (λm B=>∃(c v:Nat),B=⟨[(14,.i c),(7,ab.set v),(8,ab.set no),(0,iQ W bt),(3,.ptr (nP arg path))],H⟩/\m=3+W.parents.length - c/\3<=c/\c<=3+W.parents.length/\v<18446744073709551616/\j1 W (3+W.parents.length - c) c v=j1 W W.parents.length 3 bB) (⟨3,bB,rfl,rfl,aa,aa,o,by rw[Nat.add_sub_cancel_left]⟩) ?_;rintro m _ ⟨c,v,rfl,rfl,L,S,f,g⟩;refine gv ?_;refine az (λcm=>?_) λcm=>?_
   ·refine aJ ?_;refine ag (ad.call .k ((Dh _ _ aa wA))) ?_;refine aQ ?_;refine az (λdx=>?_) λdx=>?_
    ·refine bQ ?_;refine ag (ad.cE rfl rfl rfl (afu (c:=c) aT (by rw[afs];omega))) ?_;refine ag (ad.bits rfl rfl rfl rfl rfl (u0 _ _ f (vm (R5 F) _))) ?_;refine a8 ?_;exact aU (⟨c+1,v ||| (mN W).getD c 0,rfl,rfl,aa,aa,mj f (vm (R5 F) _),by have:=R2 aa g;rwa [if_pos (by simpa using dx)] at this⟩)
    ·refine aJ ?_;exact aU (⟨c+1,v,rfl,rfl,aa,aa,f,by have:=R2 aa g;rwa [if_neg (by simpa using dx)] at this⟩)
   ·obtain rfl:c=3+W.parents.length:=by omega
    rw[Nat.sub_self,j1] at g;refine aJ ?_;refine ag (ad.bits rfl rfl rfl rfl rfl (Nn _ 1)) ?_;refine aJ ?_;refine ag (ad.bits rfl rfl rfl rfl rfl (zH _ _ (afq _ _) j)) ?_;refine ay ?_;refine dM [.tmp 4,.tmp 5] (H) ?_;exact⟨by rw[a, <-g];rfl,rfl⟩
def R6{an}(K:qh W an)(l:cy W){arg}{path}(h:lQ arg path)(can)(m:∀s∈(an (bL arg path)).aw,hS prog [mu bt an] 285 [iQ W bt,ab.spot arg (path++[s])] (.b (can (path++[s])))):
  hS prog [mu bt an] 285 [iQ W bt,ab.spot arg path] (.b (vK an arg path || vL an arg path || (oI W an can arg path).2)):=by
 intro H g;refine aM func285 λB I o=>?_;have j:=vn l;refine bA ?_;refine ag (.h2 .k (c5.refl _) (afi K j h) (λe a=>by repeat (first | exact g e a | apply List.mem_cons_of_mem))) ?_;refine di ?_;refine ai.cG rfl rfl rfl rfl rfl rfl (λav=>.h2 zA cL (aff K j h) (λe a=>by repeat (first | exact g e a | apply List.mem_cons_of_mem))) ?_;refine aH ?_;refine bc (λaf=>?_) λaf=>?_
 ·have c:(vK an arg path || vL an arg path)=true:=by rw[eO] at af;exact af
  refine aP ?_;refine aB 4 H ?_;exact⟨bn (by rw[c];rfl),rfl⟩
 ·have c:(vK an arg path || vL an arg path)=false:=by rw[eO] at af;exact af
  refine ay ?_;refine ag (.h2 .k cL (afv K l h can m) (λe a=>by repeat (first | exact g e a | apply List.mem_cons_of_mem))) ?_;refine c6 ?_;refine aB 4 H ?_;exact⟨bn (by rw[c];rfl),rfl⟩
theorem JB{W}{f}{an}(K:qh W an)(a:cy W){arg}:∀(d:Nat) (path:al),lQ arg path->path.length+d=2->hS prog [mu f an] 285 [iQ W f,ab.spot arg path] (.b (rv W an d arg path))
 | 0,path,h,g=>R6 K a h (λ_=>false) (λs c=>by rw[K.deep arg path h aa] at c;cases c)
 | d+1,path,h,g=>R6 K a h (rv W an d arg) (λs c=>JB K a d (path++[s]) (D9 K (vn a) h c).2 cF)
abbrev fj(l:al):List bl:=l.map λn=>[ab.i n]
def oJ(k:dq)(gC vs:Value):bl:=[.i k.low,.i k.high,.val gC,ab.set k.bB,ab.set k.no,.b k.whole,.b k.gi,.val vs]
structure jk where
 key:Value
 au:Nat
 an:dq
 gC:Value
 vs:Value
def hD(vs:Value)(aw:al):br:=.row 3 1 vs (fj aw).length (fj aw).flatten
def jk.gd(e:jk):aC:=[.au e.au 326 (oJ e.an e.gC e.vs),hD e.gC e.an.dE,hD e.vs e.an.aw]
def fT(k:dq)(l:c1):dq:=
 if l.f.op=2 then (if l.neg then {k with no:=k.no ||| 2^l.f.cls.toNat} else {k with bB:=k.bB ||| 2^l.f.cls.toNat})
 else if l.f.op=3 then (if l.neg then {k with low:=(if l.f.n>k.low then l.f.n else k.low)} else {k with high:=(if l.f.n - 1<k.high then l.f.n - 1 else k.high),whole:=true})
 else if l.neg then {k with dE:=k.dE++[l.f.n]}
 else {k with low:=(if l.f.n>k.low then l.f.n else k.low),high:=(if l.f.n<k.high then l.f.n else k.high),whole:=true}
def R7(v)(l)(n):hD v (l++[n])= .row 3 1 v ((fj l).length+1) ((fj l).flatten++[.i n]):=by
 simp[hD,fj]
structure m6(W:bx)(l:c1):Prop where
 op:2<=l.f.op/\l.f.op<=4
 cls:l.f.op=2->0<=l.f.cls/\l.f.cls<63
 n: -1000000000<=l.f.n/\l.f.n<=1000000000
 arg:0<=l.f.arg/\l.f.arg<3
 path:l.f.path.length<=2
 slot:∀s∈l.f.path,0<=s/\s<W.owner.length
 kids:l.f.kids= []
def afw{l}(D:m6 W l)(B au)(k)(gC vs)(hm:k.bB<18446744073709551616)(C:k.no<18446744073709551616)(L:k.dE.length<=1000)(Hx):
  eM B prog 291 [.p au 0,ab.lit l] (.au au 326 (oJ k gC vs)::hD gC k.dE::Hx) (λy H'=>∃R8,y= .bj []/\H'= .au au 326 (oJ (fT k l) R8 vs)::hD R8 (fT k l).dE::Hx) (λ_ _=>False):=by
 refine .of func291 rfl ax rfl rfl λI bN=>?_;have E:=D.cls;have M:=D.n;refine uW ?_;refine az (λaf=>?_) λaf=>?_
 ·refine b0 9 130 ?_;refine aJ ?_;refine bh (.call .k (vk _ l.f.cls (by simp_all;omega) C)) ?_;refine aP ?_;refine .n3 (rs:=[]) rfl (.nil) cL bE ?_;exact⟨gC,rfl,by rw[show fT k l={k with no:=k.no ||| 2^l.f.cls.toNat} by simp_all [fT]];rfl⟩
 ·refine a8 ?_;refine az (λae=>?_) λae=>?_
  ·refine b0 9 130 ?_;refine aJ ?_;refine bh (.call .k (vk _ l.f.cls (by simp_all;omega) hm)) ?_;refine aP ?_;refine .n3 (rs:=[]) rfl (.nil) cL bE ?_;exact⟨gC,rfl,by rw[show fT k l={k with bB:=k.bB ||| 2^l.f.cls.toNat} by simp_all [fT]];rfl⟩
  ·refine di ?_;refine az (λak=>?_) λak=>?_
   ·refine b0 10 130 ?_;refine a8 ?_;refine bh zC ?_;refine aJ ?_;refine .n3 (rs:=[]) rfl (.nil) cL bE ?_;exact⟨gC,rfl,by rw[show fT k l={k with low:=if l.f.n>k.low then l.f.n else k.low} by simp_all [fT]];rfl⟩
   ·refine a8 ?_;refine az (λaL=>?_) λaL=>?_
    ·refine .cu mixed ?_;refine .Ml (λJC=>match JC with | 0=>(.au au 326 (oJ k gC vs)::hD gC k.dE::Hx) | _=>(.au au 326 (oJ {k with high:=(if l.f.n - 1<k.high then l.f.n - 1 else k.high)} gC vs)::hD gC k.dE::Hx)) [15] 0 16 130 rfl ao rfl rfl rfl ao rfl ?_;refine bg.cc 0 0 ao ao ao rfl rfl rfl (λj g c=>by rcases (show j=0 by omega) with rfl <;> exact pb) ?_;refine bg.cc 0 1 ao ao ao rfl rfl rfl (λj g c=>by rcases (show j=0\/j=1 by omega) with rfl | rfl <;> exact pb) ?_;refine bg.cc 0 0 ao ao ao rfl rfl rfl (λj g c=>by rcases (show j=0 by omega) with rfl <;> exact pb) ?_;refine bg.cc 0 0 ao ao ao rfl rfl rfl (λj g c=>by rcases (show j=0 by omega) with rfl <;> exact fU) ?_;refine bg.cc 0 0 ao ao ao rfl rfl rfl (λj g c=>by rcases (show j=0 by omega) with rfl <;> exact b9) ?_;refine bg.cc 0 0 ao ao ao rfl rfl rfl (λj g c=>by rcases (show j=0 by omega) with rfl <;> exact b9) ?_;refine bg.cc 0 0 ao ao ao rfl rfl rfl (λj g c=>by rcases (show j=0 by omega) with rfl <;> exact cP) ?_;refine bg.cc 0 0 ao ao ao rfl rfl rfl (λj g c=>by rcases (show j=0 by omega) with rfl <;> exact b9) ?_;refine bg.cc 0 0 ao ao ao rfl rfl rfl (λj g c=>by rcases (show j=0 by omega) with rfl <;> exact b9) ?_;refine bg.cc 0 0 ao ao ao rfl rfl rfl (λj g c=>by rcases (show j=0 by omega) with rfl <;> exact cP) ?_;refine bg.cc 0 0 ao ao ao rfl rfl rfl (λj g c=>by rcases (show j=0 by omega) with rfl <;> exact (.arith rfl rfl rfl rfl rfl rfl (wrap64 aa))) ?_;refine bg.cc 0 0 ao ao ao rfl rfl rfl (λj g c=>by rcases (show j=0 by omega) with rfl <;> exact CQ) ?_;refine bg.cc 0 0 ao ao ao rfl rfl rfl (λj g c=>by rcases (show j=0 by omega) with rfl <;> exact fU) ?_;refine bg.cc 0 0 ao ao ao rfl rfl rfl (λj g c=>by rcases (show j=0 by omega) with rfl <;> exact b9) ?_;refine bg.cc 0 0 ao ao ao rfl rfl rfl (λj g c=>by rcases (show j=0 by omega) with rfl <;> exact b9) ?_;refine bg.gb 0 ao ao ao rfl rfl GQ ?_;refine bg.nil ?_;refine ay ?_;refine .n3 (rs:=[]) rfl (.nil) cL bE ?_;exact⟨gC,rfl,by rw[show fT k l={k with high:=if l.f.n - 1<k.high then l.f.n - 1 else k.high,whole:=true} by simp_all [fT]];rfl⟩
    ·refine aP ?_;refine az (λbo=>?_) λbo=>?_
     ·refine .cu mixed ?_;refine .Wl (λv=>.au au 326 (oJ k gC vs)::.row 3 1 v ((fj k.dE).length+1) ((fj k.dE).flatten++[.i l.f.n])::Hx) 126 10 0 11 130 rfl ao rfl rfl rfl ao ?_;refine bg.sc ao rfl rfl rfl rfl (λ_=>.move rfl rfl rfl) ?_;refine bg.sb ao ao rfl rfl rfl pb ?_;refine bg.sb ao ao rfl rfl rfl fU ?_;refine bg.sb ao ao rfl rfl rfl b9 ?_;refine bg.sb ao ao rfl rfl rfl b9 ?_;refine bg.sb ao ao rfl rfl rfl cP ?_;refine bg.sb ao ao rfl rfl rfl b9 ?_;refine bg.sb ao ao rfl rfl rfl b9 ?_;refine bg.sb ao ao rfl rfl rfl cP ?_;refine bg.sb ao ao rfl rfl rfl ie ?_;refine bg.Gf ao ao rfl rfl rfl (λB I w r a hw H K=>Co (H':=λv=>.au au 326 (oJ k gC vs)::.row 3 1 v ((fj k.dE).length+1) ((fj k.dE).flatten++[.i l.f.n])::Hx) (news:=[[.i l.f.n]]) rfl rfl rfl rfl rfl gx aT rfl (λv=>.tail _ _ _ _ _ CM) cF cF hw H K) ?_;refine bg.nil λafx=>?_;refine aV ?_;refine .Ge (v:=afx) uY λR9=>?_;apply ai.gb rfl rfl rfl rfl rfl rfl rfl (Cq R9) (Cr R9) rfl
      (case hu=>repeat (first | exact .head _ _ _ | apply .tail));(case hfit=>rfl);(case hds=>rfl)
      refine aQ ?_;refine .n3 (rs:=[]) rfl (.nil) cL bE ?_;exact⟨_,rfl,by rw[show fT k l={k with dE:=k.dE++[l.f.n]} by simp_all [fT],R7];rfl⟩
     ·refine .cu mixed ?_;refine .Ml (λJC=>match JC with | 0=>(.au au 326 (oJ k gC vs)::hD gC k.dE::Hx) | 1=>(.au au 326 (oJ {k with low:=(if l.f.n>k.low then l.f.n else k.low)} gC vs)::hD gC k.dE::Hx) | _=>(.au au 326 (oJ {k with low:=(if l.f.n>k.low then l.f.n else k.low),high:=(if l.f.n<k.high then l.f.n else k.high)} gC vs)::hD gC k.dE::Hx)) [24,28] 0 29 130 rfl ao rfl rfl rfl ao rfl ?_;refine bg.cc 0 0 ao ao ao rfl rfl rfl (λj g c=>by rcases (show j=0 by omega) with rfl <;> exact pb) ?_;refine bg.cc 0 1 ao ao ao rfl rfl rfl (λj g c=>by rcases (show j=0\/j=1 by omega) with rfl | rfl <;> exact pb) ?_;refine bg.cc 0 2 ao ao ao rfl rfl rfl (λj g c=>by rcases (show j=0\/j=1\/j=2 by omega) with rfl | rfl | rfl <;> exact pb) ?_;refine bg.cc 0 0 ao ao ao rfl rfl rfl (λj g c=>by rcases (show j=0 by omega) with rfl <;> exact pb) ?_;refine bg.cc 0 0 ao ao ao rfl rfl rfl (λj g c=>by rcases (show j=0 by omega) with rfl <;> exact fU) ?_;refine bg.cc 0 0 ao ao ao rfl rfl rfl (λj g c=>by rcases (show j=0 by omega) with rfl <;> exact b9) ?_;refine bg.cc 0 0 ao ao ao rfl rfl rfl (λj g c=>by rcases (show j=0 by omega) with rfl <;> exact b9) ?_;refine bg.cc 0 0 ao ao ao rfl rfl rfl (λj g c=>by rcases (show j=0 by omega) with rfl <;> exact cP) ?_;refine bg.cc 0 0 ao ao ao rfl rfl rfl (λj g c=>by rcases (show j=0 by omega) with rfl <;> exact b9) ?_;refine bg.cc 0 0 ao ao ao rfl rfl rfl (λj g c=>by rcases (show j=0 by omega) with rfl <;> exact b9) ?_;refine bg.cc 0 0 ao ao ao rfl rfl rfl (λj g c=>by rcases (show j=0 by omega) with rfl <;> exact cP) ?_;refine bg.cc 0 0 ao ao ao rfl rfl rfl (λj g c=>by rcases (show j=0 by omega) with rfl <;> exact zC) ?_;refine bg.cc 0 0 ao ao ao rfl rfl rfl (λj g c=>by rcases (show j=0 by omega) with rfl <;> exact pb) ?_;refine bg.cc 0 0 ao ao ao rfl rfl rfl (λj g c=>by rcases (show j=0 by omega) with rfl <;> exact fU) ?_;refine bg.cc 0 0 ao ao ao rfl rfl rfl (λj g c=>by rcases (show j=0 by omega) with rfl <;> exact b9) ?_;refine bg.cc 0 0 ao ao ao rfl rfl rfl (λj g c=>by rcases (show j=0 by omega) with rfl <;> exact b9) ?_;refine bg.cc 0 0 ao ao ao rfl rfl rfl (λj g c=>by rcases (show j=0 by omega) with rfl <;> exact cP) ?_;refine bg.cc 0 1 ao ao ao rfl rfl rfl (λj g c=>by rcases (show j=0\/j=1 by omega) with rfl | rfl <;> exact b9) ?_;refine bg.cc 0 1 ao ao ao rfl rfl rfl (λj g c=>by rcases (show j=0\/j=1 by omega) with rfl | rfl <;> exact b9) ?_;refine bg.cc 0 1 ao ao ao rfl rfl rfl (λj g c=>by rcases (show j=0\/j=1 by omega) with rfl | rfl <;> exact cP) ?_;refine bg.cc 0 1 ao ao ao rfl rfl rfl (λj g c=>by rcases (show j=0\/j=1 by omega) with rfl | rfl <;> exact CQ) ?_;refine bg.cc 0 0 ao ao ao rfl rfl rfl (λj g c=>by rcases (show j=0 by omega) with rfl <;> exact fU) ?_;refine bg.cc 0 0 ao ao ao rfl rfl rfl (λj g c=>by rcases (show j=0 by omega) with rfl <;> exact b9) ?_;refine bg.cc 0 0 ao ao ao rfl rfl rfl (λj g c=>by rcases (show j=0 by omega) with rfl <;> exact b9) ?_;refine bg.gb 0 ao ao ao rfl rfl GQ ?_;refine bg.cc 1 1 ao ao ao rfl rfl rfl (λj g c=>by rcases (show j=1 by omega) with rfl <;> exact fU) ?_;refine bg.cc 1 1 ao ao ao rfl rfl rfl (λj g c=>by rcases (show j=1 by omega) with rfl <;> exact b9) ?_;refine bg.cc 1 1 ao ao ao rfl rfl rfl (λj g c=>by rcases (show j=1 by omega) with rfl <;> exact b9) ?_;refine bg.gb 1 ao ao ao rfl rfl GQ ?_;refine bg.nil ?_;refine ay ?_;refine .n3 (rs:=[]) rfl (.nil) cL bE ?_;exact⟨gC,rfl,by rw[show fT k l={k with low:=if l.f.n>k.low then l.f.n else k.low,high:=if l.f.n<k.high then l.f.n else k.high,whole:=true} by simp_all [fT]];rfl⟩
def alK:Ren:={f:=λx=>match x with | 189=>176 | 125=>202 | 257=>201 | 128=>227 | 129=>228 | 294=>218 | 295=>219 | 296=>220 | 297=>221 | 298=>222 | 299=>223 | 216=>224 | 300=>225 | 301=>226 | 328=>246 | 329=>247 | 330=>248 | 331=>249 | 332=>250 | 215=>251 | 343=>264 | n=>n,t:=λx=>match x with | 28=>23 | 3=>3 | 46=>210 | 0=>0 | 51=>239 | 53=>183 | 4=>4 | 183=>265 | 182=>264 | 131=>138 | 5=>5 | 9=>9 | 218=>281 | 222=>146 | 228=>293 | 229=>294 | n=>n,g:=λx=>x}
def hV(l:al):al:=l.mergeSort λx y=>decide (x<=y)
def al5(l):(fj l).flatten=(l.map (.int .i64)).map .val:=by
 induction l with
 | nil=>rfl
 | cons x r a=>simp only[fj,List.map_cons,List.flatten_cons] at a ⊢;rw[a];rfl
def afy(B)(v)(l)(V:l.length<=1000)(Hx):eM B prog 176 [.val v] (hD v l::Hx) (λy S=>y= .bj []/\S=hD v (hV l)::Hx) (λ_ _=>False):=by
 refine⟨ax,λI w T t J L=>?_⟩;obtain⟨u,rfl⟩:∃u,T= [u]:=by cases L with | cons _ u _ _ _ R=>cases R;exact⟨u,rfl⟩
 have Q:u=v:=by cases L with | cons _ u _ _ G _=>exact bZ G
 subst Q;obtain⟨P,A,s,C⟩:=J.ok _ dB;have D:P=l.map (.int .i64):=by
  rw[al5] at s;exact o3 s
 subst D;rcases A.2 with⟨rfl,M⟩ | ⟨g,cap,cur,rfl,hBg,av,od,o4,hcs,lG⟩
 ·have:l= []:=by cases l with | nil=>rfl | cons x r=>simp[fj] at M
  subst this;refine (Any.slices_Sort_int_none Dm none 0 w).mono λe q ⟨K,oc⟩=>?_;subst oc;exact⟨I,_,t,.refl _ _ _,J,.inl ⟨_,_,K,.bj _ _ .nil,rfl,by simp[hV]⟩⟩
 ·have f:(fj l).length=l.length:=by simp[fj]
  rw[f] at od lG;rw[Nat.mul_one] at lG;have h:(hV l).length=l.length:=List.length_mergeSort _;refine ((f▸Any.slices_Sort_int Dm g 0 cap l w (holds_of_blockI av lG) (Array.getElem?_eq_some_iff.1 av).1 aa:Calls prog 176 #[.slice (some ⟨g,0,none⟩) (fj l).length cap] w _)).mono λe q ⟨K,n,os,oc⟩=>?_;have F:w.grownBy q (some g):=by subst oc;exact grownBy_sortedI _
  have N:q.ownsRow B 3 1 (.slice (some ⟨g,0,none⟩) l.length cap) l.length ((hV l).map (.int .i64)):=by
   subst oc;exact ownsRow_sortedI (ss:=l) h hBg av od o4 hcs
  have j:Go.RowKit.Below B w q:=(Go.RowKit.Below.refl B w).grown F t.base (λj U=>by cases U;exact hBg);have c:∀b i,I b i->q.cell? ⟨b,i,none⟩=w.cell? ⟨b,i,none⟩:=λb i z=>
   World.cell?_of_block (a:=⟨b,i,none⟩) (F.block b (t.lt z) (λe=>by cases e;exact C _ rfl i z))
  have m:er I w I q:=⟨λ_ _ x=>x,c⟩;refine⟨I,hD (.slice (some ⟨g,0,none⟩) (fj l).length cap) (hV l)::Hx,⟨Nat.le_trans t.base j.size,λb o z=>by rw[c b o z];exact t.there b o z⟩,⟨m.ix,m.cell,j⟩,?_,.inl ⟨_,_,K,.bj _ _ .nil,rfl,rfl⟩⟩;refine J.fE (.head _ _ _) m (λb H E=>F.block b H (λe=>E (by cases e;rfl))) (λb o G=>.inl G) ⟨(hV l).map (.int .i64),?_,?_,C⟩ λb O=>.inl O
  ·rw[f,show (fj (hV l)).length=l.length by simp[fj,h]];exact N
  ·rw[al5];exact lA _
def kZ(K:List jk):List (Value×ab):=K.map λe=>(e.key,.p e.au 0)
def qi(K:List jk):aC:=K.flatMap jk.gd
def lR(bt:Nat)(kB:List jk)(e:jk)(cS:List jk)(Hx:aC):aC:=e.gd++(.map bt (kZ (kB++e::cS))::(qi (kB++cS)++Hx))
def m7(bt:Nat)(K:List jk)(Hx:aC):aC:=.map bt (kZ K)::(qi K++Hx)
def Sa(a)(c)(e)(cS)(Hx):(m7 a (c++e::cS) Hx).Perm (lR a c e cS Hx):=by
 unfold m7 lR qi;simp[List.flatMap_append,List.flatMap_cons];generalize e.gd=E;generalize br.map a _=m
 classical
 exact List.perm_iff_count.2 λa=>by simp[List.count_append,List.count_cons];omega
structure jl(K:List jk)(an:Value->dq):Prop where
 has:∀e∈K,an e.key=e.an
 none:∀v,(∀e∈K,e.key≠v)->an v=kA
 nW:∀e∈K,ev prog 318 e.key
 nodup:K.Pairwise λa b=>a.key≠b.key
structure AtR(K:List jk)(an:Value->dq)(key:Value)(kB:List jk)(e:jk)(cS:List jk):Prop where
 Eb:e.key=key
 Sb:e.an=an key
 rep:jl (kB++e::cS) an
def jl.found{a cS}{e}{an}(h:jl (a++e::cS) an):AtR (a++e::cS) an e.key a e cS:=⟨rfl,(h.has e aT).symm,h⟩
def jl.new{K}{an}{key}(h:jl K an)(o:ev prog 318 key)(hn:∀e∈K,e.key≠key)(e)(f:e.key=key)(j:e.an=kA):AtR K an key K e []:=by
 have l:an key=kA:=h.none key hn;refine⟨f,j.trans l.symm,⟨λx c=>?_,λv q=>h.none v λx c=>q x (by simp[c]),λx c=>?_,?_⟩⟩
 ·rcases List.mem_append.1 c with c | c
  ·exact h.has x c
  ·simp at c;subst c;rw[f,j,l]
 ·rcases List.mem_append.1 c with c | c
  ·exact h.nW x c
  ·simp at c;subst c;rw[f];exact o
 ·rw[List.pairwise_append];refine⟨h.nodup,aT,λa m b g=>?_⟩;simp at g;subst g;rw[f];exact hn a m
open Classical in
noncomputable def updK (an:Value->dq) (key:Value) (k:dq):Value->dq:=λv=>if v=key then k else an v
def jl.fE{r cS}{e e'}{an}(h:jl (r++e::cS) an)(g:e'.key=e.key):jl (r++e'::cS) (updK an e.key e'.an):=by
 have j:=List.pairwise_append.1 h.nodup;have f:=List.pairwise_cons.1 j.2.1;refine⟨λx c=>?_,λv l=>?_,λx c=>?_,?_⟩
 ·unfold updK;rcases List.mem_append.1 c with c | c
  ·rw[if_neg (j.2.2 x c e dB)];exact h.has x (by simp[c])
  ·rcases List.mem_cons.1 c with rfl | c
   ·rw[if_pos g]
   ·rw[if_neg (λq=>f.1 x c q.symm)];exact h.has x (by simp[c])
 ·unfold updK;rw[if_neg (λq=>l e' aT (g.trans q.symm))];refine h.none v λx c=>?_;rcases List.mem_append.1 c with c | c
  ·exact l x (by simp[c])
  ·rcases List.mem_cons.1 c with rfl | c
   ·rw[<-g];exact l e' aT
   ·exact l x (by simp[c])
 ·rcases List.mem_append.1 c with c | c
  ·exact h.nW x (by simp[c])
  ·rcases List.mem_cons.1 c with rfl | c
   ·rw[g];exact h.nW e aT
   ·exact h.nW x (by simp[c])
 ·rw[List.pairwise_append];refine⟨j.1,List.pairwise_cons.2 ⟨λx c=>by rw[g];exact f.1 x c,f.2⟩,λa o b m=>?_⟩;rcases List.mem_cons.1 m with rfl | m
  ·rw[g];exact j.2.2 a o e dB
  ·exact j.2.2 a o b (.tail _ m)
def Sc{K}{an}(h:jl K an):∀p∈kZ K,ev prog 318 p.1:=λp a=>by
 obtain⟨e,c,rfl⟩:=List.mem_map.1 a;exact h.nW e c
def afz{K}{key}{u}(h:(key,u)∈kZ K):∃a e cS,K=a++e::cS/\e.key=key/\u= .p e.au 0:=by
 obtain⟨e,c,f⟩:=List.mem_map.1 h;obtain⟨a,cS,g⟩:=List.append_of_mem c;cases f;exact⟨a,e,cS,g,rfl,rfl⟩
def afA(a b c:br)(R:aC):(a::b::c::R).Perm (c::a::b::R):=(List.perm_middle (l₁:=[a,b]) (a:=c) (l₂:=R))
def Sd(B)(W)(h){K}{an}(g:jl K an)(arg)(path)(a:ev prog 318 (bL arg path))(Hx):
  eM B prog 289 [iQ W h,ab.spot arg path] (m7 h K Hx) (λy s=>∃c e cS,y= .p e.au 0/\AtR K an (bL arg path) c e cS/\s=lR h c e cS Hx) (λ_ _=>False):=by
 refine .of func289 rfl ax rfl rfl λI v=>?_;refine aP ?_;refine b0 5 28 ?_;refine aP ?_;refine .Wg (es:=kZ K) (vs:=ru arg path) rfl rfl rfl rfl rfl rfl rfl rfl gx dB a (Sc g) (λu q=>?_) λAO=>?_
 ·obtain⟨c,e,cS,rfl,j,rfl⟩:=afz q;refine ay ?_;refine .dk 7 10 28 rfl ao rfl rfl ao ?_;refine dW ?_;refine bc (λaf=>?_) λaf=>?_
  ·exact absurd af aT
  ·replace af:=dA af;refine a8 ?_;refine .perm (Sa h c e cS Hx) ?_;refine .cl (rs:=[.tmp 4]) rfl eR cL kD ?_;exact⟨c,e,cS,rfl,(show bL arg path=e.key from j.symm)▸g.found,rfl⟩
 ·refine ay ?_;refine .dk 7 10 28 rfl ao rfl rfl ao ?_;refine dW ?_;refine bc (λae=>?_) λae=>?_
  ·replace ae:=dA ae;refine aV ?_;refine .r6 rfl rfl rfl rfl rfl rfl rfl λnb=>?_;refine aH ?_;refine b0 6 28 ?_;refine aJ ?_;refine .Wh (es:=kZ K) (vs:=ru arg path) rfl rfl rfl rfl rfl rfl rfl gx rfl rfl Nj a (Sc g) AO ?_;refine a8 ?_;refine .zc 3 1 ?_;refine .zc 3 1 ?_;refine .perm (afA _ _ _ _) ?_;refine .cl (rs:=[.tmp 4]) rfl eR cL kD ?_;exact⟨K,⟨bL arg path,nb,kA,aX,aX⟩,[],rfl,g.new a (λe r o=>AO (e.key,.p e.au 0) (List.mem_map_of_mem r) o) _ rfl rfl,by simp[lR,kZ,List.map_append,List.map_cons,List.map_nil,List.append_nil];rfl⟩
  ·exact absurd ae aT
def aA.k9{c}{r}{P}{st}{Q}{p}{H'}(a:st.H=H')(h:aA c r P p ⟨st.env,H'⟩ Q):aA c r P p st Q:=.perm (.of_eq a) h
def afB(x)(a)(c)(e)(cS)(Hx):(x::lR a c e cS Hx).Perm (m7 a (c++e::cS) (x::Hx)):=by
 unfold m7 lR qi;simp[List.flatMap_append,List.flatMap_cons];generalize e.gd=E;generalize br.map a _=m
 classical
 exact List.perm_iff_count.2 λa=>by simp[List.count_append,List.count_cons];omega
def JD(x)(a)(K)(Hx):(x::m7 a K Hx).Perm (m7 a K (x::Hx)):=by
 unfold m7;generalize br.map a _=m
 classical
 exact List.perm_iff_count.2 λa=>by simp[List.count_append,List.count_cons];omega
def Se(x)(a)(c)(e)(cS)(Hx):(lR a c e cS (x::Hx)).Perm (x::lR a c e cS Hx):=by
 unfold lR;generalize e.gd=E;generalize br.map a _=m
 classical
 exact List.perm_iff_count.2 λa=>by simp[List.count_append,List.count_cons];omega
def Ec{a}{e e'}{cS}(f:e'.key=e.key)(c:e'.au=e.au):lR bt a e' cS Hx=e'.gd++(.map bt (kZ (a++e::cS))::(qi (a++cS)++Hx)):=by
 unfold lR kZ;simp[List.map_append,List.map_cons,f,c]
def iq(l:c1)(k:dq):dq:={k with gi:=bif k.gi then true else !l.neg}
def nQ(s:Int)(k:dq):dq:=if k.aw.contains s then k else {k with aw:=hV (k.aw++[s])}
noncomputable def walkK (l:c1):(Value->dq)->List Int->List Int->(Value->dq)
 | an,_,[]=>an
 | an,pre,s::r=>
  let kn1:=updK an (bL l.f.arg pre) (nQ s (an (bL l.f.arg pre)))
  walkK l (updK kn1 (bL l.f.arg (pre++[s])) (iq l (kn1 (bL l.f.arg (pre++[s]))))) (pre++[s]) r
noncomputable def vM (an:Value->dq) (l:c1):Value->dq:=updK an (bL l.f.arg []) (iq l (an (bL l.f.arg [])))
noncomputable def addK (an:Value->dq) (l:c1):Value->dq:=
 updK (walkK l (vM an l) [] l.f.path) (bL l.f.arg l.f.path) (fT (walkK l (vM an l) [] l.f.path (bL l.f.arg l.f.path)) l)
structure nR(n:Nat)(k:dq):Prop where
 bB:k.bB<18446744073709551616
 no:k.no<18446744073709551616
 dE:k.dE.length<=n
 aw:k.aw.length<=n
def dO(n:Nat)(an:Value->dq):Prop:=∀v,nR n (an v)
def dO.fE{n}{an}(h:dO n an){k}(a:nR n k)(key):dO n (updK an key k):=λv=>by
 unfold updK;split
 ·exact a
 ·exact h v
def nR.mono{n m}(h:nR n k)(hm:n<=m):nR m k:=⟨h.bB,h.no,Nat.le_trans h.dE hm,Nat.le_trans h.aw hm⟩
def dO.mono{n m}{an}(h:dO n an)(hm:n<=m):dO m an:=λv=>(h v).mono hm
def nR.vN{n}(h:nR n k)(l):nR n (iq l k):=⟨h.bB,h.no,h.dE,h.aw⟩
def nR.slot{n}(h:nR n k)(s):nR (n+1) (nQ s k):=by
 unfold nQ;split
 ·exact h.mono aa
 ·exact⟨h.bB,h.no,Nat.le_trans h.dE aa,by show (hV _).length<=_;unfold hV;rw[List.length_mergeSort];simp;exact h.aw⟩
def nR.ask{n}(h:nR n k){l}(f:m6 W l):nR (n+1) (fT k l):=by
 have a:=h.mono (Nat.le_succ n);unfold fT;split
 ·rename_i c;have:=f.cls c;split
  ·exact⟨a.bB,mj a.no (re aa),a.dE,a.aw⟩
  ·exact⟨mj a.bB (re aa),a.no,a.dE,a.aw⟩
 ·split
  ·split
   ·exact⟨a.bB,a.no,a.dE,a.aw⟩
   ·exact⟨a.bB,a.no,a.dE,a.aw⟩
  ·split
   ·exact⟨a.bB,a.no,by simp;exact h.dE,a.aw⟩
   ·exact⟨a.bB,a.no,a.dE,a.aw⟩
def JE(k)(l):(fT k l).aw=k.aw:=by
 unfold fT;split <;> split <;> first | rfl | (split <;> rfl)
def jl.AP{f cS}{e e'}{an}{key}(h:jl (f++e::cS) an)(g:e'.key=e.key)(a:e.key=key){k}(c:e'.an=k):jl (f++e'::cS) (updK an key k):=by
 subst a;subst c;exact h.fE g
def jl.an{c cS}{e}{an}{key}(h:jl (c++e::cS) an)(a:e.key=key):e.an=an key:=by subst a;exact (h.has e aT).symm
def afC{l:c1}(bq:m6 W l)(rh:W.owner.length<=40)(B bt:Nat){K:List jk}{an:Value->dq}(eX:jl K an){n:Nat}(eD:dO n an)(hn:n<=900)(Hx:aC):
  eM B prog 284 [iQ W bt,ab.lit l] (m7 bt K Hx) (λy H'=>∃y5,y= .bj []/\jl y5 (addK an l)/\dO (n+3) (addK an l)/\H'=m7 bt y5 Hx) (λ_ _=>False):=by
 refine eM.of (n:=79) func284 rfl ax rfl rfl (λI bN=>?_);have Sf:∀j,lQ l.f.arg (l.f.path.take j):=λj=>⟨bq.arg.1,by have:=bq.arg.2;omega,by have:=bq.path;rw[List.length_take];omega,λs b4=>by have:=bq.slot s (List.mem_of_mem_take b4);omega⟩;have p6:=bq.path;refine bA ?_;refine ai.qL rfl rfl rfl rfl (λfg=>?_);refine aP ?_;refine ai.perm (JD _ _ _ _) ?_;refine cI .k (Sd B W bt eX l.f.arg [] (sP (Sf 0)) (.au fg 318 (nP l.f.arg [])::Hx)) ?_;rintro y H1 ⟨kB,e,cS,rfl,df,rfl⟩;refine ai.perm (Se _ _ _ _ _ _) ?_;refine nz ?_;have afD:jl (kB++{e with an:=iq l e.an}::cS) (vM an l):=df.rep.AP (e':={e with an:=iq l e.an}) rfl df.Eb (by rw[df.Sb]);have afE:dO n (vM an l):=eD.fE ((eD _).vN l) _;refine aA.k9 (H':=.au fg 318 (nP l.f.arg [])::lR bt kB {e with an:=iq l e.an} cS Hx) (congrArg (List.cons _) (Ec (e:=e) (e':={e with an:=iq l e.an}) rfl rfl).symm) ?_;refine a8 ?_;refine bm (λm st=>∃(j:Nat) (kB:List jk) (e:jk) (cS:List jk) (uc:Value->dq),st=⟨[(31,.i j),(30,.i l.f.path.length),(29,ab.ints l.f.path),(5,.p e.au 0),(4,.p fg 0),(0,iQ W bt),(3,.ptr (pW l))],.au fg 318 (nP l.f.arg (l.f.path.take j))::lR bt kB e cS Hx⟩/\m=l.f.path.length - j/\j<=l.f.path.length/\jl (kB++e::cS) uc/\e.key=bL l.f.arg (l.f.path.take j)/\dO (n+j) uc/\walkK l uc (l.f.path.take j) (l.f.path.drop j)=walkK l (vM an l) [] l.f.path) (⟨0,kB,_,cS,vM an l,rfl,rfl,Nat.zero_le _,afD,df.Eb,afE,rfl⟩) ?_;rintro m _ ⟨j,kB,e,cS,uc,rfl,rfl,cp,hR,xU,ym,JF⟩;refine aA.ez (t:=29) rfl (λmY=>?_);refine ay ?_;refine az (λaf=>?_) λaf=>?_
 ·have dz:j<l.f.path.length:=by omega
  obtain⟨s,b4⟩:∃s,s=l.f.path.getD j default:=⟨_,rfl⟩;have ny:s∈l.f.path:=by rw[b4];exact hT dz
  have qS:=bq.slot s ny;have lG:l.f.path.take (j+1)=l.f.path.take j++[s]:=by rw[List.take_succ_eq_append_getElem dz,b4,p1 dz]
  have afF:l.f.path.drop j=s::l.f.path.drop (j+1):=by rw[List.drop_eq_getElem_cons dz,b4,p1 dz]
  have wm:=hR.an xU;refine bA ?_;refine aA.k7 (λst=>∃bM:jk,st=⟨[(7,.i s),(31,.i j),(30,.i l.f.path.length),(29,ab.ints l.f.path),(5,.p bM.au 0),(4,.p fg 0),(0,iQ W bt),(3,.ptr (pW l))],.au fg 318 (nP l.f.arg (l.f.path.take j))::lR bt kB bM cS Hx⟩/\jl (kB++bM::cS) (updK uc (bL l.f.arg (l.f.path.take j)) (nQ s (uc (bL l.f.arg (l.f.path.take j)))))) ?_ ?_
  ·refine aR ?_;have HI:ab.i (l.f.path.getD j default)=ab.i s:=by rw[b4]
   rw[<-b4];refine ay ?_;refine ag (ad.qO .k (fq.row (pre:=[]) (post:=[.i s]) (t:=3) (.tail _ (.tail _ (.tail _ (.head _)))) (by simp[fj])) (HC e.an.aw s)) ?_;refine aH ?_;refine az (λae=>?_) λae=>?_
   ·refine aJ ?_;refine ag (ad.row rfl rfl cD rfl rfl rfl rfl rfl rfl) ?_;refine ai.Cp (news:=[[ab.i s]]) rfl rfl rfl rfl rfl rfl rfl rfl (aq.refl _) aT rfl (λv=>by repeat (first | exact bG.head _ _ _ | apply bG.tail)) E4 E4 (λv49=>?_);refine aQ ?_;refine ai.Ge (v:=v49) (.tail _ (.tail _ (.tail _ (.head _)))) (λSg=>?_);apply ai.gb rfl rfl rfl rfl rfl rfl rfl (Cq Sg) (Cr Sg) rfl
    (case hu=>repeat (first | exact bG.head _ _ _ | apply bG.tail));(case hfit=>rfl);(case hds=>rfl)
    refine aP ?_;refine ai.k9 (H':=.au fg 318 (nP l.f.arg (l.f.path.take j))::.au e.au 326 (oJ e.an e.gC v49)::hD e.gC e.an.dE::hD v49 (e.an.aw++[s])::.map bt (kZ (kB++e::cS))::(qi (kB++cS)++Hx)) (by rw[R7];rfl) ?_;refine ai.perm (List.perm_middle (l₁:=[_,_,_])) ?_;refine cI .k (afy B v49 (e.an.aw++[s]) E4 _) ?_;rintro y H1 ⟨rfl,rfl⟩;refine ai.perm (List.perm_middle (l₁:=[_,_,_])).symm ?_;refine aR ?_;refine aZ.perm (H':=.au fg 318 (nP l.f.arg (l.f.path.take j))::lR bt kB {e with an:={e.an with aw:=hV (e.an.aw++[s])},vs:=v49} cS Hx) (.of_eq (congrArg (List.cons _) (Ec (e:=e) (e':={e with an:={e.an with aw:=hV (e.an.aw++[s])},vs:=v49}) rfl rfl).symm)) ?_;exact dm ⟨{e with an:={e.an with aw:=hV (e.an.aw++[s])},vs:=v49},rfl,hR.AP (e':={e with an:={e.an with aw:=hV (e.an.aw++[s])},vs:=v49}) rfl xU (by rw[<-wm,nQ,if_neg nf])⟩
   ·refine aR ?_;exact dm ⟨e,rfl,hR.AP rfl xU (by rw[<-wm,nQ,if_pos nf])⟩
  ·rintro _ ⟨bM,rfl,zW⟩;have Sh:dO (n+j+1) (updK uc (bL l.f.arg (l.f.path.take j)) (nQ s (uc (bL l.f.arg (l.f.path.take j))))):=(ym.mono (Nat.le_succ _)).fE ((ym _).slot s) _;refine aV ?_;refine ag (ad.call .k (Jy l.f.arg (l.f.path.take j) s yr)) ?_;refine aP ?_;refine ai.perm (afB _ _ _ _ _ _) ?_;refine cI .k (Sd B W bt zW l.f.arg (l.f.path.take j++[s]) (sP (lG▸Sf (j+1))) (.au fg 318 (nP l.f.arg (l.f.path.take j++[s]))::Hx)) ?_;rintro y H1 ⟨Si,bJ,Sj,rfl,xJ,rfl⟩;refine ai.perm (Se _ _ _ _ _ _) ?_;refine iY ?_;refine aA.k9 (H':=.au fg 318 (nP l.f.arg (l.f.path.take j++[s]))::lR bt Si {bJ with an:=iq l bJ.an} Sj Hx) (congrArg (List.cons _) (Ec (e:=bJ) (e':={bJ with an:=iq l bJ.an}) rfl rfl).symm) ?_;have xl:=xJ.rep.AP (e':={bJ with an:=iq l bJ.an}) rfl xJ.Eb (by rw[xJ.Sb]);have Sk:=xJ.Eb;have JG:=JF;rw[afF,walkK] at JG;rw[<-lG] at Sk JG xl ⊢;refine aV ?_;exact aU (⟨j+1,Si,{bJ with an:=iq l bJ.an},Sj,_,rfl,rfl,aa,xl,Sk,Sh.fE ((Sh _).vN l) _,JG⟩)
 ·obtain rfl:j=l.f.path.length:=by omega
  rw[List.drop_length,walkK] at JF;rw[List.take_length] at xU ⊢;subst JF;have wm:=hR.an xU;have Sl:=ym (bL l.f.arg l.f.path);have Ed:=Sl;rw[<-wm] at Ed;refine aJ ?_;refine ai.perm (List.perm_middle (l₁:=[_,_])).symm ?_;refine cI .k (afw bq B e.au e.an e.gC e.vs Ed.bB Ed.no (by have:=Ed.dE;omega) _) ?_;rintro y H1 ⟨Ee,rfl,rfl⟩;refine aR ?_;refine aZ.perm (H':=.au fg 318 (nP l.f.arg l.f.path)::lR bt kB {e with an:=fT e.an l,gC:=Ee} cS Hx) (by rw[Ec (e:=e) (e':={e with an:=fT e.an l,gC:=Ee}) rfl rfl];simp only[jk.gd,JE];exact (List.perm_middle (l₁:=[_,_]))) ?_;refine aZ.perm ((Sa bt kB _ cS Hx).symm.cons _) ?_;refine aZ.n3 (rs:=[]) rfl (.nil) (c5.refl _) (by exact List.Sublist.cons _ (List.Sublist.refl _)) ?_;exact⟨kB++{e with an:=fT e.an l,gC:=Ee}::cS,rfl,hR.AP (e':={e with an:=fT e.an l,gC:=Ee}) rfl xU (by rw[<-wm]),(ym.mono (show n+l.f.path.length<=n+3 by omega)).fE ((Sl.ask bq).mono aa) _,rfl⟩
def a7.head{B}{I}{w}{H}{e e'}(a:a7 B I w (e::H))(h:e.ok B I w->e'.ok B I w)(l:e'.dY=e.dY):a7 B I w (e'::H):=by
 refine⟨λf g=>?_,List.pairwise_cons.2 ⟨λf c b j=>(List.pairwise_cons.1 a.apart).1 f c b (by rw[<-l];exact j),(List.pairwise_cons.1 a.apart).2⟩⟩;rcases List.mem_cons.1 g with rfl | g
 ·exact h (a.ok _ dB)
 ·exact a.ok f (.tail _ g)
def bU.replace{I:cr}{x y:ab}(h:∀v,Rel I w x v->Rel I w y v):∀{xs ys:bl} {vs:dj},bU I w (xs++x::ys) vs->bU I w (xs++y::ys) vs:=λ{xs ys vs} bK=>by
 obtain⟨us,ga,rfl,ae,ak⟩:=bK.qP;cases ak with
 | cons _ v _ ga aK ht=>exact ae.append (.cons _ _ _ _ (h v aK) ht)
def Sm{B:Nat}{w}{a:Nat}{Hx}:∀(K:List jk) (D:List (Value×ab)) {I:cr},bY B I w->a7 B I w (.map a (D++kZ K)::(qi K++Hx))->
  ∃J,bY B J w/\Ext B I w J w/\a7 B J w (.map a (D++K.map λe=>(e.key,ab.ptr (m4 e.an)))::Hx)
 | [],D,I,c,f=>⟨I,c,Ext.refl _ _ _,by simpa [kZ,qi] using f⟩
 | e::K,D,I,c,f=>by
  have N:(br.map a (D++kZ (e::K))::(qi (e::K)++Hx)).Perm (hD e.vs e.an.aw::hD e.gC e.an.dE::.au e.au 326 (oJ e.an e.gC e.vs)::.map a (D++kZ (e::K))::(qi K++Hx)):=by
   unfold qi;simp only[List.flatMap_cons,jk.gd]
   classical
   exact List.perm_iff_count.2 λa=>by simp only[List.count_append,List.count_cons,List.count_nil];omega
  obtain⟨Q,z,s,t,G⟩:=a7.tp c (f.perm N) (by simp[fj]);obtain⟨R,m,j,H,r⟩:=a7.tp z t (by simp[fj]);obtain⟨P,o,L,C,A⟩:=a7.Wi (ds:=m4 e.an) m H (λvs l=>by
   unfold oJ at l;have F:=bU.replace (xs:=[_,_]) (y:=ab.ints e.an.dE) (λv h=>by rw[bZ h];exact r) l;have q:=bU.replace (xs:=[_,_,_,_,_,_,_]) (y:=ab.ints e.an.aw) (λv h=>by rw[bZ h];exact G.bw j.keeps) F;exact q)
  have g:=a7.head C (e':=.map a (D++(e.key,ab.ptr (m4 e.an))::kZ K)) (λ⟨x,⟨ct,dv,fF,fc,jP⟩,lb⟩=>⟨x,⟨ct,dv,fF,by rw[fc];simp[kZ],by
   simp only[kZ,List.map_append,List.map_cons] at jP ⊢;exact bU.replace (λv h=>by rw[bZ h];exact A) jP⟩,lb⟩) rfl
  rw[show D++(e.key,ab.ptr (m4 e.an))::kZ K=(D++[(e.key,ab.ptr (m4 e.an))])++kZ K by simp] at g;obtain⟨J,E,O,v⟩:=Sm K _ o g;exact⟨J,E,s.trans (j.trans (L.trans O)),by simpa using v⟩
def Sat.JH{c}{K}{an}(l:jl K an)(s:Sat c ⟨env,m7 bt K Hx⟩ a w):Sat c ⟨env,mu bt an::Hx⟩ a w:=by
 obtain⟨I,t,h,r,g⟩:=s.mem;obtain⟨J,q,m,o⟩:=Sm K [] t (by simpa [m7] using r);refine⟨s.ds,s.size,J,q,h.trans m,o.lazy (λp x=>?_) (λv _ g=>?_),g.bw m.keeps⟩
 ·obtain⟨e,f,rfl⟩:=List.mem_map.1 x;exact⟨l.nW e f,by rw[l.has e f]⟩
 ·rw[l.none v (λe h j=>g (e.key,ab.ptr (m4 e.an)) (by simpa using⟨e,h,rfl,rfl⟩) j)]
def aA.JH{c}{r}{P}{p}{Q}{env}{f}{K}{an}{Hx}(g:jl K an)(h:aA c r P p ⟨env,mu f an::Hx⟩ Q):aA c r P p ⟨env,m7 f K Hx⟩ Q:=λa w s=>h a w (Sat.JH g s)
noncomputable def stageK (ls:List c1):Value->dq:=ls.foldl addK (λ_=>kA)
def afG{j}(h:j<ls.length):addK (stageK (ls.take j)) (ls.getD j default)=stageK (ls.take (j+1)):=by
 rw[List.take_succ_eq_append_getElem h,stageK,stageK,List.foldl_append,p1 h];rfl
def afH(s:∀l∈ls,m6 W l)(q:W.owner.length<=40)(hn:ls.length<=300)(B)(Hx):
  eM B prog 278 [ja W,ab.lits ls] Hx (λy H'=>∃bt,y=iQ W bt/\dO 900 (stageK ls)/\H'=mu bt (stageK ls)::Hx) (λ_ _=>False):=by
 refine .of func278 rfl ax rfl rfl λI x=>?_;refine aJ ?_;refine .mkMap rfl rfl rfl rfl λbt=>?_;refine aP ?_;refine .k9 (H':=m7 bt [] Hx) rfl ?_;refine aP ?_;refine bm (λm r=>∃(j:Nat) (K:List jk),r=⟨[(14,.i j),(13,.i ls.length),(12,ab.lits ls),(5,iQ W bt)],m7 bt K Hx⟩/\m=ls.length - j/\j<=ls.length/\jl K (stageK (ls.take j))/\dO (3*j) (stageK (ls.take j))) (⟨0,[],rfl,rfl,Nat.zero_le _,⟨aT,λ_ _=>rfl,aT,.nil⟩,λ_=>⟨by simp[stageK,kA],by simp[stageK,kA],by simp[stageK,kA],by simp[stageK,kA]⟩⟩) ?_;rintro m _ ⟨j,K,rfl,rfl,w,h,o⟩;refine .ez (t:=12) rfl λmY=>?_;refine ay ?_;refine az (λaf=>?_) λaf=>?_
 ·have g:j<ls.length:=by omega
  refine aJ ?_;refine bT (λdN=>?_);refine ay ?_;refine .perm (JD _ _ _ _) ?_;refine cI .k (afC (s _ (hT g)) q B bt h o aa _) ?_;rintro y v ⟨cS,rfl,f,c,rfl⟩;refine .perm (JD _ _ _ _).symm ?_;rw[afG g] at f c;refine aP ?_;exact aU ⟨j+1,cS,rfl,rfl,aa,f,c.mono aa⟩
 ·obtain rfl:j=ls.length:=by omega
  rw[List.take_length] at h o;refine ay ?_;refine aA.JH h ?_;refine ay ?_;refine .cl (rs:=[.tmp 4]) rfl eR cL kD ?_;exact⟨bt,rfl,o.mono aa,rfl⟩
structure jm(W:bx)(an:Value->dq):Prop where
 slot:∀v,∀s∈(an v).aw,0<=s/\s<W.owner.length
 deep:∀arg path,path.length=2->(an (bL arg path)).aw= []
 low:∀v,-1000000000<=(an v).low/\(an v).low<=1000000000
def jm.fE{an}(h:jm W an){key}{k:dq}(g:∀s∈k.aw,0<=s/\s<W.owner.length)(f:∀arg path,path.length=2->bL arg path=key->k.aw= [])(c: -1000000000<=k.low/\k.low<=1000000000):jm W (updK an key k):=by
 refine⟨λv=>?_,λarg path a=>?_,λv=>?_⟩ <;> unfold updK <;> split
 ·exact g
 ·exact h.slot v
 ·rename_i e;exact f arg path a e
 ·exact h.deep arg path a
 ·exact c
 ·exact h.low v
def afI{a b}{p q}(h:bL a p=bL b q):p.length=q.length:=by
 have g:=congrArg (λv:Value=>match v with | .agg a=>(match a.toList[1]? with | some (Value.int _ n)=>n | _=>(0:Int)) | _=>(0:Int)) h;simp[ru] at g;have l:(p.length:Int)=q.length:=g;omega
def jm.vN{an}(h:jm W an)(l)(key):jm W (updK an key (iq l (an key))):=
 h.fE (h.slot key) (λarg path a e=>by subst e;exact h.deep arg path a) (h.low key)
def jm.afJ{an}(h:jm W an){s:Int}(g:0<=s/\s<W.owner.length)(arg)(pre)(j:pre.length<2):jm W (updK an (bL arg pre) (nQ s (an (bL arg pre)))):=by
 refine h.fE ?_ (λalL c f e=>absurd (afI e) aa) ?_
 ·intro x a;unfold nQ at a;split at a
  ·exact h.slot _ x a
  ·rcases List.mem_append.1 (List.mem_mergeSort.1 a) with a | a
   ·exact h.slot _ x a
   ·simp at a;subst a;exact g
 ·unfold nQ;split
  ·exact h.low _
  ·exact h.low (bL arg pre)
theorem jm.walk{W}{l}:∀(r:al) {an:Value->dq} (a:al),jm W an->(∀s∈r,0<=s/\s<W.owner.length)->a.length+r.length<=2->jm W (walkK l an a r)
 | [],an,a,h,_,_=>h
 | s::r,an,a,h,c,f=>by
  rw[walkK];simp[List.length_cons] at f;exact jm.walk r (a++[s]) ((h.afJ (c s dB) _ a aa).vN l _) (λx g=>c x (.tail _ g)) cF
def jm.add{an}(h:jm W an){l}(c:m6 W l):jm W (addK an l):=by
 have a:=jm.walk (l:=l) l.f.path [] (h.vN l (bL l.f.arg [])) c.slot (by have:=c.path;simp;omega);unfold addK;have q:=c.n;refine a.fE (λs m=>?_) (λarg path o e=>?_) ?_
 ·rw[JE] at m;exact a.slot _ s m
 ·rw[JE];rw[<-e];exact a.deep arg path o
 ·have:=a.low (bL l.f.arg l.f.path);have j:∀k:dq,-1000000000<=k.low/\k.low<=1000000000->-1000000000<=(fT k l).low/\(fT k l).low<=1000000000:=by
   intro k g;unfold fT;split
   ·split <;> exact g
   ·split
    ·split
     ·simp[];split <;> omega
     ·exact g
    ·split
     ·exact g
     ·simp[];split <;> omega
  exact j _ this
def jm.Sn(c:∀l∈ls,m6 W l):jm W (stageK ls):=by
 unfold stageK;have:∀(ls:List c1) (an:Value->dq),jm W an->(∀l∈ls,m6 W l)->jm W (ls.foldl addK an):=by
  intro ls
  induction ls with
  | nil=>intro an h _;exact h
  | cons l ls g=>intro an h c;exact g _ (h.add (c l dB)) (λx f=>c x (.tail _ f))
 exact this ls _ ⟨λv s j=>by simp[kA] at j,λ_ _ _=>rfl,λv=>by show -1000000000<=(-1000000000:Int)/\(-1000000000:Int)<=_;omega⟩ c
def afK(c:∀l∈ls,m6 W l)(a:dO 900 (stageK ls)):qh W (stageK ls):=
 let h:=jm.Sn c
 ⟨λ_ _ _=>h.slot _,λarg path _ f=>h.deep arg path f,λv=>(a v).bB,λv=>(a v).no,λv=>by have:=h.low v;omega,λv=>by have:=(a v).dE;omega⟩
def vO:Value:=.iface 305 (.agg #[])
def afL(w):(Instr.typeAssert vO 20 305 true).run prog w= .ok (.tuple #[.agg #[],.bool true]) w:=by
 simp[Instr.typeAssert,vO,run_underlying (show prog.underlying 305=some (.struct #[]) by kernel_rfl)]
def afM(w):(Instr.typeAssert .nilIface 20 305 true).run prog w= .ok (.tuple #[.agg #[],.bool false]) w:=by
 have h:=zeroValue305 w;simp[Instr.typeAssert,run_underlying (show prog.underlying 305=some (.struct #[]) by kernel_rfl),h]
def afN(b)(x)(w)(j:w.cell? ⟨b,0,none⟩=some (.bool x))(h:w.frozen? ⟨b,0,none⟩=false)(g:b<w.heap.size):
  CallsDIn (Eng.bx none) 0 prog 277 #[.pointer (some ⟨b,0,none⟩)] (.panicking [{v:=vO,recovered:=false}]) w λe m l=>
   e= .returned (.tuple #[])/\m= .panicking [{v:=vO,recovered:=true}]/\l=(w.alloc (.cells #[] 305)).setCell ⟨b,0,none⟩ (.bool false):=by
 have f:(w.alloc (.cells #[] 305)).cell? ⟨b,0,none⟩=some (.bool x):=by rw[World.cell?_alloc_lt w _ ⟨b,0,none⟩ g];exact j
 have c:(w.alloc (.cells #[] 305)).frozen? ⟨b,0,none⟩=false:=by rw[World.frozen?_of_block (Go.RowKit.Below.heap_alloc w _ b g)];exact h
 refine callsDIn_of_wpSIn func277 rfl trivial λAj q o=>?_;apply wpSIn_seq;apply wpSIn_region;have a:=λw=>afL w;simp[wpOpsSIn,go_sem,recoverD,o,Tryz.ntmps277,Exit.thenS,Eng.bx,a];apply wpSIn_seq;apply wpSIn_region;simp[wpOpsSIn,go_sem,Exit.thenS];refine wpSIn_cond (t:=true) yp ?_;simp[if_true];apply wpSIn_region;simp[wpOpsSIn,go_sem,f,c,bodyPostS,results,Tryz.results277]
def afO(b)(w):
  CallsDIn (Eng.bx none) 0 prog 277 #[.pointer (some ⟨b,0,none⟩)] .returning w λe f g=>e= .returned (.tuple #[])/\f= .returning/\g=w.alloc (.cells #[] 305):=by
 refine callsDIn_of_wpSIn func277 rfl trivial λAj j h=>?_;apply wpSIn_seq;apply wpSIn_region;have a:=λw=>afM w;simp[wpOpsSIn,go_sem,recoverD,h,Tryz.ntmps277,Exit.thenS,Eng.bx,a];apply wpSIn_seq;apply wpSIn_region;simp[wpOpsSIn,go_sem,Exit.thenS];refine wpSIn_cond (t:=false) yp ?_;simp[Bool.false_eq_true,if_false];refine wpSIn_of_wpIn rfl (wpIn_skip ?_);cases Aj;simp_all [bodyPostS,results,Tryz.results277]
def Sp{arg}(h:0<=arg/\arg<3):lQ arg []:=⟨h.1,aa,aT,aT⟩
def ry(W:bx)(an:Value->dq)(n:Nat):Bool:=(List.range n).all λi=>rv W an 2 i []
def Sq(W)(an)(n):ry W an (n+1)=(ry W an n && rv W an 2 n []):=by
 simp[ry,List.range_succ]
def afP:ab.is (.iface 305 (.agg [])) (.iface 305 (.agg #[])):=by
 intro I w u h;cases h with
 | iface _ _ v f=>
  cases f with
  | agg _ c a=>
   have:c.toList= []:=List.eq_nil_of_length_eq_zero a.length;rw[Array.toList_eq_nil_iff.1 this]
def afQ{an}(K:qh W an)(l:cy W)(a:ry W an 3):hS prog [mu bt an] 279 [iQ W bt] (.bj []):=by
 intro H o;refine aM func279 λB I r=>?_;refine ay ?_;refine bm (λm g=>∃i:Nat,g=⟨[(3,.i i),(0,iQ W bt)],H⟩/\m=3 - i/\i<=3/\ry W an i=true) iI ?_;rintro m _ ⟨i,rfl,rfl,q,c⟩;refine ay ?_;refine az (λaf=>?_) λaf=>?_
 ·refine dW ?_;refine ag (.h2 .k cL (JB K l 2 [] (Sp (arg:=i) aa) rfl) (λe j=>by repeat (first | exact o e j | apply List.mem_cons_of_mem))) ?_;refine aH ?_;refine bc (λae=>?_) λae=>?_
  ·exfalso;simp[ry,List.all_eq_true,List.mem_range] at a;have:=a i aa;rw[this] at ae;cases ae
  ·have h:rv W an 2 i []=true:=by simpa using ae
   refine aP ?_;exact aU (⟨i+1,rfl,rfl,aa,by rw[Sq,c,h];rfl⟩)
 ·refine aV ?_;refine gQ [] (H) ?_;exact⟨rfl,rfl⟩
def afR{an}(K:qh W an)(q:cy W)(f:ry W an 3=false)(B)(H)(hm:∀e∈ [mu bt an],e∈H):ze B prog 279 [iQ W bt] H vO:=by
 refine ze.of func279 rfl ax rfl rfl λI t=>?_;refine ay ?_;refine bm (λm j=>∃i:Nat,j=⟨[(3,.i i),(0,iQ W bt)],H⟩/\m=3 - i/\i<=3/\ry W an i=true) iI ?_;rintro m _ ⟨i,rfl,rfl,r,c⟩;refine ay ?_;refine bc (λaf=>?_) λaf=>?_
 ·replace af:=dA af;refine dW ?_;refine ag (.h2 .k cL (JB K q 2 [] (Sp (arg:=i) aa) rfl) (λe o=>by repeat (first | exact hm e o | apply List.mem_cons_of_mem))) ?_;refine aH ?_;refine bc (λae=>?_) λae=>?_
  ·replace ae:=dA ae;refine aQ ?_;refine ag uZ ?_;refine .Mp rfl rfl rfl rfl afP ?_;intro a w s;exact Wn (P:=prog) (fn:=Tryz.f279) s
  ·have l:rv W an 2 i []=true:=by simpa using ae
   refine aP ?_;exact aU ⟨i+1,rfl,rfl,aa,by rw[Sq,c,l];rfl⟩
 ·exfalso;simp[decide_eq_false_iff_not] at af;obtain rfl:i=3:=by omega
  rw[f] at c;cases c
noncomputable def togetherK (W:bx) (ls:List c1):Bool:=ry W (stageK ls) 3
def Sr(tb:Nat):Deferred:={target:=.fn (.func 277) #[.pointer (some ⟨tb,0,none⟩)],args:=#[]}
def Ss(q:∃I,bY B I w/\Ext B c9 bN I w/\a7 B I w (.au tb 4 [.b x]::H)/\fL I w (aE env) a)(ht:aE env 4=some (.p tb 0)):
  LeavesIn (Eng.bx none) 0 prog Tryz.f271 a.tmps (e5 B c9 bN (λy h=>y= .b x/\h=H) E) [] .returning w:=by
 obtain⟨I,m,g,f,l⟩:=q;obtain⟨v,o,j⟩:=iz.res (P:=prog) (c:=⟨B,c9,bN,0,[]⟩) (st:=⟨env,.au tb 4 [.b x]::H⟩) f l (fn:=Tryz.f271) (rs:=[.cell 4 4]) rfl (.Bi inferInstance ht dB rfl .nil);exact⟨v,o,I,H,m,g,f.tail,.inl ⟨v,_,rfl,j,rfl,rfl⟩⟩
def St(tb)(w):(invoke (.fn (.func 277) #[.pointer (some ⟨tb,0,none⟩)]) #[]).run prog w= .ok (.enter 277 #[.pointer (some ⟨tb,0,none⟩)]) w:=by
 have:nh prog 277=true:=by kernel_rfl
 have h:=wE this #[.pointer (some ⟨tb,0,none⟩)] w;simp[invoke]
def afS{n}(s:Sat ⟨B,c9,bN,n,[Sr tb]⟩ ⟨env,.au tb 4 [.b x]::H⟩ a w)(ht:aE env 4=some (.p tb 0)):
  bodyPostDIn (Eng.bx none) 0 prog Tryz.f271 (e5 B c9 bN (λy j=>y= .b x/\j=H) E) .ret a w:=by
 show LeavesIn _ _ _ _ _ _ a.defers .returning w;rw[s.ds];refine leavesIn_cons (f:=277) (args:=#[.pointer (some ⟨tb,0,none⟩)]) aT (by simp[Eng.bx]) (St tb w) (λ_ _=>trivial) ?_;refine (afO tb w).mono ?_;rintro e m o ⟨rfl,rfl,rfl⟩;obtain⟨I,c,h,g,l⟩:=s.mem;exact Ss ⟨I,c.alloc _,h.trans (jJ c _),g.alloc c _,l.bw (lY c _)⟩ ht
def afT{n:Nat}(s:Sat ⟨B,c9,bN,n,[Sr tb]⟩ ⟨env,.au tb 4 [.b x]::H⟩ a w)(ht:aE env 4=some (.p tb 0)):
  bodyPostDIn (Eng.bx none) 0 prog Tryz.f271 (e5 B c9 bN (λy R=>y= .b false/\R=H) E) (.panic [{v:=vO,recovered:=false}]) a w:=by
 show LeavesIn _ _ _ _ _ _ a.defers (.panicking [{v:=vO,recovered:=false}]) w;rw[s.ds];obtain⟨I,t,Q,L,O⟩:=s.mem;obtain⟨M,vs,r,N,o⟩:=L.ok _ (.head _);have J:vs= #[.bool x]:=by
  have P:=o3 (vs:=[.bool x]) N;exact Array.toList_inj.1 P
 subst J;have m:tb<w.heap.size:=(Array.getElem?_eq_some_iff.1 r).1;refine leavesIn_cons (f:=277) (args:=#[.pointer (some ⟨tb,0,none⟩)]) aT (by simp[Eng.bx]) (St tb w) (λ_ _=>trivial) ?_;refine (afN tb x w (by rw[jK r];rfl) (by simp[World.frozen?,r]) m).mono ?_;rintro e S T ⟨rfl,rfl,rfl⟩;have l:=t.alloc (.cells #[] 305);have A:=L.alloc t (.cells #[] 305);have C:(w.alloc (.cells #[] 305)).heap[tb]? =some (.cells #[.bool x] 4 (0,0)):=by rw[Go.RowKit.Below.heap_alloc w _ tb m];exact r
 have G:=lY t (.cells #[] 305);have K:=Q.trans (jJ t (.cells #[] 305));have F:=O.bw G;generalize w.alloc (.cells #[] 305)=gf at*;have j:(gf.setCell ⟨tb,0,none⟩ (.bool false)).heap[tb]? =some (.cells #[.bool false] 4 (0,0)):=one_setCell C;have c:∀b i,I b i->(gf.setCell ⟨tb,0,none⟩ (.bool false)).cell? ⟨b,i,none⟩=gf.cell? ⟨b,i,none⟩:=λb i z=>
  World.cell?_of_block (a:=⟨b,i,none⟩) (Go.RowKit.Below.heap_setCell _ _ _ _ (λe=>o i (by rw[<-(show b=tb from e)];exact z)))
 have q:er I gf I (gf.setCell ⟨tb,0,none⟩ (.bool false)):=⟨λ_ _ h=>h,c⟩;have g:=(Go.RowKit.Below.refl B gf).setCell (p:=⟨tb,0,none⟩) M (.bool false);exact Ss (x:=false) (env:=env) ⟨I,⟨Nat.le_trans l.base g.size,λb i z=>by rw[c b i z];exact l.there b i z⟩,K.trans ⟨λ_ _ h=>h,c,g⟩,
  A.fE (.head _ _ _) q (λb _ D=>Go.RowKit.Below.heap_setCell _ _ _ _ (λe=>D (by rw[show b=tb from e];rfl))) (λ_ _ h=>.inl h) ⟨M,#[.bool false],j,.cons _ _ _ _ (.val _) .nil,o⟩ (λ_ h=>.inl h),F.bw q⟩ ht
def afU(c:cy W){ls}(g:∀l∈ls,m6 W l)(hn:ls.length<=300):aI prog 271 [ja W,ab.lits ls] (.b (togetherK W ls)):=by
 intro H;refine .Mn func271 rfl ax rfl rfl λB I q=>?_;refine aQ ?_;refine bT (λtb=>?_);refine aS ?_;refine .Mq (vs:=[.pointer (some ⟨tb,0,none⟩)]) rfl rfl rfl rfl rfl rfl ?_;refine ay ?_;refine cI .k (afH g (vn c) hn _ _) ?_;rintro y m ⟨r,rfl,o,rfl⟩;have f:=afK g o;cases jt:togetherK W ls
 ·refine .Wo rfl .k (afR f c jt _ _ aT) ?_;intro a w s;exact afT (s.weaken (st':=⟨_,.au tb 4 [.b false]::H⟩) (λ_ _ h=>h) (List.sublist_cons_self _ _)) cM
 ·refine cI .k (afQ f c jt _ aT).b ?_;rintro y m ⟨rfl,rfl⟩;refine aJ ?_;intro a w s;exact afS (s.weaken (st':=⟨_,.au tb 4 [.b true]::H⟩) (λ_ _ h=>h) (List.sublist_cons_self _ _)) cM
def Su(W:bx)(c:List c1):Prop:=(∀l∈c,m6 W l)/\c.length<=300
structure JI(W:bx)(f:Fact):Prop where
 ok:okB f=true
 nodes:cW f<=1000
 case:∀b,∀c∈ei f b,Su W c
noncomputable def canF (W:bx) (f:Fact):Bool:=(ei f false).any (togetherK W)
def afV{f}(h:∀y∈ei f false,togetherK W y=false):canF W f=false:=by
 rw[canF,List.any_eq_false];intro x a;rw[h x a];simp
def afW{f}{pre}(a:pre<+:ei f false){y}(hy:y∈pre)(h:togetherK W y):canF W f=true:=by
 rw[canF,List.any_eq_true];exact⟨y,a.subset hy,h⟩
def afX(J:cy W){f}(z:JI W f):aI prog 266 [ja W,ab.fact f] (.b (canF W f)):=by
 intro H;refine .qK func266 rfl ax rfl rfl λB I M=>?_;refine aP ?_;refine .scope ?_;refine aQ ?_;refine bT (λmw=>?_);refine aV ?_;refine .label ?_;refine aS ?_;refine ag (.call .k ((ae6 _ _))) ?_;refine aH ?_;refine .weaken (st':=⟨[(2,.ptr [ja W]),(5,.p mw 0),(8,.fn (.func 272) [] [.ptr (fy f),.ptr [.b false]]),(3,.ptr (fy f))],[.au mw 4 [.b false]]++H⟩) h1 bE ?_;refine .rangeFunc (ab.lits) (ei f false) (λpre j=>j= [.au mw 4 [.b false]]/\∀y∈pre,togetherK W y=false) (λcode pre j=>code= .exit 0/\j= [.au mw 4 [.b true]]/\∃y∈pre,togetherK W y=true) ([.au mw 4 [.b false]]) H (λx=>[(6,ab.lits x),(9,ab.lits x),(2,.ptr [ja W]),(5,.p mw 0),(8,.fn (.func 272) [] [.ptr (fy f),.ptr [.b false]]),(3,.ptr (fy f))]) rfl rfl rfl rfl (ae8 f z.ok z.nodes false) ⟨rfl,aT⟩ ?_ ?_ ?_ ?_
 ·intro G K F x E;refine aH ?_;exact λa w s=>⟨_,rfl,s⟩
 ·intro G C L pre x j E K F a t;obtain⟨rfl,h⟩:=t;obtain⟨o,B⟩:=z.case false x (a.subset aT);refine aS ?_;refine ag (.call .k (afU J o B)) ?_;refine aQ ?_;refine bc (λaf=>?_) λaf=>?_
  ·have af:=af;refine aP ?_;exact .VI bE ⟨rfl,rfl,x,aT,af⟩
  ·have af:=af;refine aQ ?_;exact .mH bE ⟨rfl,λy g=>by rcases List.mem_append.1 g with g | g;exact h y g;simp at g;subst g;exact af⟩
 ·intro C j t;obtain⟨rfl,h⟩:=t;have r:=afV h;refine a8 ?_;refine .wW ?_;refine .Cd (rs:=[.tmp 4]) (H':=H) rfl na eR cL bE ?_;exact⟨bn (by rw[r]),rfl⟩
 ·intro C q pre j a A;obtain⟨rfl,rfl,y,g,v⟩:=A;have r:=afW a g v
  ·refine bQ ?_;refine .wW ?_;refine .Cd (rs:=[.tmp 4]) (H':=H) rfl na eR cL bE ?_;exact⟨bn (by rw[r]),rfl⟩
end Go.Proofs.YtodccgailpkgeaaGreat

