/- A part of the proof. No condition. -/
import Derived.Test.YtodccgailpkgeaaGreatKindInfersP18
import Derived.Shelf.Sort.Plain
import Derived.Shelf.Slices.In.SortNone
import Derived.Sort.OwnSortedInts
import Derived.Tactics
import Derived.Tactics2
import Derived.Laws.Pointers
import Derived.TacticsInMore
import Derived.RegionIn
import Derived.RecoverIn
set_option linter.defProp false
set_option maxHeartbeats 1000000
set_option linter.unusedVariables false
set_option linter.unusedSimpArgs false
set_option maxRecDepth 10000
namespace Go.Proofs.YtodccgailpkgeaaGreat
open Go.Proofs.Tryz
open Go.Eng
open Go.Eng.Fc
open Go.Eng.Fc Go.Shelf Go.Sort
variable{W:bt}{bp B tb:Nat}{can:ak->Bool}{k:dn}{r:ak}{s:Int}{U:dq}{Hx H:aA}{w bW:World}{x:Bool}{a:Act}{env:List (Nat×ab)}{ls:List cZ}{c5:cp}{E:ab->aA->Prop}
def oy(dz:ak):Nat->Int->Int
 | 0,n=>n
 | f+1,n=>if dz.contains n then oy dz f (n+1) else n
def mg(dz:ak)(n:Int):Nat:=(dz.filter λx=>decide (n<=x)).length
def mW(dz:ak)(n:Int):Int:=oy dz (mg dz n+1) n
def Jd{a}{n:Int}(h:a.contains n=true):mg a (n+1)+1<=mg a n:=by
 have j:n∈a:=by simpa using h
 clear h
 induction a with
 | nil=>cases j
 | cons x r m=>
  have sub:∀l:ak,mg l (n+1)<=mg l n:=by
   intro l
   induction l with
   | nil=>simp[mg]
   | cons y s g=>
    unfold mg at g ⊢;by_cases f:n+1<=y
    ·have c:n<=y:=by omega
     simp[List.filter_cons,f,c];exact g
    ·by_cases c:n<=y
     ·simp only[List.filter_cons,f,c,decide_true,decide_false,if_true];simp;omega
     ·simp only[List.filter_cons,f,c,decide_false];simpa using g
  rcases List.mem_cons.1 j with e | j
  ·subst e;have:=sub r;unfold mg at this ⊢;have f: ¬n+1<=n:=by omega
   simp only[List.filter_cons,f,Int.le_refl,decide_true,decide_false,if_true];simp;omega
  ·have:=m j;unfold mg at this ⊢;by_cases f:n+1<=x
   ·have c:n<=x:=by omega
    simp[List.filter_cons,f,c];omega
   ·by_cases c:n<=x
    ·simp only[List.filter_cons,f,c,decide_true,decide_false,if_true];simp;omega
    ·simp only[List.filter_cons,f,c,decide_false];simp;omega
def aeq{a}:∀(f g:Nat) (n:Int),mg a n+1<=f->mg a n+1<=g->oy a f n=oy a g n:=by
 intro f
 induction f with
 | zero=>intro g n h _;omega
 | succ f j=>
  intro g n h l;obtain⟨g,rfl⟩:∃q,g=q+1:=⟨g - 1,aa⟩;rw[oy,oy];by_cases c:a.contains n=true
  ·rw[if_pos c,if_pos c];have m:=Jd c;exact j g (n+1) aa aa
  ·rw[if_neg c,if_neg c]
def Ro{a}{n}(h:a.contains n=true):mW a n=mW a (n+1):=by
 have c:=Jd h;show oy a (mg a n+1) n=_;rw[oy,if_pos h];exact aeq _ _ _ c fs
def Rp{a}{n}(h:a.contains n=false):mW a n=n:=by
 show oy a (mg a n+1) n=_;rw[oy,if_neg (λe=>by rw[h] at e;cases e)]
def aer(a)(n):mg a n<=a.length:=List.length_filter_le _ _
def aes{al}(K:qa W al)(t:W.owner.length<=40){arg}{path}(h:lG arg path):
  hP prog [mf bp al] 292 [iH W bp,ab.spot arg path] (.bk [.i (mW (al (bJ arg path)).dz (al (bJ arg path)).low),.b (decide (mW (al (bJ arg path)).dz (al (bJ arg path)).low<=(al (bJ arg path)).high) && tX al arg path 1)]):=by
 intro H s;refine aM func292 λB I z=>?_;have r:=K.low (bJ arg path);have f:=K.dz (bJ arg path);have v:=aer (al (bJ arg path)).dz (al (bJ arg path)).low;refine bE ?_;refine ag (.hX .k (c0.refl _) (vF W bp al arg path (sD h)) (λe g=>by repeat (first | exact s e g | apply List.mem_cons_of_mem))) ?_;refine eb ?_;refine bo (λm x=>∃n:Int,x=⟨[(7,.i n),(6,.ptr (mV (al (bJ arg path)))),(0,iH W bp),(3,.ptr (nF arg path))],H⟩/\m=mg (al (bJ arg path)).dz n/\mW (al (bJ arg path)).dz n=mW (al (bJ arg path)).dz (al (bJ arg path)).low/\(al (bJ arg path)).low<=n/\n - (al (bJ arg path)).low+mg (al (bJ arg path)).dz n<=1000) (⟨(al (bJ arg path)).low,rfl,rfl,rfl,Int.le_refl _,aa⟩) ?_;rintro m _ ⟨n,rfl,rfl,o,w,q⟩;refine ba ?_;refine ag (.call .k ((Ho _ _))) ?_;refine aO ?_;refine bc (λaf=>?_) λaf=>?_
 ·replace af:=dC af;have l:=Jd (show (al (bJ arg path)).dz.contains n=true from af);have j:=Ro (show (al (bJ arg path)).dz.contains n=true from af);refine ba ?_;exact aW ⟨n+1,rfl,rfl,by rw[<-j];exact o,aa,aa⟩
 ·have c:=Rp (show (al (bJ arg path)).dz.contains n=false from af);refine jI ?_;refine aj.db rfl rfl rfl rfl rfl rfl (λaw=>.hX zs cL (Rn K t h 1 aa) (λe g=>by repeat (first | exact s e g | apply List.mem_cons_of_mem))) ?_;refine ax ?_;refine dL [.tmp 4,.tmp 5] H ?_;exact⟨by rw[<-o,c, <-kd];rfl,rfl⟩
def vG(al:Value->dn)(arg:Int)(path:ak):Bool:=decide (mW (al (bJ arg path)).dz (al (bJ arg path)).low<=(al (bJ arg path)).high) && tX al arg path 1
def vH(al:Value->dn)(arg:Int)(path:ak):Bool:=!(al (bJ arg path)).whole && tX al arg path 2
def iw(W:bt)(al:Value->dn)(can:ak->Bool)(arg:Int)(path:ak):ak->Nat->Nat->Option (Nat×Nat)
 | [],bA,no=>some (bA,no)
 | s::r,bA,no=>
  let gi:=(al (bJ arg (path++[s]))).gi
  let is:=can (path++[s])
  if gi && !is then none
  else if gi then iw W al can arg path r (bA ||| 2^(W.owner.getD s.toNat default).toNat) no
  else if !is then iw W al can arg path r bA (no ||| 2^(W.owner.getD s.toNat default).toNat)
  else iw W al can arg path r bA no
def jQ(W:bt):Nat->Nat->Nat->Nat
 | 0,_,bA=>bA
 | f+1,c,bA=>jQ W f (c+1) (if bA.testBit c then bA ||| (mF W).getD c 0 else bA)
def oz(W:bt)(al:Value->dn)(can:ak->Bool)(arg:Int)(path:ak):Nat×Bool:=
 let k:=al (bJ arg path)
 if k.whole || k.bA.testBit 1 || k.bA.testBit 2 || k.no.testBit 0 then (0,false)
 else match iw W al can arg path k.av k.bA k.no with
  | none=>(0,false)
  | some (bA,no)=>(l4 (jQ W W.parents.length 3 bA) 1,((l4 (jQ W W.parents.length 3 bA) 1 &&& no:Nat):Int)==0)
def rm(W:bt)(al:Value->dn):Nat->Int->ak->Bool
 | 0,arg,path=>vG al arg path || vH al arg path || (oz W al (λ_=>false) arg path).2
 | d+1,arg,path=>vG al arg path || vH al arg path || (oz W al (rm W al d arg) arg path).2
def DX{al}{arg}{path}{l:ak}{k bA no:Nat}(a:k<l.length):iw W al can arg path (l.drop k) bA no=iw W al can arg path (l.getD k default::l.drop (k+1)) bA no:=by
 rw[List.drop_eq_getElem_cons a,pX a]
def aet{al}{arg}{path r}{bA no}(h:(bif (al (bJ arg (path++[s]))).gi then !can (path++[s]) else false)=false)(a:(al (bJ arg (path++[s]))).gi=true):iw W al can arg path r (bA ||| 2^(W.owner.getD s.toNat default).toNat) no=iw W al can arg path (s::r) bA no:=by
 have c:can (path++[s])=true:=by rw[a] at h;simpa using h
 rw[iw];simp[a,c]
def aeu{al}{arg}{path r}{bA no}(c:(al (bJ arg (path++[s]))).gi=false)(a:can (path++[s])=false):iw W al can arg path r bA (no ||| 2^(W.owner.getD s.toNat default).toNat)=iw W al can arg path (s::r) bA no:=by
 rw[iw];simp[c,a]
def aev{al}{arg}{path r}{bA no}(c:(al (bJ arg (path++[s]))).gi=false)(a:can (path++[s])):iw W al can arg path r bA no=iw W al can arg path (s::r) bA no:=by
 rw[iw];simp[c,a]
def Rq{c a r}(g:c<3+W.parents.length)(h:jQ W (3+W.parents.length - c) c a=r):jQ W (3+W.parents.length - (c+1)) (c+1) (if a.testBit c then a ||| (mF W).getD c 0 else a)=r:=by
 obtain⟨q,f⟩:∃q,3+W.parents.length - c=q+1:=⟨3+W.parents.length - c - 1,aa⟩;rw[f,jQ] at h;rw[show 3+W.parents.length - (c+1)=q from by omega];exact h
def aew{al}{arg}{path r}{bA no}(h:(bif (al (bJ arg (path++[s]))).gi then !can (path++[s]) else false)=true):iw W al can arg path (s::r) bA no=none:=by
 rw[kd] at h;rw[iw];exact if_pos h
def aex{al}{arg}{path}(h:(bif bif bif (al (bJ arg path)).whole then true else (al (bJ arg path)).bA.testBit (Int.toNat 1) then true else (al (bJ arg path)).bA.testBit (Int.toNat 2) then true else (al (bJ arg path)).no.testBit (Int.toNat 0))=true):oz W al can arg path=(0,false):=by
 simp only[eM] at h;rw[oz];exact if_pos h
def aey{al}{arg}{path}(h:iw W al can arg path (al (bJ arg path)).av (al (bJ arg path)).bA (al (bJ arg path)).no=none):oz W al can arg path=(0,false):=by
 rw[oz,h];simp
def aez{al}{arg}{path}{bA no}(h:(bif bif bif (al (bJ arg path)).whole then true else (al (bJ arg path)).bA.testBit (Int.toNat 1) then true else (al (bJ arg path)).bA.testBit (Int.toNat 2) then true else (al (bJ arg path)).no.testBit (Int.toNat 0))=false)
  (a:some (bA,no)=iw W al can arg path (al (bJ arg path)).av (al (bJ arg path)).bA (al (bJ arg path)).no):oz W al can arg path=(l4 (jQ W W.parents.length 3 bA) 1,((l4 (jQ W W.parents.length 3 bA) 1 &&& no:Nat):Int)==0):=by
 simp[eM] at h;rw[oz, <-a];exact if_neg gQ
def aeA(a b):l4 a b<18446744073709551616:=BitVec.isLt (w:=64) _
def aeB(a:cx W){i}(c:i<W.owner.length):3<=W.owner.getD i default/\W.owner.getD i default<3+W.parents.length:=by
 simp[cx,Bool.and_eq_true,List.all_eq_true] at a;have:=a.2 _ (hQ c);simpa [r9] using this
theorem Rr:∀(l:List ak) (i:Nat) (U:dq),(hA l i U).length=U.length
 | [],_,_=>rfl
 | x::r,i,U=>by rw[hA,Rr r];simp
def aeC(W):(mF W).length=63:=by rw[mF,Rr];rfl
def aeD(c:∀x∈U,x<18446744073709551616){i}(g:i<61)(l):o1 U i l<18446744073709551616:=by
 unfold o1;have:∀(l:ak) (s:Nat),s<18446744073709551616->l.foldl (λs (p:Int)=>s ||| U.getD p.toNat 0) s<18446744073709551616:=by
  intro l
  induction l with
  | nil=>intro s a;exact a
  | cons p r f=>intro s a;exact f _ (l9 a (vl c _))
 exact this l _ (l9 aa (q4 aa))
theorem Rs:∀(l:List ak) (i:Nat) (U:dq),i+l.length<=61->(∀x∈U,x<18446744073709551616)->∀x∈hA l i U,x<18446744073709551616
 | [],_,_,_,h=>h
 | y::r,i,U,a,h=>by
  rw[hA];simp[List.length_cons] at a;exact Rs r (i+1) _ aa (Hp h (aeD h aa y))
def Rt(h:W.parents.length<=60):∀x∈mF W,x<18446744073709551616:=Rs _ _ _ aa c8
def aeE{c}{q}(a:q=c)(h:c<U.length):(List.drop q (List.drop 2 (cD W++U.map λs=>ab.set s)))[0]? =some (ab.set (U.getD c 0)):=by
 subst a;rw[List.drop_drop,List.getElem?_drop];have:=Hn (W:=W) (U:=U) (i:=q) h;rw[show 2+q+0=2+q from rfl];exact this
def aeF{al}(K:qa W al)(A:cx W){arg:Int}{path}(h:lG arg path)(can)(J:∀s∈(al (bJ arg path)).av,hP prog [mf bp al] 285 [iH W bp,ab.spot arg (path++[s])] (.b (can (path++[s])))):
  hP prog [mf bp al] 294 [iH W bp,ab.spot arg path] (.bk [ab.set (oz W al can arg path).1,.b (oz W al can arg path).2]):=by
 intro H D;refine aM func294 λB I R=>?_;have G:=vm A;have F:=q0 A;refine bE ?_;refine ag (ad.hX .k (c0.refl _) (vF W bp al arg path (sD h)) (λe w=>by repeat (first | exact D e w | apply List.mem_cons_of_mem))) ?_;refine aY ?_;refine bP 9 136 ?_;refine oY ?_;refine aj.db rfl rfl rfl rfl rfl rfl (λaw=>ad.call (.mk' rfl rfl rfl rfl c9) (C6 _ 1 aa (K.bA _))) ?_;refine aF ?_;refine aj.db rfl rfl rfl rfl rfl rfl (λaw=>ad.call (.mk' rfl rfl rfl rfl c9) (C6 _ 2 aa (K.bA _))) ?_;refine aF ?_;refine aj.db rfl rfl rfl rfl rfl rfl (λaw=>ad.call (.mk' rfl rfl rfl rfl c9) (C6 _ 0 aa (K.no _))) ?_;refine aF ?_;refine bc (λaf=>?_) (λaf=>?_)
 ·have a:=aex (W:=W) (can:=can) af;refine aI ?_;refine dL [.tmp 4,.tmp 5] (H) ?_;exact⟨by rw[a];rfl,rfl⟩
 ·have af:=af;refine c4 ?_;refine bo (λm B=>∃(k bA no:Nat),B=⟨[(47,.i k),(46,.i (al (bJ arg path)).av.length),(45,ab.ints (al (bJ arg path)).av),(7,ab.set bA),(8,ab.set no),(0,iH W bp),(3,.ptr (nF arg path))],H⟩/\m=(al (bJ arg path)).av.length - k/\k<=(al (bJ arg path)).av.length/\bA<18446744073709551616/\no<18446744073709551616/\iw W al can arg path ((al (bJ arg path)).av.drop k) bA no=iw W al can arg path (al (bJ arg path)).av (al (bJ arg path)).bA (al (bJ arg path)).no) (⟨0,_,_,rfl,rfl,Nat.zero_le _,K.bA _,K.no _,rfl⟩) ?_;rintro m _ ⟨k,bA,no,rfl,rfl,Q,o,j,r⟩;refine aB.eG (t:=45) rfl (λp3=>?_);refine ax ?_;refine az (λae=>?_) λae=>?_
  ·refine bR ?_;have q:(al (bJ arg path)).av.getD k default∈(al (bJ arg path)).av:=hQ aa;have x:=DW K G h q;have P:=K.slot arg path h _ q;have M:=aeB A (i:=((al (bJ arg path)).av.getD k default).toNat) aa;refine aF ?_;refine ag (ad.call .k (Jb arg path ((al (bJ arg path)).av.getD k default) x.1)) ?_;refine bK (λdM=>?_);refine aY ?_;refine bP 9 136 ?_;refine aO ?_;refine bg (ad.hX .k cL (vF W bp al arg (path++[(al (bJ arg path)).av.getD k default]) (sD x.2)) (λe w=>by repeat (first | exact D e w | apply List.mem_cons_of_mem))) ?_;refine aT ?_;refine bg (ad.hX .k cL (J _ q) (λe w=>by repeat (first | exact D e w | apply List.mem_cons_of_mem))) ?_;refine gL ?_;refine bc (λao=>?_) (λao=>?_)
   ·have a:=aey (W:=W) (can:=can) (by rw[<-r,DX (l:=(al (bJ arg path)).av) (k:=k) aa];exact aew ao);refine dk ?_;refine dL [.tmp 4,.tmp 5] (H) ?_;exact⟨by rw[a];rfl,rfl⟩
   ·have ao:=ao;refine ax ?_;refine az (λaV=>?_) λaV=>?_
    ·refine dk ?_;refine ag (ad.call .k ((vj _ _ aa aa))) ?_;refine ba ?_;exact aW (⟨k+1,bA ||| 2^(W.owner.getD ((al (bJ arg path)).av.getD k default).toNat default).toNat,no,rfl,rfl,aa,l9 o (q4 aa),j,by rw[<-r,DX (l:=(al (bJ arg path)).av) (k:=k) aa];exact aet ao aV⟩)
    ·refine aP ?_;refine az (λbu=>?_) λbu=>?_
     ·refine dk ?_;refine ag (ad.call .k ((vj _ _ aa aa))) ?_;refine ba ?_;exact aW (⟨k+1,bA,no ||| 2^(W.owner.getD ((al (bJ arg path)).av.getD k default).toNat default).toNat,rfl,rfl,aa,o,l9 j (q4 aa),by rw[<-r,DX (l:=(al (bJ arg path)).av) (k:=k) aa];exact aeu (by simpa using aV) (by simpa using bu)⟩)
     ·refine aI ?_;exact aW (⟨k+1,bA,no,rfl,rfl,aa,o,j,by rw[<-r,DX (l:=(al (bJ arg path)).av) (k:=k) aa];exact aev (by simpa using aV) (by simpa using bu)⟩)
  ·obtain rfl:k=(al (bJ arg path)).av.length:=by omega
   rw[List.drop_length,iw] at r;have a:=aez (W:=W) (can:=can) af r;refine bR ?_;refine bo (λm B=>∃(c v:Nat),B=⟨[(14,.i c),(7,ab.set v),(8,ab.set no),(0,iH W bp),(3,.ptr (nF arg path))],H⟩/\m=3+W.parents.length - c/\3<=c/\c<=3+W.parents.length/\v<18446744073709551616/\jQ W (3+W.parents.length - c) c v=jQ W W.parents.length 3 bA) (⟨3,bA,rfl,rfl,aa,aa,o,by rw[Nat.add_sub_cancel_left]⟩) ?_;rintro m _ ⟨c,v,rfl,rfl,L,S,f,g⟩;refine gL ?_;refine az (λcr=>?_) λcr=>?_
   ·refine aI ?_;refine ag (ad.call .k ((C6 _ _ aa wx))) ?_;refine aO ?_;refine az (λdK=>?_) λdK=>?_
    ·refine bY ?_;refine ag (ad.cF rfl rfl rfl (aeE (c:=c) aS (by rw[aeC];omega))) ?_;refine ag (ad.bits rfl rfl rfl rfl rfl (uZ _ _ f (vl (Rt F) _))) ?_;refine ba ?_;exact aW (⟨c+1,v ||| (mF W).getD c 0,rfl,rfl,aa,aa,l9 f (vl (Rt F) _),by have:=Rq aa g;rwa [if_pos (by simpa using dK)] at this⟩)
    ·refine aI ?_;exact aW (⟨c+1,v,rfl,rfl,aa,aa,f,by have:=Rq aa g;rwa [if_neg (by simpa using dK)] at this⟩)
   ·obtain rfl:c=3+W.parents.length:=by omega
    rw[Nat.sub_self,jQ] at g;refine aI ?_;refine ag (ad.bits rfl rfl rfl rfl rfl (MW _ 1)) ?_;refine aI ?_;refine ag (ad.bits rfl rfl rfl rfl rfl (zA _ _ (aeA _ _) j)) ?_;refine ax ?_;refine dL [.tmp 4,.tmp 5] (H) ?_;exact⟨by rw[a, <-g];rfl,rfl⟩
def Ru{al}(K:qa W al)(l:cx W){arg}{path}(h:lG arg path)(can)(m:∀s∈(al (bJ arg path)).av,hP prog [mf bp al] 285 [iH W bp,ab.spot arg (path++[s])] (.b (can (path++[s])))):
  hP prog [mf bp al] 285 [iH W bp,ab.spot arg path] (.b (vG al arg path || vH al arg path || (oz W al can arg path).2)):=by
 intro H g;refine aM func285 λB I o=>?_;have j:=vm l;refine bE ?_;refine ag (.hX .k (c0.refl _) (aes K j h) (λe a=>by repeat (first | exact g e a | apply List.mem_cons_of_mem))) ?_;refine dk ?_;refine aj.db rfl rfl rfl rfl rfl rfl (λaw=>.hX zs cL (aep K j h) (λe a=>by repeat (first | exact g e a | apply List.mem_cons_of_mem))) ?_;refine aF ?_;refine bc (λaf=>?_) λaf=>?_
 ·have c:(vG al arg path || vH al arg path)=true:=by rw[eM] at af;exact af
  refine aP ?_;refine aC 4 H ?_;exact⟨bq (by rw[c];rfl),rfl⟩
 ·have c:(vG al arg path || vH al arg path)=false:=by rw[eM] at af;exact af
  refine ax ?_;refine ag (.hX .k cL (aeF K l h can m) (λe a=>by repeat (first | exact g e a | apply List.mem_cons_of_mem))) ?_;refine c4 ?_;refine aC 4 H ?_;exact⟨bq (by rw[c];rfl),rfl⟩
theorem Je{W}{f}{al}(K:qa W al)(a:cx W){arg}:∀(d:Nat) (path:ak),lG arg path->path.length+d=2->hP prog [mf f al] 285 [iH W f,ab.spot arg path] (.b (rm W al d arg path))
 | 0,path,h,g=>Ru K a h (λ_=>false) (λs c=>by rw[K.deep arg path h aa] at c;cases c)
 | d+1,path,h,g=>Ru K a h (rm W al d arg) (λs c=>Je K a d (path++[s]) (DW K (vm a) h c).2 cB)
abbrev fj(l:ak):List bl:=l.map λn=>[ab.i n]
def oA(k:dn)(gy vs:Value):bl:=[.i k.low,.i k.high,.val gy,ab.set k.bA,ab.set k.no,.b k.whole,.b k.gi,.val vs]
structure iZ where
 key:Value
 au:Nat
 al:dn
 gy:Value
 vs:Value
def hB(vs:Value)(av:ak):bn:=.row 3 1 vs (fj av).length (fj av).flatten
def iZ.ga(e:iZ):aA:=[.au e.au 326 (oA e.al e.gy e.vs),hB e.gy e.al.dz,hB e.vs e.al.av]
def fS(k:dn)(l:cZ):dn:=
 if l.f.op=2 then (if l.neg then {k with no:=k.no ||| 2^l.f.cls.toNat} else {k with bA:=k.bA ||| 2^l.f.cls.toNat})
 else if l.f.op=3 then (if l.neg then {k with low:=(if l.f.n>k.low then l.f.n else k.low)} else {k with high:=(if l.f.n - 1<k.high then l.f.n - 1 else k.high),whole:=true})
 else if l.neg then {k with dz:=k.dz++[l.f.n]}
 else {k with low:=(if l.f.n>k.low then l.f.n else k.low),high:=(if l.f.n<k.high then l.f.n else k.high),whole:=true}
def Rv(v)(l)(n):hB v (l++[n])= .row 3 1 v ((fj l).length+1) ((fj l).flatten++[.i n]):=by
 simp[hB,fj]
structure mX(W:bt)(l:cZ):Prop where
 op:2<=l.f.op/\l.f.op<=4
 cls:l.f.op=2->0<=l.f.cls/\l.f.cls<63
 n: -1000000000<=l.f.n/\l.f.n<=1000000000
 arg:0<=l.f.arg/\l.f.arg<3
 path:l.f.path.length<=2
 slot:∀s∈l.f.path,0<=s/\s<W.owner.length
 kids:l.f.kids= []
def aeG{l}(D:mX W l)(B au)(k)(gy vs)(hm:k.bA<18446744073709551616)(C:k.no<18446744073709551616)(L:k.dz.length<=1000)(Hx):
  eK B prog 291 [.p au 0,ab.lit l] (.au au 326 (oA k gy vs)::hB gy k.dz::Hx) (λy H'=>∃Rw,y= .bk []/\H'= .au au 326 (oA (fS k l) Rw vs)::hB Rw (fS k l).dz::Hx) (λ_ _=>False):=by
 refine .of func291 rfl ay rfl rfl λI bW=>?_;have E:=D.cls;have M:=D.n;refine uV ?_;refine az (λaf=>?_) λaf=>?_
 ·refine bP 9 130 ?_;refine aI ?_;refine bg (.call .k (vj _ l.f.cls (by simp_all;omega) C)) ?_;refine aP ?_;refine .nU (rs:=[]) rfl (.nil) cL bC ?_;exact⟨gy,rfl,by rw[show fS k l={k with no:=k.no ||| 2^l.f.cls.toNat} by simp_all [fS]];rfl⟩
 ·refine ba ?_;refine az (λae=>?_) λae=>?_
  ·refine bP 9 130 ?_;refine aI ?_;refine bg (.call .k (vj _ l.f.cls (by simp_all;omega) hm)) ?_;refine aP ?_;refine .nU (rs:=[]) rfl (.nil) cL bC ?_;exact⟨gy,rfl,by rw[show fS k l={k with bA:=k.bA ||| 2^l.f.cls.toNat} by simp_all [fS]];rfl⟩
  ·refine dk ?_;refine az (λao=>?_) λao=>?_
   ·refine bP 10 130 ?_;refine ba ?_;refine bg zu ?_;refine aI ?_;refine .nU (rs:=[]) rfl (.nil) cL bC ?_;exact⟨gy,rfl,by rw[show fS k l={k with low:=if l.f.n>k.low then l.f.n else k.low} by simp_all [fS]];rfl⟩
   ·refine ba ?_;refine az (λaV=>?_) λaV=>?_
    ·refine .cw mixed ?_;refine .LZ (λJf=>match Jf with | 0=>(.au au 326 (oA k gy vs)::hB gy k.dz::Hx) | _=>(.au au 326 (oA {k with high:=(if l.f.n - 1<k.high then l.f.n - 1 else k.high)} gy vs)::hB gy k.dz::Hx)) [15] 0 16 130 rfl aq rfl rfl rfl aq rfl ?_;refine bj.cn 0 0 aq aq aq rfl rfl rfl (λj g c=>by rcases (show j=0 by omega) with rfl <;> exact oZ) ?_;refine bj.cn 0 1 aq aq aq rfl rfl rfl (λj g c=>by rcases (show j=0\/j=1 by omega) with rfl | rfl <;> exact oZ) ?_;refine bj.cn 0 0 aq aq aq rfl rfl rfl (λj g c=>by rcases (show j=0 by omega) with rfl <;> exact oZ) ?_;refine bj.cn 0 0 aq aq aq rfl rfl rfl (λj g c=>by rcases (show j=0 by omega) with rfl <;> exact fT) ?_;refine bj.cn 0 0 aq aq aq rfl rfl rfl (λj g c=>by rcases (show j=0 by omega) with rfl <;> exact b5) ?_;refine bj.cn 0 0 aq aq aq rfl rfl rfl (λj g c=>by rcases (show j=0 by omega) with rfl <;> exact b5) ?_;refine bj.cn 0 0 aq aq aq rfl rfl rfl (λj g c=>by rcases (show j=0 by omega) with rfl <;> exact cJ) ?_;refine bj.cn 0 0 aq aq aq rfl rfl rfl (λj g c=>by rcases (show j=0 by omega) with rfl <;> exact b5) ?_;refine bj.cn 0 0 aq aq aq rfl rfl rfl (λj g c=>by rcases (show j=0 by omega) with rfl <;> exact b5) ?_;refine bj.cn 0 0 aq aq aq rfl rfl rfl (λj g c=>by rcases (show j=0 by omega) with rfl <;> exact cJ) ?_;refine bj.cn 0 0 aq aq aq rfl rfl rfl (λj g c=>by rcases (show j=0 by omega) with rfl <;> exact (.arith rfl rfl rfl rfl rfl rfl (wrap64 aa))) ?_;refine bj.cn 0 0 aq aq aq rfl rfl rfl (λj g c=>by rcases (show j=0 by omega) with rfl <;> exact CE) ?_;refine bj.cn 0 0 aq aq aq rfl rfl rfl (λj g c=>by rcases (show j=0 by omega) with rfl <;> exact fT) ?_;refine bj.cn 0 0 aq aq aq rfl rfl rfl (λj g c=>by rcases (show j=0 by omega) with rfl <;> exact b5) ?_;refine bj.cn 0 0 aq aq aq rfl rfl rfl (λj g c=>by rcases (show j=0 by omega) with rfl <;> exact b5) ?_;refine bj.fZ 0 aq aq aq rfl rfl GH ?_;refine bj.nil ?_;refine ax ?_;refine .nU (rs:=[]) rfl (.nil) cL bC ?_;exact⟨gy,rfl,by rw[show fS k l={k with high:=if l.f.n - 1<k.high then l.f.n - 1 else k.high,whole:=true} by simp_all [fS]];rfl⟩
    ·refine aP ?_;refine az (λbu=>?_) λbu=>?_
     ·refine .cw mixed ?_;refine .VG (λv=>.au au 326 (oA k gy vs)::.row 3 1 v ((fj k.dz).length+1) ((fj k.dz).flatten++[.i l.f.n])::Hx) 126 10 0 11 130 rfl aq rfl rfl rfl aq ?_;refine bj.r4 aq rfl rfl rfl rfl (λ_=>.move rfl rfl rfl) ?_;refine bj.r3 aq aq rfl rfl rfl oZ ?_;refine bj.r3 aq aq rfl rfl rfl fT ?_;refine bj.r3 aq aq rfl rfl rfl b5 ?_;refine bj.r3 aq aq rfl rfl rfl b5 ?_;refine bj.r3 aq aq rfl rfl rfl cJ ?_;refine bj.r3 aq aq rfl rfl rfl b5 ?_;refine bj.r3 aq aq rfl rfl rfl b5 ?_;refine bj.r3 aq aq rfl rfl rfl cJ ?_;refine bj.r3 aq aq rfl rfl rfl h7 ?_;refine bj.F7 aq aq rfl rfl rfl (λB I w r a hw H K=>Cc (H':=λv=>.au au 326 (oA k gy vs)::.row 3 1 v ((fj k.dz).length+1) ((fj k.dz).flatten++[.i l.f.n])::Hx) (news:=[[.i l.f.n]]) rfl rfl rfl rfl rfl gu aS rfl (λv=>.tail _ _ _ _ _ CA) cB cB hw H K) ?_;refine bj.nil λaeH=>?_;refine aY ?_;refine .F6 (v:=aeH) uX λRx=>?_;apply aj.fZ rfl rfl rfl rfl rfl rfl rfl (Ce Rx) (Cf Rx) rfl
      (case hu=>repeat (first | exact .head _ _ _ | apply .tail));(case hfit=>rfl);(case hds=>rfl)
      refine aO ?_;refine .nU (rs:=[]) rfl (.nil) cL bC ?_;exact⟨_,rfl,by rw[show fS k l={k with dz:=k.dz++[l.f.n]} by simp_all [fS],Rv];rfl⟩
     ·refine .cw mixed ?_;refine .LZ (λJf=>match Jf with | 0=>(.au au 326 (oA k gy vs)::hB gy k.dz::Hx) | 1=>(.au au 326 (oA {k with low:=(if l.f.n>k.low then l.f.n else k.low)} gy vs)::hB gy k.dz::Hx) | _=>(.au au 326 (oA {k with low:=(if l.f.n>k.low then l.f.n else k.low),high:=(if l.f.n<k.high then l.f.n else k.high)} gy vs)::hB gy k.dz::Hx)) [24,28] 0 29 130 rfl aq rfl rfl rfl aq rfl ?_;refine bj.cn 0 0 aq aq aq rfl rfl rfl (λj g c=>by rcases (show j=0 by omega) with rfl <;> exact oZ) ?_;refine bj.cn 0 1 aq aq aq rfl rfl rfl (λj g c=>by rcases (show j=0\/j=1 by omega) with rfl | rfl <;> exact oZ) ?_;refine bj.cn 0 2 aq aq aq rfl rfl rfl (λj g c=>by rcases (show j=0\/j=1\/j=2 by omega) with rfl | rfl | rfl <;> exact oZ) ?_;refine bj.cn 0 0 aq aq aq rfl rfl rfl (λj g c=>by rcases (show j=0 by omega) with rfl <;> exact oZ) ?_;refine bj.cn 0 0 aq aq aq rfl rfl rfl (λj g c=>by rcases (show j=0 by omega) with rfl <;> exact fT) ?_;refine bj.cn 0 0 aq aq aq rfl rfl rfl (λj g c=>by rcases (show j=0 by omega) with rfl <;> exact b5) ?_;refine bj.cn 0 0 aq aq aq rfl rfl rfl (λj g c=>by rcases (show j=0 by omega) with rfl <;> exact b5) ?_;refine bj.cn 0 0 aq aq aq rfl rfl rfl (λj g c=>by rcases (show j=0 by omega) with rfl <;> exact cJ) ?_;refine bj.cn 0 0 aq aq aq rfl rfl rfl (λj g c=>by rcases (show j=0 by omega) with rfl <;> exact b5) ?_;refine bj.cn 0 0 aq aq aq rfl rfl rfl (λj g c=>by rcases (show j=0 by omega) with rfl <;> exact b5) ?_;refine bj.cn 0 0 aq aq aq rfl rfl rfl (λj g c=>by rcases (show j=0 by omega) with rfl <;> exact cJ) ?_;refine bj.cn 0 0 aq aq aq rfl rfl rfl (λj g c=>by rcases (show j=0 by omega) with rfl <;> exact zu) ?_;refine bj.cn 0 0 aq aq aq rfl rfl rfl (λj g c=>by rcases (show j=0 by omega) with rfl <;> exact oZ) ?_;refine bj.cn 0 0 aq aq aq rfl rfl rfl (λj g c=>by rcases (show j=0 by omega) with rfl <;> exact fT) ?_;refine bj.cn 0 0 aq aq aq rfl rfl rfl (λj g c=>by rcases (show j=0 by omega) with rfl <;> exact b5) ?_;refine bj.cn 0 0 aq aq aq rfl rfl rfl (λj g c=>by rcases (show j=0 by omega) with rfl <;> exact b5) ?_;refine bj.cn 0 0 aq aq aq rfl rfl rfl (λj g c=>by rcases (show j=0 by omega) with rfl <;> exact cJ) ?_;refine bj.cn 0 1 aq aq aq rfl rfl rfl (λj g c=>by rcases (show j=0\/j=1 by omega) with rfl | rfl <;> exact b5) ?_;refine bj.cn 0 1 aq aq aq rfl rfl rfl (λj g c=>by rcases (show j=0\/j=1 by omega) with rfl | rfl <;> exact b5) ?_;refine bj.cn 0 1 aq aq aq rfl rfl rfl (λj g c=>by rcases (show j=0\/j=1 by omega) with rfl | rfl <;> exact cJ) ?_;refine bj.cn 0 1 aq aq aq rfl rfl rfl (λj g c=>by rcases (show j=0\/j=1 by omega) with rfl | rfl <;> exact CE) ?_;refine bj.cn 0 0 aq aq aq rfl rfl rfl (λj g c=>by rcases (show j=0 by omega) with rfl <;> exact fT) ?_;refine bj.cn 0 0 aq aq aq rfl rfl rfl (λj g c=>by rcases (show j=0 by omega) with rfl <;> exact b5) ?_;refine bj.cn 0 0 aq aq aq rfl rfl rfl (λj g c=>by rcases (show j=0 by omega) with rfl <;> exact b5) ?_;refine bj.fZ 0 aq aq aq rfl rfl GH ?_;refine bj.cn 1 1 aq aq aq rfl rfl rfl (λj g c=>by rcases (show j=1 by omega) with rfl <;> exact fT) ?_;refine bj.cn 1 1 aq aq aq rfl rfl rfl (λj g c=>by rcases (show j=1 by omega) with rfl <;> exact b5) ?_;refine bj.cn 1 1 aq aq aq rfl rfl rfl (λj g c=>by rcases (show j=1 by omega) with rfl <;> exact b5) ?_;refine bj.fZ 1 aq aq aq rfl rfl GH ?_;refine bj.nil ?_;refine ax ?_;refine .nU (rs:=[]) rfl (.nil) cL bC ?_;exact⟨gy,rfl,by rw[show fS k l={k with low:=if l.f.n>k.low then l.f.n else k.low,high:=if l.f.n<k.high then l.f.n else k.high,whole:=true} by simp_all [fS]];rfl⟩
def akN:Ren:={f:=λx=>match x with | 189=>176 | 125=>202 | 257=>201 | 128=>227 | 129=>228 | 294=>218 | 295=>219 | 296=>220 | 297=>221 | 298=>222 | 299=>223 | 216=>224 | 300=>225 | 301=>226 | 328=>246 | 329=>247 | 330=>248 | 331=>249 | 332=>250 | 215=>251 | 343=>264 | n=>n,t:=λx=>match x with | 28=>23 | 3=>3 | 46=>210 | 0=>0 | 51=>239 | 53=>183 | 4=>4 | 183=>265 | 182=>264 | 131=>138 | 5=>5 | 9=>9 | 218=>281 | 222=>146 | 228=>293 | 229=>294 | n=>n,g:=λx=>x}
def hS(l:ak):ak:=l.mergeSort λx y=>decide (x<=y)
def ak8(l):(fj l).flatten=(l.map (.int .i64)).map .val:=by
 induction l with
 | nil=>rfl
 | cons x r a=>simp only[fj,List.map_cons,List.flatten_cons] at a ⊢;rw[a];rfl
def aeI(B)(v)(l)(V:l.length<=1000)(Hx):eK B prog 176 [.val v] (hB v l::Hx) (λy S=>y= .bk []/\S=hB v (hS l)::Hx) (λ_ _=>False):=by
 refine⟨ay,λI w T t J L=>?_⟩;obtain⟨u,rfl⟩:∃u,T= [u]:=by cases L with | cons _ u _ _ _ R=>cases R;exact⟨u,rfl⟩
 have Q:u=v:=by cases L with | cons _ u _ _ G _=>exact bX G
 subst Q;obtain⟨P,A,s,C⟩:=J.ok _ dv;have D:P=l.map (.int .i64):=by
  rw[ak8] at s;exact oT s
 subst D;rcases A.2 with⟨rfl,M⟩ | ⟨g,cap,cur,rfl,hBg,aw,n4,pK,hcs,lr⟩
 ·have:l= []:=by cases l with | nil=>rfl | cons x r=>simp[fj] at M
  subst this;refine (Any.slices_Sort_int_none Dc none 0 w).mono λe q ⟨K,n3⟩=>?_;subst n3;exact⟨I,_,t,.refl _ _ _,J,.inl ⟨_,_,K,.bk _ _ .nil,rfl,by simp[hS]⟩⟩
 ·have f:(fj l).length=l.length:=by simp[fj]
  rw[f] at n4 lr;rw[Nat.mul_one] at lr;have h:(hS l).length=l.length:=List.length_mergeSort _;refine ((f▸Any.slices_Sort_int Dc g 0 cap l w (holds_of_blockI aw lr) (Array.getElem?_eq_some_iff.1 aw).1 aa:Calls prog 176 #[.slice (some ⟨g,0,none⟩) (fj l).length cap] w _)).mono λe q ⟨K,n,os,n3⟩=>?_;have F:w.grownBy q (some g):=by subst n3;exact grownBy_sortedI _
  have N:q.ownsRow B 3 1 (.slice (some ⟨g,0,none⟩) l.length cap) l.length ((hS l).map (.int .i64)):=by
   subst n3;exact ownsRow_sortedI (ss:=l) h hBg aw n4 pK hcs
  have j:Go.RowKit.Below B w q:=(Go.RowKit.Below.refl B w).grown F t.base (λj U=>by cases U;exact hBg);have c:∀b i,I b i->q.cell? ⟨b,i,none⟩=w.cell? ⟨b,i,none⟩:=λb i z=>
   World.cell?_of_block (a:=⟨b,i,none⟩) (F.block b (t.lt z) (λe=>by cases e;exact C _ rfl i z))
  have m:er I w I q:=⟨λ_ _ x=>x,c⟩;refine⟨I,hB (.slice (some ⟨g,0,none⟩) (fj l).length cap) (hS l)::Hx,⟨Nat.le_trans t.base j.size,λb o z=>by rw[c b o z];exact t.there b o z⟩,⟨m.il,m.cell,j⟩,?_,.inl ⟨_,_,K,.bk _ _ .nil,rfl,rfl⟩⟩;refine J.fE (.head _ _ _) m (λb H E=>F.block b H (λe=>E (by cases e;rfl))) (λb o G=>.inl G) ⟨(hS l).map (.int .i64),?_,?_,C⟩ λb O=>.inl O
  ·rw[f,show (fj (hS l)).length=l.length by simp[fj,h]];exact N
  ·rw[ak8];exact lj _
def kP(K:List iZ):List (Value×ab):=K.map λe=>(e.key,.p e.au 0)
def qb(K:List iZ):aA:=K.flatMap iZ.ga
def lH(bp:Nat)(ko:List iZ)(e:iZ)(cQ:List iZ)(Hx:aA):aA:=e.ga++(.map bp (kP (ko++e::cQ))::(qb (ko++cQ)++Hx))
def mY(bp:Nat)(K:List iZ)(Hx:aA):aA:=.map bp (kP K)::(qb K++Hx)
def Ry(a)(c)(e)(cQ)(Hx):(mY a (c++e::cQ) Hx).Perm (lH a c e cQ Hx):=by
 unfold mY lH qb;simp[List.flatMap_append,List.flatMap_cons];generalize e.ga=E;generalize bn.map a _=m
 classical
 exact List.perm_iff_count.2 λa=>by simp[List.count_append,List.count_cons];omega
structure ja(K:List iZ)(al:Value->dn):Prop where
 has:∀e∈K,al e.key=e.al
 none:∀v,(∀e∈K,e.key≠v)->al v=kn
 nN:∀e∈K,ev prog 318 e.key
 nodup:K.Pairwise λa b=>a.key≠b.key
structure AtR(K:List iZ)(al:Value->dn)(key:Value)(ko:List iZ)(e:iZ)(cQ:List iZ):Prop where
 DY:e.key=key
 Rz:e.al=al key
 rep:ja (ko++e::cQ) al
def ja.found{a cQ}{e}{al}(h:ja (a++e::cQ) al):AtR (a++e::cQ) al e.key a e cQ:=⟨rfl,(h.has e aS).symm,h⟩
def ja.new{K}{al}{key}(h:ja K al)(o:ev prog 318 key)(hn:∀e∈K,e.key≠key)(e)(f:e.key=key)(j:e.al=kn):AtR K al key K e []:=by
 have l:al key=kn:=h.none key hn;refine⟨f,j.trans l.symm,⟨λx c=>?_,λv q=>h.none v λx c=>q x (by simp[c]),λx c=>?_,?_⟩⟩
 ·rcases List.mem_append.1 c with c | c
  ·exact h.has x c
  ·simp at c;subst c;rw[f,j,l]
 ·rcases List.mem_append.1 c with c | c
  ·exact h.nN x c
  ·simp at c;subst c;rw[f];exact o
 ·rw[List.pairwise_append];refine⟨h.nodup,aS,λa m b g=>?_⟩;simp at g;subst g;rw[f];exact hn a m
open Classical in
noncomputable def updK (al:Value->dn) (key:Value) (k:dn):Value->dn:=λv=>if v=key then k else al v
def ja.fE{r cQ}{e e'}{al}(h:ja (r++e::cQ) al)(g:e'.key=e.key):ja (r++e'::cQ) (updK al e.key e'.al):=by
 have j:=List.pairwise_append.1 h.nodup;have f:=List.pairwise_cons.1 j.2.1;refine⟨λx c=>?_,λv l=>?_,λx c=>?_,?_⟩
 ·unfold updK;rcases List.mem_append.1 c with c | c
  ·rw[if_neg (j.2.2 x c e dv)];exact h.has x (by simp[c])
  ·rcases List.mem_cons.1 c with rfl | c
   ·rw[if_pos g]
   ·rw[if_neg (λq=>f.1 x c q.symm)];exact h.has x (by simp[c])
 ·unfold updK;rw[if_neg (λq=>l e' aS (g.trans q.symm))];refine h.none v λx c=>?_;rcases List.mem_append.1 c with c | c
  ·exact l x (by simp[c])
  ·rcases List.mem_cons.1 c with rfl | c
   ·rw[<-g];exact l e' aS
   ·exact l x (by simp[c])
 ·rcases List.mem_append.1 c with c | c
  ·exact h.nN x (by simp[c])
  ·rcases List.mem_cons.1 c with rfl | c
   ·rw[g];exact h.nN e aS
   ·exact h.nN x (by simp[c])
 ·rw[List.pairwise_append];refine⟨j.1,List.pairwise_cons.2 ⟨λx c=>by rw[g];exact f.1 x c,f.2⟩,λa o b m=>?_⟩;rcases List.mem_cons.1 m with rfl | m
  ·rw[g];exact j.2.2 a o e dv
  ·exact j.2.2 a o b (.tail _ m)
def RA{K}{al}(h:ja K al):∀p∈kP K,ev prog 318 p.1:=λp a=>by
 obtain⟨e,c,rfl⟩:=List.mem_map.1 a;exact h.nN e c
def aeJ{K}{key}{u}(h:(key,u)∈kP K):∃a e cQ,K=a++e::cQ/\e.key=key/\u= .p e.au 0:=by
 obtain⟨e,c,f⟩:=List.mem_map.1 h;obtain⟨a,cQ,g⟩:=List.append_of_mem c;cases f;exact⟨a,e,cQ,g,rfl,rfl⟩
def aeK(a b c:bn)(R:aA):(a::b::c::R).Perm (c::a::b::R):=(List.perm_middle (l₁:=[a,b]) (a:=c) (l₂:=R))
def RB(B)(W)(h){K}{al}(g:ja K al)(arg)(path)(a:ev prog 318 (bJ arg path))(Hx):
  eK B prog 289 [iH W h,ab.spot arg path] (mY h K Hx) (λy s=>∃c e cQ,y= .p e.au 0/\AtR K al (bJ arg path) c e cQ/\s=lH h c e cQ Hx) (λ_ _=>False):=by
 refine .of func289 rfl ay rfl rfl λI v=>?_;refine aP ?_;refine bP 5 28 ?_;refine aP ?_;refine .VB (es:=kP K) (vs:=rl arg path) rfl rfl rfl rfl rfl rfl rfl rfl gu dv a (RA g) (λu q=>?_) λAF=>?_
 ·obtain⟨c,e,cQ,rfl,j,rfl⟩:=aeJ q;refine ax ?_;refine .dG 7 10 28 rfl aq rfl rfl aq ?_;refine eb ?_;refine bc (λaf=>?_) λaf=>?_
  ·exact absurd af aS
  ·replace af:=dC af;refine ba ?_;refine .perm (Ry h c e cQ Hx) ?_;refine .cg (rs:=[.tmp 4]) rfl eQ cL kq ?_;exact⟨c,e,cQ,rfl,(show bJ arg path=e.key from j.symm)▸g.found,rfl⟩
 ·refine ax ?_;refine .dG 7 10 28 rfl aq rfl rfl aq ?_;refine eb ?_;refine bc (λae=>?_) λae=>?_
  ·replace ae:=dC ae;refine aY ?_;refine .qD rfl rfl rfl rfl rfl rfl rfl λnb=>?_;refine aF ?_;refine bP 6 28 ?_;refine aI ?_;refine .VC (es:=kP K) (vs:=rl arg path) rfl rfl rfl rfl rfl rfl rfl gu rfl rfl MT a (RA g) AF ?_;refine ba ?_;refine .y5 3 1 ?_;refine .y5 3 1 ?_;refine .perm (aeK _ _ _ _) ?_;refine .cg (rs:=[.tmp 4]) rfl eQ cL kq ?_;exact⟨K,⟨bJ arg path,nb,kn,aL,aL⟩,[],rfl,g.new a (λe r o=>AF (e.key,.p e.au 0) (List.mem_map_of_mem r) o) _ rfl rfl,by simp[lH,kP,List.map_append,List.map_cons,List.map_nil,List.append_nil];rfl⟩
  ·exact absurd ae aS
def aB.kX{c}{r}{P}{st}{Q}{p}{H'}(a:st.H=H')(h:aB c r P p ⟨st.env,H'⟩ Q):aB c r P p st Q:=.perm (.of_eq a) h
def aeL(x)(a)(c)(e)(cQ)(Hx):(x::lH a c e cQ Hx).Perm (mY a (c++e::cQ) (x::Hx)):=by
 unfold mY lH qb;simp[List.flatMap_append,List.flatMap_cons];generalize e.ga=E;generalize bn.map a _=m
 classical
 exact List.perm_iff_count.2 λa=>by simp[List.count_append,List.count_cons];omega
def Jg(x)(a)(K)(Hx):(x::mY a K Hx).Perm (mY a K (x::Hx)):=by
 unfold mY;generalize bn.map a _=m
 classical
 exact List.perm_iff_count.2 λa=>by simp[List.count_append,List.count_cons];omega
def RC(x)(a)(c)(e)(cQ)(Hx):(lH a c e cQ (x::Hx)).Perm (x::lH a c e cQ Hx):=by
 unfold lH;generalize e.ga=E;generalize bn.map a _=m
 classical
 exact List.perm_iff_count.2 λa=>by simp[List.count_append,List.count_cons];omega
def DZ{a}{e e'}{cQ}(f:e'.key=e.key)(c:e'.au=e.au):lH bp a e' cQ Hx=e'.ga++(.map bp (kP (a++e::cQ))::(qb (a++cQ)++Hx)):=by
 unfold lH kP;simp[List.map_append,List.map_cons,f,c]
def ie(l:cZ)(k:dn):dn:={k with gi:=bif k.gi then true else !l.neg}
def nG(s:Int)(k:dn):dn:=if k.av.contains s then k else {k with av:=hS (k.av++[s])}
noncomputable def walkK (l:cZ):(Value->dn)->List Int->List Int->(Value->dn)
 | al,_,[]=>al
 | al,pre,s::r=>
  let kn1:=updK al (bJ l.f.arg pre) (nG s (al (bJ l.f.arg pre)))
  walkK l (updK kn1 (bJ l.f.arg (pre++[s])) (ie l (kn1 (bJ l.f.arg (pre++[s]))))) (pre++[s]) r
noncomputable def vI (al:Value->dn) (l:cZ):Value->dn:=updK al (bJ l.f.arg []) (ie l (al (bJ l.f.arg [])))
noncomputable def addK (al:Value->dn) (l:cZ):Value->dn:=
 updK (walkK l (vI al l) [] l.f.path) (bJ l.f.arg l.f.path) (fS (walkK l (vI al l) [] l.f.path (bJ l.f.arg l.f.path)) l)
structure nH(n:Nat)(k:dn):Prop where
 bA:k.bA<18446744073709551616
 no:k.no<18446744073709551616
 dz:k.dz.length<=n
 av:k.av.length<=n
def dN(n:Nat)(al:Value->dn):Prop:=∀v,nH n (al v)
def dN.fE{n}{al}(h:dN n al){k}(a:nH n k)(key):dN n (updK al key k):=λv=>by
 unfold updK;split
 ·exact a
 ·exact h v
def nH.mono{n m}(h:nH n k)(hm:n<=m):nH m k:=⟨h.bA,h.no,Nat.le_trans h.dz hm,Nat.le_trans h.av hm⟩
def dN.mono{n m}{al}(h:dN n al)(hm:n<=m):dN m al:=λv=>(h v).mono hm
def nH.vJ{n}(h:nH n k)(l):nH n (ie l k):=⟨h.bA,h.no,h.dz,h.av⟩
def nH.slot{n}(h:nH n k)(s):nH (n+1) (nG s k):=by
 unfold nG;split
 ·exact h.mono aa
 ·exact⟨h.bA,h.no,Nat.le_trans h.dz aa,by show (hS _).length<=_;unfold hS;rw[List.length_mergeSort];simp;exact h.av⟩
def nH.ask{n}(h:nH n k){l}(f:mX W l):nH (n+1) (fS k l):=by
 have a:=h.mono (Nat.le_succ n);unfold fS;split
 ·rename_i c;have:=f.cls c;split
  ·exact⟨a.bA,l9 a.no (q4 aa),a.dz,a.av⟩
  ·exact⟨l9 a.bA (q4 aa),a.no,a.dz,a.av⟩
 ·split
  ·split
   ·exact⟨a.bA,a.no,a.dz,a.av⟩
   ·exact⟨a.bA,a.no,a.dz,a.av⟩
  ·split
   ·exact⟨a.bA,a.no,by simp;exact h.dz,a.av⟩
   ·exact⟨a.bA,a.no,a.dz,a.av⟩
def Jh(k)(l):(fS k l).av=k.av:=by
 unfold fS;split <;> split <;> first | rfl | (split <;> rfl)
def ja.AG{f cQ}{e e'}{al}{key}(h:ja (f++e::cQ) al)(g:e'.key=e.key)(a:e.key=key){k}(c:e'.al=k):ja (f++e'::cQ) (updK al key k):=by
 subst a;subst c;exact h.fE g
def ja.al{c cQ}{e}{al}{key}(h:ja (c++e::cQ) al)(a:e.key=key):e.al=al key:=by subst a;exact (h.has e aS).symm
def aeM{l:cZ}(br:mX W l)(q7:W.owner.length<=40)(B bp:Nat){K:List iZ}{al:Value->dn}(eX:ja K al){n:Nat}(gS:dN n al)(hn:n<=900)(Hx:aA):
  eK B prog 284 [iH W bp,ab.lit l] (mY bp K Hx) (λy H'=>∃yX,y= .bk []/\ja yX (addK al l)/\dN (n+3) (addK al l)/\H'=mY bp yX Hx) (λ_ _=>False):=by
 refine eK.of (n:=79) func284 rfl ay rfl rfl (λI bW=>?_);have RD:∀j,lG l.f.arg (l.f.path.take j):=λj=>⟨br.arg.1,by have:=br.arg.2;omega,by have:=br.path;rw[List.length_take];omega,λs b6=>by have:=br.slot s (List.mem_of_mem_take b6);omega⟩;have q5:=br.path;refine bE ?_;refine aj.uP rfl rfl rfl rfl (λff=>?_);refine aP ?_;refine aj.perm (Jg _ _ _ _) ?_;refine cE .k (RB B W bp eX l.f.arg [] (sD (RD 0)) (.au ff 318 (nF l.f.arg [])::Hx)) ?_;rintro y H1 ⟨ko,e,cQ,rfl,dZ,rfl⟩;refine aj.perm (RC _ _ _ _ _ _) ?_;refine nk ?_;have aeN:ja (ko++{e with al:=ie l e.al}::cQ) (vI al l):=dZ.rep.AG (e':={e with al:=ie l e.al}) rfl dZ.DY (by rw[dZ.Rz]);have aeO:dN n (vI al l):=gS.fE ((gS _).vJ l) _;refine aB.kX (H':=.au ff 318 (nF l.f.arg [])::lH bp ko {e with al:=ie l e.al} cQ Hx) (congrArg (List.cons _) (DZ (e:=e) (e':={e with al:=ie l e.al}) rfl rfl).symm) ?_;refine ba ?_;refine bo (λm st=>∃(j:Nat) (ko:List iZ) (e:iZ) (cQ:List iZ) (tY:Value->dn),st=⟨[(31,.i j),(30,.i l.f.path.length),(29,ab.ints l.f.path),(5,.p e.au 0),(4,.p ff 0),(0,iH W bp),(3,.ptr (pS l))],.au ff 318 (nF l.f.arg (l.f.path.take j))::lH bp ko e cQ Hx⟩/\m=l.f.path.length - j/\j<=l.f.path.length/\ja (ko++e::cQ) tY/\e.key=bJ l.f.arg (l.f.path.take j)/\dN (n+j) tY/\walkK l tY (l.f.path.take j) (l.f.path.drop j)=walkK l (vI al l) [] l.f.path) (⟨0,ko,_,cQ,vI al l,rfl,rfl,Nat.zero_le _,aeN,dZ.DY,aeO,rfl⟩) ?_;rintro m _ ⟨j,ko,e,cQ,tY,rfl,rfl,cm,hR,xM,yd,Ji⟩;refine aB.eG (t:=29) rfl (λp3=>?_);refine ax ?_;refine az (λaf=>?_) λaf=>?_
 ·have dH:j<l.f.path.length:=by omega
  obtain⟨s,b6⟩:∃s,s=l.f.path.getD j default:=⟨_,rfl⟩;have nj:s∈l.f.path:=by rw[b6];exact hQ dH
  have qJ:=br.slot s nj;have lr:l.f.path.take (j+1)=l.f.path.take j++[s]:=by rw[List.take_succ_eq_append_getElem dH,b6,pX dH]
  have aeP:l.f.path.drop j=s::l.f.path.drop (j+1):=by rw[List.drop_eq_getElem_cons dH,b6,pX dH]
  have wi:=hR.al xM;refine bE ?_;refine aB.kV (λst=>∃bM:iZ,st=⟨[(7,.i s),(31,.i j),(30,.i l.f.path.length),(29,ab.ints l.f.path),(5,.p bM.au 0),(4,.p ff 0),(0,iH W bp),(3,.ptr (pS l))],.au ff 318 (nF l.f.arg (l.f.path.take j))::lH bp ko bM cQ Hx⟩/\ja (ko++bM::cQ) (updK tY (bJ l.f.arg (l.f.path.take j)) (nG s (tY (bJ l.f.arg (l.f.path.take j)))))) ?_ ?_
  ·refine aR ?_;have Hv:ab.i (l.f.path.getD j default)=ab.i s:=by rw[b6]
   rw[<-b6];refine ax ?_;refine ag (ad.qF .k (fp.row (pre:=[]) (post:=[.i s]) (t:=3) (.tail _ (.tail _ (.tail _ (.head _)))) (by simp[fj])) (Ho e.al.av s)) ?_;refine aF ?_;refine az (λae=>?_) λae=>?_
   ·refine aI ?_;refine ag (ad.row rfl rfl cC rfl rfl rfl rfl rfl rfl) ?_;refine aj.Cd (news:=[[ab.i s]]) rfl rfl rfl rfl rfl rfl rfl rfl (an.refl _) aS rfl (λv=>by repeat (first | exact bG.head _ _ _ | apply bG.tail)) EV EV (λv49=>?_);refine aO ?_;refine aj.F6 (v:=v49) (.tail _ (.tail _ (.tail _ (.head _)))) (λRE=>?_);apply aj.fZ rfl rfl rfl rfl rfl rfl rfl (Ce RE) (Cf RE) rfl
    (case hu=>repeat (first | exact bG.head _ _ _ | apply bG.tail));(case hfit=>rfl);(case hds=>rfl)
    refine aP ?_;refine aj.kX (H':=.au ff 318 (nF l.f.arg (l.f.path.take j))::.au e.au 326 (oA e.al e.gy v49)::hB e.gy e.al.dz::hB v49 (e.al.av++[s])::.map bp (kP (ko++e::cQ))::(qb (ko++cQ)++Hx)) (by rw[Rv];rfl) ?_;refine aj.perm (List.perm_middle (l₁:=[_,_,_])) ?_;refine cE .k (aeI B v49 (e.al.av++[s]) EV _) ?_;rintro y H1 ⟨rfl,rfl⟩;refine aj.perm (List.perm_middle (l₁:=[_,_,_])).symm ?_;refine aR ?_;refine aZ.perm (H':=.au ff 318 (nF l.f.arg (l.f.path.take j))::lH bp ko {e with al:={e.al with av:=hS (e.al.av++[s])},vs:=v49} cQ Hx) (.of_eq (congrArg (List.cons _) (DZ (e:=e) (e':={e with al:={e.al with av:=hS (e.al.av++[s])},vs:=v49}) rfl rfl).symm)) ?_;exact dh ⟨{e with al:={e.al with av:=hS (e.al.av++[s])},vs:=v49},rfl,hR.AG (e':={e with al:={e.al with av:=hS (e.al.av++[s])},vs:=v49}) rfl xM (by rw[<-wi,nG,if_neg m2])⟩
   ·refine aR ?_;exact dh ⟨e,rfl,hR.AG rfl xM (by rw[<-wi,nG,if_pos m2])⟩
  ·rintro _ ⟨bM,rfl,zO⟩;have RF:dN (n+j+1) (updK tY (bJ l.f.arg (l.f.path.take j)) (nG s (tY (bJ l.f.arg (l.f.path.take j))))):=(yd.mono (Nat.le_succ _)).fE ((yd _).slot s) _;refine aY ?_;refine ag (ad.call .k (Jb l.f.arg (l.f.path.take j) s yi)) ?_;refine aP ?_;refine aj.perm (aeL _ _ _ _ _ _) ?_;refine cE .k (RB B W bp zO l.f.arg (l.f.path.take j++[s]) (sD (lr▸RD (j+1))) (.au ff 318 (nF l.f.arg (l.f.path.take j++[s]))::Hx)) ?_;rintro y H1 ⟨RG,bL,RH,rfl,D0,rfl⟩;refine aj.perm (RC _ _ _ _ _ _) ?_;refine jj ?_;refine aB.kX (H':=.au ff 318 (nF l.f.arg (l.f.path.take j++[s]))::lH bp RG {bL with al:=ie l bL.al} RH Hx) (congrArg (List.cons _) (DZ (e:=bL) (e':={bL with al:=ie l bL.al}) rfl rfl).symm) ?_;have xi:=D0.rep.AG (e':={bL with al:=ie l bL.al}) rfl D0.DY (by rw[D0.Rz]);have RI:=D0.DY;have Jj:=Ji;rw[aeP,walkK] at Jj;rw[<-lr] at RI Jj xi ⊢;refine aY ?_;exact aW (⟨j+1,RG,{bL with al:=ie l bL.al},RH,_,rfl,rfl,aa,xi,RI,RF.fE ((RF _).vJ l) _,Jj⟩)
 ·obtain rfl:j=l.f.path.length:=by omega
  rw[List.drop_length,walkK] at Ji;rw[List.take_length] at xM ⊢;subst Ji;have wi:=hR.al xM;have RJ:=yd (bJ l.f.arg l.f.path);have D1:=RJ;rw[<-wi] at D1;refine aI ?_;refine aj.perm (List.perm_middle (l₁:=[_,_])).symm ?_;refine cE .k (aeG br B e.au e.al e.gy e.vs D1.bA D1.no (by have:=D1.dz;omega) _) ?_;rintro y H1 ⟨D2,rfl,rfl⟩;refine aR ?_;refine aZ.perm (H':=.au ff 318 (nF l.f.arg l.f.path)::lH bp ko {e with al:=fS e.al l,gy:=D2} cQ Hx) (by rw[DZ (e:=e) (e':={e with al:=fS e.al l,gy:=D2}) rfl rfl];simp only[iZ.ga,Jh];exact (List.perm_middle (l₁:=[_,_]))) ?_;refine aZ.perm ((Ry bp ko _ cQ Hx).symm.cons _) ?_;refine aZ.nU (rs:=[]) rfl (.nil) (c0.refl _) (by exact List.Sublist.cons _ (List.Sublist.refl _)) ?_;exact⟨ko++{e with al:=fS e.al l,gy:=D2}::cQ,rfl,hR.AG (e':={e with al:=fS e.al l,gy:=D2}) rfl xM (by rw[<-wi]),(yd.mono (show n+l.f.path.length<=n+3 by omega)).fE ((RJ.ask br).mono aa) _,rfl⟩
def a7.head{B}{I}{w}{H}{e e'}(a:a7 B I w (e::H))(h:e.ok B I w->e'.ok B I w)(l:e'.dY=e.dY):a7 B I w (e'::H):=by
 refine⟨λf g=>?_,List.pairwise_cons.2 ⟨λf c b j=>(List.pairwise_cons.1 a.apart).1 f c b (by rw[<-l];exact j),(List.pairwise_cons.1 a.apart).2⟩⟩;rcases List.mem_cons.1 g with rfl | g
 ·exact h (a.ok _ dv)
 ·exact a.ok f (.tail _ g)
def bQ.replace{I:cp}{x y:ab}(h:∀v,Rel I w x v->Rel I w y v):∀{xs ys:bl} {vs:dg},bQ I w (xs++x::ys) vs->bQ I w (xs++y::ys) vs:=λ{xs ys vs} bH=>by
 obtain⟨us,fY,rfl,ae,ao⟩:=bH.qG;cases ao with
 | cons _ v _ fY aK ht=>exact ae.append (.cons _ _ _ _ (h v aK) ht)
def RK{B:Nat}{w}{a:Nat}{Hx}:∀(K:List iZ) (D:List (Value×ab)) {I:cp},bV B I w->a7 B I w (.map a (D++kP K)::(qb K++Hx))->
  ∃J,bV B J w/\Ext B I w J w/\a7 B J w (.map a (D++K.map λe=>(e.key,ab.ptr (mV e.al)))::Hx)
 | [],D,I,c,f=>⟨I,c,Ext.refl _ _ _,by simpa [kP,qb] using f⟩
 | e::K,D,I,c,f=>by
  have N:(bn.map a (D++kP (e::K))::(qb (e::K)++Hx)).Perm (hB e.vs e.al.av::hB e.gy e.al.dz::.au e.au 326 (oA e.al e.gy e.vs)::.map a (D++kP (e::K))::(qb K++Hx)):=by
   unfold qb;simp only[List.flatMap_cons,iZ.ga]
   classical
   exact List.perm_iff_count.2 λa=>by simp only[List.count_append,List.count_cons,List.count_nil];omega
  obtain⟨Q,z,s,t,G⟩:=a7.tf c (f.perm N) (by simp[fj]);obtain⟨R,m,j,H,r⟩:=a7.tf z t (by simp[fj]);obtain⟨P,o,L,C,A⟩:=a7.VD (ds:=mV e.al) m H (λvs l=>by
   unfold oA at l;have F:=bQ.replace (xs:=[_,_]) (y:=ab.ints e.al.dz) (λv h=>by rw[bX h];exact r) l;have q:=bQ.replace (xs:=[_,_,_,_,_,_,_]) (y:=ab.ints e.al.av) (λv h=>by rw[bX h];exact G.bs j.keeps) F;exact q)
  have g:=a7.head C (e':=.map a (D++(e.key,ab.ptr (mV e.al))::kP K)) (λ⟨x,⟨cq,dr,fO,fi,jH⟩,kZ⟩=>⟨x,⟨cq,dr,fO,by rw[fi];simp[kP],by
   simp only[kP,List.map_append,List.map_cons] at jH ⊢;exact bQ.replace (λv h=>by rw[bX h];exact A) jH⟩,kZ⟩) rfl
  rw[show D++(e.key,ab.ptr (mV e.al))::kP K=(D++[(e.key,ab.ptr (mV e.al))])++kP K by simp] at g;obtain⟨J,E,O,v⟩:=RK K _ o g;exact⟨J,E,s.trans (j.trans (L.trans O)),by simpa using v⟩
def Sat.Jk{c}{K}{al}(l:ja K al)(s:Sat c ⟨env,mY bp K Hx⟩ a w):Sat c ⟨env,mf bp al::Hx⟩ a w:=by
 obtain⟨I,t,h,r,g⟩:=s.mem;obtain⟨J,q,m,o⟩:=RK K [] t (by simpa [mY] using r);refine⟨s.ds,s.size,J,q,h.trans m,o.lazy (λp x=>?_) (λv _ g=>?_),g.bs m.keeps⟩
 ·obtain⟨e,f,rfl⟩:=List.mem_map.1 x;exact⟨l.nN e f,by rw[l.has e f]⟩
 ·rw[l.none v (λe h j=>g (e.key,ab.ptr (mV e.al)) (by simpa using⟨e,h,rfl,rfl⟩) j)]
def aB.Jk{c}{r}{P}{p}{Q}{env}{f}{K}{al}{Hx}(g:ja K al)(h:aB c r P p ⟨env,mf f al::Hx⟩ Q):aB c r P p ⟨env,mY f K Hx⟩ Q:=λa w s=>h a w (Sat.Jk g s)
noncomputable def stageK (ls:List cZ):Value->dn:=ls.foldl addK (λ_=>kn)
def aeQ{j}(h:j<ls.length):addK (stageK (ls.take j)) (ls.getD j default)=stageK (ls.take (j+1)):=by
 rw[List.take_succ_eq_append_getElem h,stageK,stageK,List.foldl_append,pX h];rfl
def aeR(s:∀l∈ls,mX W l)(q:W.owner.length<=40)(hn:ls.length<=300)(B)(Hx):
  eK B prog 278 [iP W,ab.lits ls] Hx (λy H'=>∃bp,y=iH W bp/\dN 900 (stageK ls)/\H'=mf bp (stageK ls)::Hx) (λ_ _=>False):=by
 refine .of func278 rfl ay rfl rfl λI x=>?_;refine aI ?_;refine .mkMap rfl rfl rfl rfl λbp=>?_;refine aP ?_;refine .kX (H':=mY bp [] Hx) rfl ?_;refine aP ?_;refine bo (λm r=>∃(j:Nat) (K:List iZ),r=⟨[(14,.i j),(13,.i ls.length),(12,ab.lits ls),(5,iH W bp)],mY bp K Hx⟩/\m=ls.length - j/\j<=ls.length/\ja K (stageK (ls.take j))/\dN (3*j) (stageK (ls.take j))) (⟨0,[],rfl,rfl,Nat.zero_le _,⟨aS,λ_ _=>rfl,aS,.nil⟩,λ_=>⟨by simp[stageK,kn],by simp[stageK,kn],by simp[stageK,kn],by simp[stageK,kn]⟩⟩) ?_;rintro m _ ⟨j,K,rfl,rfl,w,h,o⟩;refine .eG (t:=12) rfl λp3=>?_;refine ax ?_;refine az (λaf=>?_) λaf=>?_
 ·have g:j<ls.length:=by omega
  refine aI ?_;refine bK (λdM=>?_);refine ax ?_;refine .perm (Jg _ _ _ _) ?_;refine cE .k (aeM (s _ (hQ g)) q B bp h o aa _) ?_;rintro y v ⟨cQ,rfl,f,c,rfl⟩;refine .perm (Jg _ _ _ _).symm ?_;rw[aeQ g] at f c;refine aP ?_;exact aW ⟨j+1,cQ,rfl,rfl,aa,f,c.mono aa⟩
 ·obtain rfl:j=ls.length:=by omega
  rw[List.take_length] at h o;refine ax ?_;refine aB.Jk h ?_;refine ax ?_;refine .cg (rs:=[.tmp 4]) rfl eQ cL kq ?_;exact⟨bp,rfl,o.mono aa,rfl⟩
structure jb(W:bt)(al:Value->dn):Prop where
 slot:∀v,∀s∈(al v).av,0<=s/\s<W.owner.length
 deep:∀arg path,path.length=2->(al (bJ arg path)).av= []
 low:∀v,-1000000000<=(al v).low/\(al v).low<=1000000000
def jb.fE{al}(h:jb W al){key}{k:dn}(g:∀s∈k.av,0<=s/\s<W.owner.length)(f:∀arg path,path.length=2->bJ arg path=key->k.av= [])(c: -1000000000<=k.low/\k.low<=1000000000):jb W (updK al key k):=by
 refine⟨λv=>?_,λarg path a=>?_,λv=>?_⟩ <;> unfold updK <;> split
 ·exact g
 ·exact h.slot v
 ·rename_i e;exact f arg path a e
 ·exact h.deep arg path a
 ·exact c
 ·exact h.low v
def aeS{a b}{p q}(h:bJ a p=bJ b q):p.length=q.length:=by
 have g:=congrArg (λv:Value=>match v with | .agg a=>(match a.toList[1]? with | some (Value.int _ n)=>n | _=>(0:Int)) | _=>(0:Int)) h;simp[rl] at g;have l:(p.length:Int)=q.length:=g;omega
def jb.vJ{al}(h:jb W al)(l)(key):jb W (updK al key (ie l (al key))):=
 h.fE (h.slot key) (λarg path a e=>by subst e;exact h.deep arg path a) (h.low key)
def jb.aeT{al}(h:jb W al){s:Int}(g:0<=s/\s<W.owner.length)(arg)(pre)(j:pre.length<2):jb W (updK al (bJ arg pre) (nG s (al (bJ arg pre)))):=by
 refine h.fE ?_ (λakO c f e=>absurd (aeS e) aa) ?_
 ·intro x a;unfold nG at a;split at a
  ·exact h.slot _ x a
  ·rcases List.mem_append.1 (List.mem_mergeSort.1 a) with a | a
   ·exact h.slot _ x a
   ·simp at a;subst a;exact g
 ·unfold nG;split
  ·exact h.low _
  ·exact h.low (bJ arg pre)
theorem jb.walk{W}{l}:∀(r:ak) {al:Value->dn} (a:ak),jb W al->(∀s∈r,0<=s/\s<W.owner.length)->a.length+r.length<=2->jb W (walkK l al a r)
 | [],al,a,h,_,_=>h
 | s::r,al,a,h,c,f=>by
  rw[walkK];simp[List.length_cons] at f;exact jb.walk r (a++[s]) ((h.aeT (c s dv) _ a aa).vJ l _) (λx g=>c x (.tail _ g)) cB
def jb.add{al}(h:jb W al){l}(c:mX W l):jb W (addK al l):=by
 have a:=jb.walk (l:=l) l.f.path [] (h.vJ l (bJ l.f.arg [])) c.slot (by have:=c.path;simp;omega);unfold addK;have q:=c.n;refine a.fE (λs m=>?_) (λarg path o e=>?_) ?_
 ·rw[Jh] at m;exact a.slot _ s m
 ·rw[Jh];rw[<-e];exact a.deep arg path o
 ·have:=a.low (bJ l.f.arg l.f.path);have j:∀k:dn,-1000000000<=k.low/\k.low<=1000000000->-1000000000<=(fS k l).low/\(fS k l).low<=1000000000:=by
   intro k g;unfold fS;split
   ·split <;> exact g
   ·split
    ·split
     ·simp[];split <;> omega
     ·exact g
    ·split
     ·exact g
     ·simp[];split <;> omega
  exact j _ this
def jb.RL(c:∀l∈ls,mX W l):jb W (stageK ls):=by
 unfold stageK;have:∀(ls:List cZ) (al:Value->dn),jb W al->(∀l∈ls,mX W l)->jb W (ls.foldl addK al):=by
  intro ls
  induction ls with
  | nil=>intro al h _;exact h
  | cons l ls g=>intro al h c;exact g _ (h.add (c l dv)) (λx f=>c x (.tail _ f))
 exact this ls _ ⟨λv s j=>by simp[kn] at j,λ_ _ _=>rfl,λv=>by show -1000000000<=(-1000000000:Int)/\(-1000000000:Int)<=_;omega⟩ c
def aeU(c:∀l∈ls,mX W l)(a:dN 900 (stageK ls)):qa W (stageK ls):=
 let h:=jb.RL c
 ⟨λ_ _ _=>h.slot _,λarg path _ f=>h.deep arg path f,λv=>(a v).bA,λv=>(a v).no,λv=>by have:=h.low v;omega,λv=>by have:=(a v).dz;omega⟩
def vK:Value:=.iface 305 (.agg #[])
def aeV(w):(Instr.typeAssert vK 20 305 true).run prog w= .ok (.tuple #[.agg #[],.bool true]) w:=by
 simp[Instr.typeAssert,vK,run_underlying (show prog.underlying 305=some (.struct #[]) by kernel_rfl)]
def aeW(w):(Instr.typeAssert .nilIface 20 305 true).run prog w= .ok (.tuple #[.agg #[],.bool false]) w:=by
 have h:=zeroValue305 w;simp[Instr.typeAssert,run_underlying (show prog.underlying 305=some (.struct #[]) by kernel_rfl),h]
def aeX(b)(x)(w)(j:w.cell? ⟨b,0,none⟩=some (.bool x))(h:w.frozen? ⟨b,0,none⟩=false)(g:b<w.heap.size):
  CallsDIn (Eng.bt none) 0 prog 277 #[.pointer (some ⟨b,0,none⟩)] (.panicking [{v:=vK,recovered:=false}]) w λe m l=>
   e= .returned (.tuple #[])/\m= .panicking [{v:=vK,recovered:=true}]/\l=(w.alloc (.cells #[] 305)).setCell ⟨b,0,none⟩ (.bool false):=by
 have f:(w.alloc (.cells #[] 305)).cell? ⟨b,0,none⟩=some (.bool x):=by rw[World.cell?_alloc_lt w _ ⟨b,0,none⟩ g];exact j
 have c:(w.alloc (.cells #[] 305)).frozen? ⟨b,0,none⟩=false:=by rw[World.frozen?_of_block (Go.RowKit.Below.heap_alloc w _ b g)];exact h
 refine callsDIn_of_wpSIn func277 rfl trivial λAb q o=>?_;apply wpSIn_seq;apply wpSIn_region;have a:=λw=>aeV w;simp[wpOpsSIn,go_sem,recoverD,o,Tryz.ntmps277,Exit.thenS,Eng.bt,a];apply wpSIn_seq;apply wpSIn_region;simp[wpOpsSIn,go_sem,Exit.thenS];refine wpSIn_cond (t:=true) yg ?_;simp[if_true];apply wpSIn_region;simp[wpOpsSIn,go_sem,f,c,bodyPostS,results,Tryz.results277]
def aeY(b)(w):
  CallsDIn (Eng.bt none) 0 prog 277 #[.pointer (some ⟨b,0,none⟩)] .returning w λe f g=>e= .returned (.tuple #[])/\f= .returning/\g=w.alloc (.cells #[] 305):=by
 refine callsDIn_of_wpSIn func277 rfl trivial λAb j h=>?_;apply wpSIn_seq;apply wpSIn_region;have a:=λw=>aeW w;simp[wpOpsSIn,go_sem,recoverD,h,Tryz.ntmps277,Exit.thenS,Eng.bt,a];apply wpSIn_seq;apply wpSIn_region;simp[wpOpsSIn,go_sem,Exit.thenS];refine wpSIn_cond (t:=false) yg ?_;simp[Bool.false_eq_true,if_false];refine wpSIn_of_wpIn rfl (wpIn_skip ?_);cases Ab;simp_all [bodyPostS,results,Tryz.results277]
def RM{arg}(h:0<=arg/\arg<3):lG arg []:=⟨h.1,aa,aS,aS⟩
def rn(W:bt)(al:Value->dn)(n:Nat):Bool:=(List.range n).all λi=>rm W al 2 i []
def RN(W)(al)(n):rn W al (n+1)=(rn W al n && rm W al 2 n []):=by
 simp[rn,List.range_succ]
def aeZ:ab.is (.iface 305 (.agg [])) (.iface 305 (.agg #[])):=by
 intro I w u h;cases h with
 | iface _ _ v f=>
  cases f with
  | agg _ c a=>
   have:c.toList= []:=List.eq_nil_of_length_eq_zero a.length;rw[Array.toList_eq_nil_iff.1 this]
def ae0{al}(K:qa W al)(l:cx W)(a:rn W al 3):hP prog [mf bp al] 279 [iH W bp] (.bk []):=by
 intro H o;refine aM func279 λB I r=>?_;refine ax ?_;refine bo (λm g=>∃i:Nat,g=⟨[(3,.i i),(0,iH W bp)],H⟩/\m=3 - i/\i<=3/\rn W al i=true) iA ?_;rintro m _ ⟨i,rfl,rfl,q,c⟩;refine ax ?_;refine az (λaf=>?_) λaf=>?_
 ·refine eb ?_;refine ag (.hX .k cL (Je K l 2 [] (RM (arg:=i) aa) rfl) (λe j=>by repeat (first | exact o e j | apply List.mem_cons_of_mem))) ?_;refine aF ?_;refine bc (λae=>?_) λae=>?_
  ·exfalso;simp[rn,List.all_eq_true,List.mem_range] at a;have:=a i aa;rw[this] at ae;cases ae
  ·have h:rm W al 2 i []=true:=by simpa using ae
   refine aP ?_;exact aW (⟨i+1,rfl,rfl,aa,by rw[RN,c,h];rfl⟩)
 ·refine aY ?_;refine gM [] (H) ?_;exact⟨rfl,rfl⟩
def ae1{al}(K:qa W al)(q:cx W)(f:rn W al 3=false)(B)(H)(hm:∀e∈ [mf bp al],e∈H):y7 B prog 279 [iH W bp] H vK:=by
 refine y7.of func279 rfl ay rfl rfl λI t=>?_;refine ax ?_;refine bo (λm j=>∃i:Nat,j=⟨[(3,.i i),(0,iH W bp)],H⟩/\m=3 - i/\i<=3/\rn W al i=true) iA ?_;rintro m _ ⟨i,rfl,rfl,r,c⟩;refine ax ?_;refine bc (λaf=>?_) λaf=>?_
 ·replace af:=dC af;refine eb ?_;refine ag (.hX .k cL (Je K q 2 [] (RM (arg:=i) aa) rfl) (λe o=>by repeat (first | exact hm e o | apply List.mem_cons_of_mem))) ?_;refine aF ?_;refine bc (λae=>?_) λae=>?_
  ·replace ae:=dC ae;refine aO ?_;refine ag uY ?_;refine .L3 rfl rfl rfl rfl aeZ ?_;intro a w s;exact VI (P:=prog) (fn:=Tryz.f279) s
  ·have l:rm W al 2 i []=true:=by simpa using ae
   refine aP ?_;exact aW ⟨i+1,rfl,rfl,aa,by rw[RN,c,l];rfl⟩
 ·exfalso;simp[decide_eq_false_iff_not] at af;obtain rfl:i=3:=by omega
  rw[f] at c;cases c
noncomputable def togetherK (W:bt) (ls:List cZ):Bool:=rn W (stageK ls) 3
def RO(tb:Nat):Deferred:={target:=.fn (.func 277) #[.pointer (some ⟨tb,0,none⟩)],args:=#[]}
def RP(q:∃I,bV B I w/\Ext B c5 bW I w/\a7 B I w (.au tb 4 [.b x]::H)/\fM I w (aD env) a)(ht:aD env 4=some (.p tb 0)):
  LeavesIn (Eng.bt none) 0 prog Tryz.f271 a.tmps (e4 B c5 bW (λy h=>y= .b x/\h=H) E) [] .returning w:=by
 obtain⟨I,m,g,f,l⟩:=q;obtain⟨v,o,j⟩:=iq.res (P:=prog) (c:=⟨B,c5,bW,0,[]⟩) (st:=⟨env,.au tb 4 [.b x]::H⟩) f l (fn:=Tryz.f271) (rs:=[.cell 4 4]) rfl (.A8 inferInstance ht dv rfl .nil);exact⟨v,o,I,H,m,g,f.tail,.inl ⟨v,_,rfl,j,rfl,rfl⟩⟩
def RQ(tb)(w):(invoke (.fn (.func 277) #[.pointer (some ⟨tb,0,none⟩)]) #[]).run prog w= .ok (.enter 277 #[.pointer (some ⟨tb,0,none⟩)]) w:=by
 have:m4 prog 277=true:=by kernel_rfl
 have h:=wB this #[.pointer (some ⟨tb,0,none⟩)] w;simp[invoke]
def ae2{n}(s:Sat ⟨B,c5,bW,n,[RO tb]⟩ ⟨env,.au tb 4 [.b x]::H⟩ a w)(ht:aD env 4=some (.p tb 0)):
  bodyPostDIn (Eng.bt none) 0 prog Tryz.f271 (e4 B c5 bW (λy j=>y= .b x/\j=H) E) .ret a w:=by
 show LeavesIn _ _ _ _ _ _ a.defers .returning w;rw[s.ds];refine leavesIn_cons (f:=277) (args:=#[.pointer (some ⟨tb,0,none⟩)]) aS (by simp[Eng.bt]) (RQ tb w) (λ_ _=>trivial) ?_;refine (aeY tb w).mono ?_;rintro e m o ⟨rfl,rfl,rfl⟩;obtain⟨I,c,h,g,l⟩:=s.mem;exact RP ⟨I,c.alloc _,h.trans (jB c _),g.alloc c _,l.bs (lP c _)⟩ ht
def ae3{n:Nat}(s:Sat ⟨B,c5,bW,n,[RO tb]⟩ ⟨env,.au tb 4 [.b x]::H⟩ a w)(ht:aD env 4=some (.p tb 0)):
  bodyPostDIn (Eng.bt none) 0 prog Tryz.f271 (e4 B c5 bW (λy R=>y= .b false/\R=H) E) (.panic [{v:=vK,recovered:=false}]) a w:=by
 show LeavesIn _ _ _ _ _ _ a.defers (.panicking [{v:=vK,recovered:=false}]) w;rw[s.ds];obtain⟨I,t,Q,L,O⟩:=s.mem;obtain⟨M,vs,r,N,o⟩:=L.ok _ (.head _);have J:vs= #[.bool x]:=by
  have P:=oT (vs:=[.bool x]) N;exact Array.toList_inj.1 P
 subst J;have m:tb<w.heap.size:=(Array.getElem?_eq_some_iff.1 r).1;refine leavesIn_cons (f:=277) (args:=#[.pointer (some ⟨tb,0,none⟩)]) aS (by simp[Eng.bt]) (RQ tb w) (λ_ _=>trivial) ?_;refine (aeX tb x w (by rw[jC r];rfl) (by simp[World.frozen?,r]) m).mono ?_;rintro e S T ⟨rfl,rfl,rfl⟩;have l:=t.alloc (.cells #[] 305);have A:=L.alloc t (.cells #[] 305);have C:(w.alloc (.cells #[] 305)).heap[tb]? =some (.cells #[.bool x] 4 (0,0)):=by rw[Go.RowKit.Below.heap_alloc w _ tb m];exact r
 have G:=lP t (.cells #[] 305);have K:=Q.trans (jB t (.cells #[] 305));have F:=O.bs G;generalize w.alloc (.cells #[] 305)=gd at*;have j:(gd.setCell ⟨tb,0,none⟩ (.bool false)).heap[tb]? =some (.cells #[.bool false] 4 (0,0)):=one_setCell C;have c:∀b i,I b i->(gd.setCell ⟨tb,0,none⟩ (.bool false)).cell? ⟨b,i,none⟩=gd.cell? ⟨b,i,none⟩:=λb i z=>
  World.cell?_of_block (a:=⟨b,i,none⟩) (Go.RowKit.Below.heap_setCell _ _ _ _ (λe=>o i (by rw[<-(show b=tb from e)];exact z)))
 have q:er I gd I (gd.setCell ⟨tb,0,none⟩ (.bool false)):=⟨λ_ _ h=>h,c⟩;have g:=(Go.RowKit.Below.refl B gd).setCell (p:=⟨tb,0,none⟩) M (.bool false);exact RP (x:=false) (env:=env) ⟨I,⟨Nat.le_trans l.base g.size,λb i z=>by rw[c b i z];exact l.there b i z⟩,K.trans ⟨λ_ _ h=>h,c,g⟩,
  A.fE (.head _ _ _) q (λb _ D=>Go.RowKit.Below.heap_setCell _ _ _ _ (λe=>D (by rw[show b=tb from e];rfl))) (λ_ _ h=>.inl h) ⟨M,#[.bool false],j,.cons _ _ _ _ (.val _) .nil,o⟩ (λ_ h=>.inl h),F.bs q⟩ ht
def ae4(c:cx W){ls}(g:∀l∈ls,mX W l)(hn:ls.length<=300):aG prog 271 [iP W,ab.lits ls] (.b (togetherK W ls)):=by
 intro H;refine .L1 func271 rfl ay rfl rfl λB I q=>?_;refine aO ?_;refine bK (λtb=>?_);refine aT ?_;refine .L4 (vs:=[.pointer (some ⟨tb,0,none⟩)]) rfl rfl rfl rfl rfl rfl ?_;refine ax ?_;refine cE .k (aeR g (vm c) hn _ _) ?_;rintro y m ⟨r,rfl,o,rfl⟩;have f:=aeU g o;cases j1:togetherK W ls
 ·refine .VJ rfl .k (ae1 f c j1 _ _ aS) ?_;intro a w s;exact ae3 (s.weaken (st':=⟨_,.au tb 4 [.b false]::H⟩) (λ_ _ h=>h) (List.sublist_cons_self _ _)) cO
 ·refine cE .k (ae0 f c j1 _ aS).b ?_;rintro y m ⟨rfl,rfl⟩;refine aI ?_;intro a w s;exact ae2 (s.weaken (st':=⟨_,.au tb 4 [.b true]::H⟩) (λ_ _ h=>h) (List.sublist_cons_self _ _)) cO
def RR(W:bt)(c:List cZ):Prop:=(∀l∈c,mX W l)/\c.length<=300
structure Jl(W:bt)(f:Fact):Prop where
 ok:okB f=true
 nodes:cU f<=1000
 case:∀b,∀c∈eh f b,RR W c
noncomputable def canF (W:bt) (f:Fact):Bool:=(eh f false).any (togetherK W)
def ae5{f}(h:∀y∈eh f false,togetherK W y=false):canF W f=false:=by
 rw[canF,List.any_eq_false];intro x a;rw[h x a];simp
def ae6{f}{pre}(a:pre<+:eh f false){y}(hy:y∈pre)(h:togetherK W y):canF W f=true:=by
 rw[canF,List.any_eq_true];exact⟨y,a.subset hy,h⟩
def ae7(J:cx W){f}(z:Jl W f):aG prog 266 [iP W,ab.fact f] (.b (canF W f)):=by
 intro H;refine .qC func266 rfl ay rfl rfl λB I M=>?_;refine aP ?_;refine .scope ?_;refine aO ?_;refine bK (λmh=>?_);refine aY ?_;refine .label ?_;refine aT ?_;refine ag (.call .k ((aeg _ _))) ?_;refine aF ?_;refine .weaken (st':=⟨[(2,.ptr [iP W]),(5,.p mh 0),(8,.fn (.func 272) [] [.ptr (fy f),.ptr [.b false]]),(3,.ptr (fy f))],[.au mh 4 [.b false]]++H⟩) hW bC ?_;refine .rangeFunc (ab.lits) (eh f false) (λpre j=>j= [.au mh 4 [.b false]]/\∀y∈pre,togetherK W y=false) (λcode pre j=>code= .exit 0/\j= [.au mh 4 [.b true]]/\∃y∈pre,togetherK W y=true) ([.au mh 4 [.b false]]) H (λx=>[(6,ab.lits x),(9,ab.lits x),(2,.ptr [iP W]),(5,.p mh 0),(8,.fn (.func 272) [] [.ptr (fy f),.ptr [.b false]]),(3,.ptr (fy f))]) rfl rfl rfl rfl (aei f z.ok z.nodes false) ⟨rfl,aS⟩ ?_ ?_ ?_ ?_
 ·intro G K F x E;refine aF ?_;exact λa w s=>⟨_,rfl,s⟩
 ·intro G C L pre x j E K F a t;obtain⟨rfl,h⟩:=t;obtain⟨o,B⟩:=z.case false x (a.subset aS);refine aT ?_;refine ag (.call .k (ae4 J o B)) ?_;refine aO ?_;refine bc (λaf=>?_) λaf=>?_
  ·have af:=af;refine aP ?_;exact .U3 bC ⟨rfl,rfl,x,aS,af⟩
  ·have af:=af;refine aO ?_;exact .mx bC ⟨rfl,λy g=>by rcases List.mem_append.1 g with g | g;exact h y g;simp at g;subst g;exact af⟩
 ·intro C j t;obtain⟨rfl,h⟩:=t;have r:=ae5 h;refine ba ?_;refine .wT ?_;refine .B1 (rs:=[.tmp 4]) (H':=H) rfl pq eQ cL bC ?_;exact⟨bq (by rw[r]),rfl⟩
 ·intro C q pre j a A;obtain⟨rfl,rfl,y,g,v⟩:=A;have r:=ae6 a g v
  ·refine bY ?_;refine .wT ?_;refine .B1 (rs:=[.tmp 4]) (H':=H) rfl pq eQ cL bC ?_;exact⟨bq (by rw[r]),rfl⟩
end Go.Proofs.YtodccgailpkgeaaGreat

