/- A part of the proof. No condition. -/
import Derived.Test.YtodccgailpkgeaaGreatKindInfersP20
set_option linter.defProp false
set_option maxHeartbeats 1000000
set_option linter.unusedVariables false
set_option linter.unusedSimpArgs false
set_option maxRecDepth 10000
namespace Go.Proofs.YtodccgailpkgeaaGreat
open Go.Proofs.Tryz
open Go.Eng
open Go.Eng.Fc
variable{l:cZ}{i c:Nat}{s x a:Int}{W:bt}{L:List Fact}{can:ak->Bool}{path p q:ak}{ls:List cZ}{k:dn}
abbrev lJ:=cW×cW
def vQ(s:lJ)(x:Fact):Option lJ:=
 if((ca x).1.op !=2 || (ca x).1.cls==1 || (ca x).1.cls==2)=true then (if(ca x).2=true then some s else none)
 else if(ca x).2=true then some (s.1,s.2.set (ca x).1.cls.toNat true) else some (s.1.set (ca x).1.cls.toNat true,s.2)
def oD:List Fact->lJ->Option lJ
 | [],s=>some s
 | x::r,s=>match vQ s x with
  | none=>none
  | some t=>oD r t
def D8(W:bt)(s:Int):Nat:=(W.owner.getD s.toNat default).toNat
def D9(W:bt)(bare can:Bool)(s:Int)(t:lJ):lJ:=(if bare=true then t.1 else t.1.set (D8 W s) true,if can=true then t.2 else t.2.set (D8 W s) true)
def qf(W:bt)(L:List Fact)(can:ak->Bool)(arg:Int)(path:ak):ak->lJ->Option lJ
 | [],t=>some t
 | s::r,t=>if(!oB L arg (path++[s]) && !can (path++[s]))=true then none else qf W L can arg path r (D9 W (oB L arg (path++[s])) (can (path++[s])) s t)
def qg(o:cW)(l:ak):cW:=l.foldl (λo p=>o.set p.toNat true) o
def mm(W:bt):Nat->cW->cW
 | 0,o=>o
 | k+1,o=>mm W k (if o.getD (3+k) false=true then qg o (W.parents.getD k default) else o)
def sF(m no:cW)(n:Nat):Bool:=(List.range n).any λc=>m.getD c false && no.getD c false
def AL(W:bt)(t:lJ):Option cW:=
 if t.2.getD 0 false=true then none
 else if sF (mm W W.parents.length (t.1.set 0 false)) t.2 (3+W.parents.length)=true then none
 else some (mm W W.parents.length (t.1.set 0 false))
def nI(W:bt):cW:=List.replicate (3+W.parents.length) false
def lf(W:bt)(L:List Fact)(can:ak->Bool)(arg:Int)(path:ak):Option cW:=
 match oD (ei L arg path) (nI W,nI W) with
 | none=>none
 | some t=>match qf W L can arg path (ef W L arg path) t with
  | none=>none
  | some t=>AL W t
abbrev afE(o:Option cW):ab:=ab.du (o.getD [])
def Ea{l:List Fact}{s:lJ}(h:i<l.length):oD (l.drop i) s=match vQ s (l.getD i default) with
  | none=>none
  | some t=>oD (l.drop (i+1)) t:=by
 rw[List.drop_eq_getElem_cons h,oD,pX h]
def Sc{arg}{path l:ak}{t}(h:i<l.length):qf W L can arg path (l.drop i) t=if(!oB L arg (path++[l.getD i default]) && !can (path++[l.getD i default]))=true then none else qf W L can arg path (l.drop (i+1)) (D9 W (oB L arg (path++[l.getD i default])) (can (path++[l.getD i default])) (l.getD i default) t):=by
 rw[List.drop_eq_getElem_cons h,qf,pX h]
def Sd(x):(bif bif (ca x).1.op !=2 then true else (ca x).1.cls==1 then true else (ca x).1.cls==2)=((ca x).1.op !=2 || (ca x).1.cls==1 || (ca x).1.cls==2):=by rw[eM,eM]
def Se{arg}(h:s∈ef W L arg path):0<=s/\s<W.owner.length:=by
 have:=(List.mem_filter.1 h).1;obtain⟨n,a,rfl⟩:=List.mem_map.1 this;have:=List.mem_range.1 a;omega
def Sf(a:cx W){s:Int}(h:0<=s/\s<W.owner.length):3<=W.owner.getD s.toNat default/\W.owner.getD s.toNat default<3+W.parents.length:=by
 have c:W.owner.all (r9 W)=true:=by simp only[cx,Bool.and_eq_true] at a;exact a.2
 have:=List.all_eq_true.1 c (W.owner.getD s.toNat default) (hQ aa);simp only[r9,Bool.and_eq_true,decide_eq_true_eq] at this;omega
theorem Eb:∀(l:ak) (o:cW),(qg o l).length=o.length
 | [],o=>rfl
 | p::r,o=>by show (qg (o.set p.toNat true) r).length=_;rw[Eb r,List.length_set]
def afF{o}{l:ak}{j}(h:j<l.length):qg o (l.drop j)=qg (o.set (l.getD j default).toNat true) (l.drop (j+1)):=by
 rw[List.drop_eq_getElem_cons h,pX h];rfl
def afG(m no)(n):sF m no (n+1)=(sF m no n || (m.getD n false && no.getD n false)):=by rw[sF,sF,List.range_succ,List.any_append];simp
def Sg{m no}{c n}(a:c<n)(h:(m.getD c false && no.getD c false)=true):sF m no n=true:=List.any_eq_true.2 ⟨c,List.mem_range.2 a,h⟩
def afH(W:bt)(L:List Fact)(e5:∀x∈L,ua W x)(br:L.length<=1000)(hw:cx W)(arg:Int)(path:ak)(ck:path.length<=50)(can:ak->Bool)(a1:∀s∈ef W L arg path,aG prog 214 [ab.mj W L arg (path++[s])] (.b (can (path++[s])))):aG prog 239 [ab.mj W L arg path] (.bk [afE (lf W L can arg path),.b (lf W L can arg path).isSome]):=by
 intro H;refine aM (n:=160) func239 λB I bW=>?_;have mM:=Jz L arg path;have q7:=q0 hw;have xt:=vm hw;refine c4 ?_;refine aj.pN (3+W.parents.length) rfl rfl rfl rfl rfl rfl rfl rfl aa aa yk (λrv=>?_);refine bY ?_;refine aj.pN (3+W.parents.length) rfl rfl rfl rfl rfl rfl rfl rfl aa aa yk (λry=>?_);refine aT ?_;rw[Ou];refine aO ?_;refine ag (ad.call .k (Jw W L (λx aK=>(e5 x aK).split) br arg path)) ?_;refine aT ?_;refine bo (λm st=>∃(i:Nat) (t:lJ),st=⟨[(34,.i i),(33,.i (ei L arg path).length),(32,ab.facts (ei L arg path)),(5,.val (.slice (some ⟨ry,0,none⟩) (3+W.parents.length) (3+W.parents.length))),(4,.val (.slice (some ⟨rv,0,none⟩) (3+W.parents.length) (3+W.parents.length))),(1,.ptr (mi W L arg path))],.au ry 4 (j9 t.2)::.au rv 4 (j9 t.1)::H⟩/\m=(ei L arg path).length - i/\i<=(ei L arg path).length/\oD ((ei L arg path).drop i) t=oD (ei L arg path) (nI W,nI W)/\t.1.length=3+W.parents.length/\t.2.length=3+W.parents.length) (⟨0,(nI W,nI W),rfl,rfl,aa,rfl,by simp[nI],by simp[nI]⟩) ?_;rintro m _ ⟨i,t,rfl,rfl,aQ,hR,uc,vR⟩;refine ax ?_;refine az (λaf=>?_) λaf=>?_
 ·have aK:=e5 ((ei L arg path).getD i default) (Jy (hQ aa));refine aI ?_;refine bK (λdM=>?_);refine ax ?_;refine ag (ad.call .k (xV ((ei L arg path).getD i default) aK.split)) ?_;refine aF ?_;refine bK (λb1=>?_);refine oY ?_;refine bc (λae=>?_) (λae=>?_)
  ·rw[Sd] at ae;refine ax ?_;refine bc (λao=>?_) (λao=>?_)
   ·have ao:(ca ((ei L arg path).getD i default)).2=false:=by simpa using ao
    have jz:lf W L can arg path=none:=by rw[Ea aa,vQ,if_pos ae,if_neg (by rw[ao];simp)] at hR;rw[lf, <-hR]
    refine dk ?_;refine aZ.cg (rs:=[.tmp 2,.tmp 3]) (H':=H) rfl (.tmp rfl (.tmp rfl (.nil))) (.cons (an.nil 1) (.cons (.refl _) .nil)) bC ?_;exact⟨oJ,rfl⟩
   ·have ao:(ca ((ei L arg path).getD i default)).2=true:=by simpa using ao
    refine aI ?_;exact aW (⟨i+1,t,rfl,rfl,aa,by rw[Ea aa,vQ,if_pos ae,if_pos ao] at hR;exact hR,uc,vR⟩)
  ·rw[Sd] at ae;have Sh:=ae;simp only[Bool.or_eq_false_iff,bne_eq_false_iff_eq] at Sh;have iW:=aK.cls Sh.1.1;refine ax ?_;refine az (λaV=>?_) λaV=>?_
   ·refine aY ?_;refine ag (ad.gU rfl rfl rfl rfl rfl aa) ?_;apply aj.fZ rfl rfl rfl rfl rfl rfl rfl rfl rfl rfl
    (case hu=>repeat (first | exact bG.head _ _ _ | apply bG.tail));(case hfit=>exact se (i:=(ca ((ei L arg path).getD i default)).1.cls.toNat) aa);(case hds=>exact sd (i:=(ca ((ei L arg path).getD i default)).1.cls.toNat) aa rfl)
    refine aI ?_;exact aW (⟨i+1,(t.1,t.2.set (ca ((ei L arg path).getD i default)).1.cls.toNat true),rfl,rfl,aa,by rw[Ea aa,vQ,if_neg (by rw[ae];simp),if_pos aV] at hR;exact hR,uc,by rw[List.length_set];exact vR⟩)
   ·refine aY ?_;refine ag (ad.gU rfl rfl rfl rfl rfl aa) ?_;apply aj.fZ rfl rfl rfl rfl rfl rfl rfl rfl rfl rfl
    (case hu=>repeat (first | exact bG.head _ _ _ | apply bG.tail));(case hfit=>exact se (i:=(ca ((ei L arg path).getD i default)).1.cls.toNat) aa);(case hds=>exact sd (i:=(ca ((ei L arg path).getD i default)).1.cls.toNat) aa rfl)
    refine aI ?_;exact aW (⟨i+1,(t.1.set (ca ((ei L arg path).getD i default)).1.cls.toNat true,t.2),rfl,rfl,aa,by rw[Ea aa,vQ,if_neg (by rw[ae];simp),if_neg (by rw[aV];simp)] at hR;exact hR,by rw[List.length_set];exact uc,vR⟩)
 ·obtain rfl:i=(ei L arg path).length:=by omega
  rw[List.drop_length,oD] at hR;refine ba ?_;refine ag (ad.call .k (R8 W L (λx aK=>(e5 x aK).split) xt arg path aa)) ?_;refine aT ?_;refine bo (λm st=>∃(i:Nat) (u:lJ),st=⟨[(73,.i i),(72,.i (ef W L arg path).length),(71,ab.ints (ef W L arg path)),(5,.val (.slice (some ⟨ry,0,none⟩) (3+W.parents.length) (3+W.parents.length))),(4,.val (.slice (some ⟨rv,0,none⟩) (3+W.parents.length) (3+W.parents.length))),(1,.ptr (mi W L arg path))],.au ry 4 (j9 u.2)::.au rv 4 (j9 u.1)::H⟩/\m=(ef W L arg path).length - i/\i<=(ef W L arg path).length/\qf W L can arg path ((ef W L arg path).drop i) u=qf W L can arg path (ef W L arg path) t/\u.1.length=3+W.parents.length/\u.2.length=3+W.parents.length) (⟨0,t,rfl,rfl,aa,rfl,uc,vR⟩) ?_;rintro m _ ⟨i,u,rfl,rfl,aQ,jF,AM,Ec⟩;refine aR ?_;refine aB.eG (t:=71) rfl (λp3=>?_);refine aT ?_;refine az (λbu=>?_) λbu=>?_
  ·have nj:(ef W L arg path).getD i default∈(ef W L arg path):=hQ aa;have ph:=Se nj;have lV:=Sf hw ph;refine eb ?_;refine ag (ad.call .k (Ju W L arg path _ aa)) ?_;refine bK (λb2=>?_);refine aY ?_;refine bP 3 160 ?_;refine aR ?_;refine bg (ad.call .k (R7 W L (λx aK=>(e5 x aK).split) arg _)) ?_;refine aF ?_;refine ag (ad.call .k (a1 _ nj)) ?_;refine eb ?_;refine bc (λcr=>?_) (λcr=>?_)
   ·rw[kd] at cr;have jz:lf W L can arg path=none:=by rw[Sc aa,if_pos cr] at jF;rw[lf, <-hR];simp only[];rw[<-jF]
    refine dk ?_;refine aZ.cg (rs:=[.tmp 2,.tmp 3]) (H':=H) rfl (.tmp rfl (.tmp rfl (.nil))) (.cons (an.nil 1) (.cons (.refl _) .nil)) bC ?_;exact⟨oJ,rfl⟩
   ·rw[kd] at cr;rw[Sc aa,if_neg (by rw[cr];simp),D9,D8] at jF;refine ba ?_;refine bc (λdK=>?_) (λdK=>?_)
    ·have dK:oB L arg (path++[(ef W L arg path).getD i default])=false:=by simpa using dK
     rw[if_neg (by rw[dK];simp)] at jF;refine aI ?_;refine ag (ad.gU rfl rfl rfl rfl rfl aa) ?_;apply aj.fZ rfl rfl rfl rfl rfl rfl rfl rfl rfl rfl
     (case hu=>repeat (first | exact bG.head _ _ _ | apply bG.tail));(case hfit=>exact se (i:=(W.owner.getD ((ef W L arg path).getD i default).toNat default).toNat) aa);(case hds=>exact sd (i:=(W.owner.getD ((ef W L arg path).getD i default).toNat default).toNat) aa rfl)
     refine aI ?_;refine bc (λdA=>?_) (λdA=>?_)
     ·have dA:can (path++[(ef W L arg path).getD i default])=false:=by simpa using dA
      rw[if_neg (by rw[dA];simp)] at jF;refine aI ?_;refine ag (ad.gU rfl rfl rfl rfl rfl aa) ?_;apply aj.fZ rfl rfl rfl rfl rfl rfl rfl rfl rfl rfl
      (case hu=>repeat (first | exact bG.head _ _ _ | apply bG.tail));(case hfit=>exact se (i:=(W.owner.getD ((ef W L arg path).getD i default).toNat default).toNat) aa);(case hds=>exact sd (i:=(W.owner.getD ((ef W L arg path).getD i default).toNat default).toNat) aa rfl)
      refine aP ?_;exact aW (⟨i+1,(u.1.set (W.owner.getD ((ef W L arg path).getD i default).toNat default).toNat true,u.2.set (W.owner.getD ((ef W L arg path).getD i default).toNat default).toNat true),rfl,rfl,aa,jF,by rw[List.length_set];exact AM,by rw[List.length_set];exact Ec⟩)
     ·have dA:can (path++[(ef W L arg path).getD i default])=true:=by simpa using dA
      rw[if_pos dA] at jF;refine aP ?_;exact aW (⟨i+1,(u.1.set (W.owner.getD ((ef W L arg path).getD i default).toNat default).toNat true,u.2),rfl,rfl,aa,jF,by rw[List.length_set];exact AM,Ec⟩)
    ·have dK:oB L arg (path++[(ef W L arg path).getD i default])=true:=by simpa using dK
     rw[if_pos dK] at jF;refine aI ?_;refine bc (λdP=>?_) (λdP=>?_)
     ·have dP:can (path++[(ef W L arg path).getD i default])=false:=by simpa using dP
      rw[if_neg (by rw[dP];simp)] at jF;refine aI ?_;refine ag (ad.gU rfl rfl rfl rfl rfl aa) ?_;apply aj.fZ rfl rfl rfl rfl rfl rfl rfl rfl rfl rfl
      (case hu=>repeat (first | exact bG.head _ _ _ | apply bG.tail));(case hfit=>exact se (i:=(W.owner.getD ((ef W L arg path).getD i default).toNat default).toNat) aa);(case hds=>exact sd (i:=(W.owner.getD ((ef W L arg path).getD i default).toNat default).toNat) aa rfl)
      refine aP ?_;exact aW (⟨i+1,(u.1,u.2.set (W.owner.getD ((ef W L arg path).getD i default).toNat default).toNat true),rfl,rfl,aa,jF,AM,by rw[List.length_set];exact Ec⟩)
     ·have dP:can (path++[(ef W L arg path).getD i default])=true:=by simpa using dP
      rw[if_pos dP] at jF;refine aP ?_;exact aW (⟨i+1,u,rfl,rfl,aa,jF,AM,Ec⟩)
  ·obtain rfl:i=(ef W L arg path).length:=by omega
   rw[List.drop_length,qf] at jF;refine aI ?_;refine ag (ad.gU rfl rfl rfl rfl rfl aa) ?_;apply aj.fZ rfl rfl rfl rfl rfl rfl rfl rfl rfl rfl
   (case hu=>repeat (first | exact bG.head _ _ _ | apply bG.tail));(case hfit=>exact se (i:=0) aa);(case hds=>exact sd (i:=0) aa rfl)
   refine ax ?_;refine ag (ad.gU rfl rfl rfl rfl rfl aa) ?_;refine ag ((by first | exact ad.cF rfl rfl rfl rfl | (apply ad.ij rfl rfl rfl;(case hm=>repeat (first | exact .head _ | refine .tail _ ?_));(case hy=>exact xn (i:=0) aa)))) ?_;refine aO ?_;refine bc (λc7=>?_) (λc7=>?_)
   ·refine aR ?_;have jz:lf W L can arg path=none:=by rw[lf, <-hR];simp only[];rw[<-jF];simp only[];rw[AL,if_pos c7]
    refine aP ?_;refine aZ.cg (rs:=[.tmp 2,.tmp 3]) (H':=H) rfl (.tmp rfl (.tmp rfl (.nil))) (.cons (an.nil 1) (.cons (.refl _) .nil)) bC ?_;exact⟨oJ,rfl⟩
   ·refine bR ?_;refine bo (λm st=>∃(c:Int) (jT:cW),st=⟨[(15,.i c),(5,.val (.slice (some ⟨ry,0,none⟩) (3+W.parents.length) (3+W.parents.length))),(4,.val (.slice (some ⟨rv,0,none⟩) (3+W.parents.length) (3+W.parents.length))),(1,.ptr (mi W L arg path))],.au ry 4 (j9 u.2)::.au rv 4 (j9 jT)::H⟩/\m=(c - 2).toNat/\2<=c/\c<3+W.parents.length/\jT.length=3+W.parents.length/\mm W (c - 2).toNat jT=mm W W.parents.length (u.1.set 0 false)) (⟨((3+W.parents.length:Nat):Int) - 1,u.1.set 0 false,rfl,rfl,aa,aa,by rw[List.length_set];exact AM,by rw[show (((3+W.parents.length:Nat):Int) - 1 - 2).toNat=W.parents.length from by omega]⟩) ?_;rintro m _ ⟨c,jT,rfl,rfl,abq,ya,gO,iW⟩;refine aP ?_;refine az (λhJ=>?_) λhJ=>?_
    ·have Ht:=pZ hw (i:=(c - 3).toNat) aa;rw[show (c - 2).toNat=(c - 3).toNat+1 from by omega,mm,show 3+(c - 3).toNat=c.toNat from by omega] at iW;refine aI ?_;refine ag (ad.gU rfl rfl rfl rfl rfl aa) ?_;refine ag ((by first | exact ad.cF rfl rfl rfl rfl | (apply ad.ij rfl rfl rfl;(case hm=>repeat (first | exact .head _ | refine .tail _ ?_));(case hy=>exact xn (i:=c.toNat) aa)))) ?_;refine aO ?_;refine bc (λh1=>?_) (λh1=>?_)
     ·rw[if_pos h1] at iW;refine c4 ?_;refine bo (λm st=>∃(j:Nat) (vS:cW),st=⟨[(135,.i j),(134,.i (W.parents.getD (c - 3).toNat default).length),(133,ab.ints (W.parents.getD (c - 3).toNat default)),(15,.i c),(5,.val (.slice (some ⟨ry,0,none⟩) (3+W.parents.length) (3+W.parents.length))),(4,.val (.slice (some ⟨rv,0,none⟩) (3+W.parents.length) (3+W.parents.length))),(1,.ptr (mi W L arg path))],.au ry 4 (j9 u.2)::.au rv 4 (j9 vS)::H⟩/\m=(W.parents.getD (c - 3).toNat default).length - j/\j<=(W.parents.getD (c - 3).toNat default).length/\vS.length=3+W.parents.length/\qg vS ((W.parents.getD (c - 3).toNat default).drop j)=qg jT (W.parents.getD (c - 3).toNat default)) (⟨0,jT,rfl,rfl,aa,gO,rfl⟩) ?_;rintro m _ ⟨j,vS,rfl,rfl,cm,Si,AN⟩;refine aR ?_;refine aB.eG (t:=133) rfl (λY1=>?_);refine aT ?_;refine az (λjq=>?_) λjq=>?_
      ·refine bE ?_;have akP:=Ht ((W.parents.getD (c - 3).toNat default).getD j default) (hQ aa);refine aF ?_;refine ag (ad.gU rfl rfl rfl rfl rfl aa) ?_;apply aj.fZ rfl rfl rfl rfl rfl rfl rfl rfl rfl rfl
       (case hu=>repeat (first | exact bG.head _ _ _ | apply bG.tail));(case hfit=>exact se (i:=((W.parents.getD (c - 3).toNat default).getD j default).toNat) aa);(case hds=>exact sd (i:=((W.parents.getD (c - 3).toNat default).getD j default).toNat) aa rfl)
       refine aP ?_;exact aW (⟨j+1,vS.set ((W.parents.getD (c - 3).toNat default).getD j default).toNat true,rfl,rfl,aa,by rw[List.length_set];exact Si,by rw[<-afF aa];exact AN⟩)
      ·obtain rfl:j=(W.parents.getD (c - 3).toNat default).length:=by omega
       rw[List.drop_length] at AN;have AN:vS=qg jT (W.parents.getD (c - 3).toNat default):=AN;refine bE ?_;exact aW (⟨c - 1,vS,rfl,rfl,aa,aa,Si,by rw[AN,show (c - 1 - 2).toNat=(c - 3).toNat from by omega];exact iW⟩)
     ·rw[if_neg (by rw[h1];simp)] at iW;refine aI ?_;exact aW (⟨c - 1,jT,rfl,rfl,aa,aa,gO,by rw[show (c - 1 - 2).toNat=(c - 3).toNat from by omega];exact iW⟩)
    ·obtain rfl:c=2:=by omega
     rw[show ((2:Int) - 2).toNat=0 from rfl,mm] at iW;refine c4 ?_;refine bo (λm st=>∃(i:Nat),st=⟨[(145,.i i),(144,.i ((3+W.parents.length:Nat):Int)),(5,.val (.slice (some ⟨ry,0,none⟩) (3+W.parents.length) (3+W.parents.length))),(4,.val (.slice (some ⟨rv,0,none⟩) (3+W.parents.length) (3+W.parents.length))),(1,.ptr (mi W L arg path))],.au ry 4 (j9 u.2)::.au rv 4 (j9 jT)::H⟩/\m=3+W.parents.length - i/\i<=3+W.parents.length/\sF jT u.2 i=false) (⟨0,rfl,rfl,aa,rfl⟩) ?_;rintro m _ ⟨i,rfl,rfl,aQ,Sj⟩;refine ax ?_;refine az (λkc=>?_) λkc=>?_
     ·refine c4 ?_;refine ag (ad.gU rfl rfl rfl rfl rfl aa) ?_;refine ag ((by first | exact ad.cF rfl rfl rfl rfl | (apply ad.ij rfl rfl rfl;(case hm=>repeat (first | exact .head _ | refine .tail _ ?_));(case hy=>exact xn (i:=i) aa)))) ?_;refine aF ?_;refine gb (λaw=>ad.gU rfl rfl (cl aw) rfl (cl aw) aa) ?_;refine gb (λaw=>(by first | exact ad.cF rfl rfl (cl aw) rfl | (apply ad.ij rfl rfl (cl aw);(case hm=>repeat (first | exact .head _ | refine .tail _ ?_));(case hy=>exact xn (i:=i) aa)))) ?_;refine aF ?_;refine bc (λlE=>?_) (λlE=>?_)
      ·rw[kd] at lE;have jz:lf W L can arg path=none:=by rw[lf, <-hR];simp only[];rw[<-jF];simp only[];rw[AL,if_neg (by rw[c7];simp), <-iW,if_pos (Sg (c:=i) aa lE)]
       refine bR ?_;refine aZ.cg (rs:=[.tmp 2,.tmp 3]) (H':=H) rfl (.tmp rfl (.tmp rfl (.nil))) (.cons (an.nil 1) (.cons (.refl _) .nil)) bC ?_;exact⟨oJ,rfl⟩
      ·rw[kd] at lE;refine aP ?_;exact aW (⟨i+1,rfl,rfl,aa,by rw[afG,Sj,lE];rfl⟩)
     ·obtain rfl:i=3+W.parents.length:=by omega
      have HR:lf W L can arg path=some jT:=by rw[lf, <-hR];simp only[];rw[<-jF];simp only[];rw[AL,if_neg (by rw[c7];simp), <-iW,if_neg (by rw[Sj];simp)]
      refine ax ?_;rw[Ot jT];refine aB.oM (d:=4) (k:=1) rfl pq (by simp[gO]) (by intro e he;obtain⟨x,_,rfl⟩:=List.mem_map.1 he;rfl) aa yk ?_;refine aP ?_;refine aZ.cg (rs:=[.tmp 2,.tmp 3]) (H':=H) rfl (.tmp rfl (.tmp rfl (.nil))) (.refl _) bC ?_;exact⟨by rw[HR];rfl,rfl⟩
def mn(W:bt)(L:List Fact)(arg:Int):Nat->ak->Bool
 | 0,path=>(ru W L arg path).2 || ub W L arg path || (lf W L (λ_=>false) arg path).isSome
 | d+1,path=>(ru W L arg path).2 || ub W L arg path || (lf W L (mn W L arg d) arg path).isSome
def rz(W:bt)(L:List Fact):Bool:=mn W L 0 2 [] && mn W L 1 2 [] && mn W L 2 2 []
def afI{p w}(h:ld p w):w.length<=p.length:=by
 rw[ld,Bool.and_eq_true,decide_eq_true_eq] at h;exact h.1
def afJ(f:∀x∈L,ua W x){arg}{path}(h:2<=path.length):ef W L arg path= []:=by
 rw[ef,List.filter_eq_nil_iff];intro s _ j;obtain⟨x,g,a⟩:=List.any_eq_true.1 j;rw[rq,Bool.and_eq_true] at a;have c:=afI a.2;have l:=(f x g).path;rw[List.length_append] at c;simp at c;omega
def Sk(W)(L)(c:∀x∈L,ua W x)(a:L.length<=1000)(h:cx W)(arg)(path)(l:path.length<=2)(can)(j:∀s∈ef W L arg path,aG prog 214 [ab.mj W L arg (path++[s])] (.b (can (path++[s])))):aG prog 214 [ab.mj W L arg path] (.b ((ru W L arg path).2 || ub W L arg path || (lf W L can arg path).isSome)):=by
 intro H;refine aM func214 λB I o=>?_;have g:=vm h;refine bY ?_;refine ag (.call .k (afC W L c a g arg path aa)) ?_;refine bR ?_;refine aj.db rfl rfl rfl rfl rfl rfl (λaw=>.call (.mk' rfl rfl rfl rfl c9) (afD W L c a g arg path aa)) ?_;refine aF ?_;refine az (λaf=>?_) λaf=>?_
 ·refine aP ?_;refine aC 2 H ?_;exact⟨bq (by rw[eM] at af;rw[af];rfl),rfl⟩
 ·refine ba ?_;refine bc (λae=>?_) λae=>?_
  ·cases ae
  ·refine aT ?_;refine ag (.call .k (afH W L c a h arg path aa can j)) ?_;refine c4 ?_;refine aC 2 H ?_;exact⟨bq (by rw[eM] at af;rw[af];rfl),rfl⟩
theorem Sl(W)(L)(a:∀x∈L,ua W x)(c:L.length<=1000)(f:cx W)(arg):∀(d:Nat) (path:ak),path.length+d=2->aG prog 214 [ab.mj W L arg path] (.b (mn W L arg d path))
 | 0,path,h=>by
  rw[mn];exact Sk W L a c f arg path aa _ (λs g=>by rw[afJ a aa] at g;cases g)
 | d+1,path,h=>by
  rw[mn];exact Sk W L a c f arg path aa _ (λs g=>Sl W L a c f arg d (path++[s]) cB)
def afK(W)(L)(arg):an (.agg (cD W++[ab.facts L,.i arg,.val aL,.b false])) (ab.mj W L arg []):=by
 exact .agg (.cons (.refl _) (.cons (.refl _) (.cons (.refl _) (.cons (.refl _) (.cons (an.nil 1) (.cons (.refl _) .nil))))))
def Ed(W)(L)(n):((List.range (n+1)).all λ(i:Nat)=>mn W L i 2 [])=(((List.range n).all λ(i:Nat)=>mn W L i 2 []) && mn W L n 2 []):=by rw[List.range_succ,List.all_append];simp
def Sm(W)(L):((List.range 3).all λ(i:Nat)=>mn W L i 2 [])=rz W L:=by
 rw[rz,Ed,Ed,Ed];simp
def afL(a:i<3)(h:mn W L i 2 []=false):rz W L=false:=by
 rw[<-Sm,List.all_eq_false];exact⟨i,List.mem_range.2 a,wv⟩
def afM(W)(L)(c:∀x∈L,ua W x)(g:L.length<=1000)(h:cx W):aG prog 195 [ab.world W,ab.facts L] (.b (rz W L)):=by
 intro H;refine aM func195 λB I l=>?_;refine dk ?_;refine bo (λm f=>∃(i:Nat),f=⟨[(5,.i i),(2,.ptr (cD W)),(1,ab.facts L)],H⟩/\m=3 - i/\i<=3/\((List.range i).all λ(i:Nat)=>mn W L i 2 [])=true) iA ?_;rintro m _ ⟨i,rfl,rfl,j,a⟩;refine aP ?_;refine az (λaf=>?_) λaf=>?_
 ·refine bY ?_;refine bK (λdM=>?_);refine ax ?_;refine ag (.s4 .k (.cons (afK W L i) .nil) (Sl W L c g h i 2 [] rfl)) ?_;refine aF ?_;refine az (λae=>?_) λae=>?_
  ·refine bE ?_;refine aC 4 H ?_;exact⟨bq (afL (i:=i) aa m2).symm,rfl⟩
  ·refine aI ?_;exact aW ⟨i+1,rfl,rfl,aa,by rw[Ed,a];simpa using ae⟩
 ·obtain rfl:i=3:=by omega
  rw[Sm] at a;refine bE ?_;refine aC 4 H ?_;exact⟨bq a.symm,rfl⟩
def sG:ld p q=true↔q<+:p:=by
 rw[ld,Bool.and_eq_true,decide_eq_true_eq,beq_iff_eq];constructor
 ·rintro⟨_,h⟩;exact h▸List.take_prefix _ _
 ·intro h;exact⟨h.length_le,(List.prefix_iff_eq_take.1 h).symm⟩
def kp(a:Int)(p:ak)(l:cZ):Bool:=l.f.arg==a && ld l.f.path p
def jw(a:Int)(p:ak)(l:cZ):Bool:=l.f.arg==a && l.f.path==p
def sH(l:cZ)(p:ak)(k:dn):dn:=if p=l.f.path then fS (ie l k) l else lb (l.f.path.getD p.length 0) (ie l k)
def ig(a:Int)(p:ak)(k:dn)(l:cZ):dn:=if kp a p l=true then sH l p k else k
def Ee(q):ld q []=true:=sG.2 (List.nil_prefix)
def JA(q):ld q q=true:=sG.2 (List.prefix_refl q)
def JB(h:p≠ []):ld [] p=false:=by
 rw[Bool.eq_false_iff];intro e;exact h (List.prefix_nil.1 (sG.1 e))
def Ef:ld (x::q) p=true↔p= []\/∃r,p=x::r/\ld q r=true:=by
 rw[sG];constructor
 ·intro h;rcases p with _ | ⟨y,r⟩
  ·exact .inl rfl
  ·have:=List.cons_prefix_cons.1 h;exact .inr ⟨r,by rw[this.1],sG.2 this.2⟩
 ·rintro (rfl | ⟨r,rfl,h⟩)
  ·exact List.nil_prefix
  ·exact List.cons_prefix_cons.2 ⟨rfl,sG.1 h⟩
def afN(al)(l)(C:l.f.path.length<=2)(a)(p):vM al l a p=ig a p (al a p) l:=by
 unfold vM ig kp sH;generalize l.f.path=q at*;generalize c:l.f.arg=b;by_cases o:b=a
 ·subst o
  match q,C with
  | [],_=>
   by_cases g:p= []
   ·subst g;simp[lI,jS,c,Ee]
   ·simp[lI,jS,c,g,JB g]
  | [s],_=>
   by_cases g:p= []
   ·subst g;simp[lI,jS,c,Ee]
   ·by_cases h:p= [s]
    ·subst h;simp[lI,jS,c,JA]
    ·have w:ld [s] p=false:=by
      rw[Bool.eq_false_iff];intro e;rcases Ef.1 e with e | ⟨r,e,m⟩
      ·exact g e
      ·rcases r with _ | ⟨y,r⟩
       ·exact h e
       ·rw[JB aS] at m;cases m
     simp[lI,jS,c,g,h,w]
  | [s,t],_=>
   by_cases g:p= []
   ·subst g;simp[lI,jS,c,Ee]
   ·by_cases h:p= [s]
    ·subst h;simp[lI,jS,c,Ef,Ee]
    ·by_cases v:p= [s,t]
     ·subst v;simp[lI,jS,c,JA]
     ·have w:ld [s,t] p=false:=by
       rw[Bool.eq_false_iff];intro e;rcases Ef.1 e with e | ⟨r,e,m⟩
       ·exact g e
       ·rcases Ef.1 m with x | ⟨A,x,B⟩
        ·exact h (by rw[e,x])
        ·rcases A with _ | ⟨y,A⟩
         ·exact v (by rw[e,x])
         ·rw[JB aS] at B;cases B
      simp[lI,jS,c,g,h,v,w]
 ·have j:(b==a)=false:=by simpa using o
  have z: ¬a=b:=λe=>o e.symm
  match q,C with
  | [],_=>simp[lI,jS,c,j,z]
  | [s],_=>simp[lI,jS,c,j,z]
  | [s,t],_=>simp[lI,jS,c,j,z]
def afO(j:∀l∈ls,l.f.path.length<=2)(a)(p):ec ls a p=ls.foldl (ig a p) kn:=by
 unfold ec;have:∀(ls:List cZ) (al:cQ),(∀l∈ls,l.f.path.length<=2)->(ls.foldl vM al) a p=ls.foldl (ig a p) (al a p):=by
  intro ls
  induction ls with
  | nil=>intro al _;rfl
  | cons l r m=>
   intro al h;rw[List.foldl_cons,List.foldl_cons,m _ (λx g=>h x (.tail _ g)),afN al l (h l dv)]
 exact this ls _ j
def kS(a:Int)(p:ak)(neg:Bool)(c:Nat)(l:cZ):Bool:=jw a p l && l.f.op==2 && l.neg==neg && l.f.cls.toNat==c
def vT(a:Int)(p:ak)(l:cZ):Bool:=jw a p l && l.f.op !=2 && !l.neg
def Eg(a:Int)(p:ak)(l:cZ):Bool:=!l.neg && kp a p l
def Eh:jw a p l=(kp a p l && decide (p=l.f.path)):=by
 rw[jw,kp,Bool.and_assoc];congr 1;by_cases h:p=l.f.path
 ·subst h;simp[JA]
 ·have:(l.f.path==p)=false:=by simpa using λe=>h e.symm
  rw[this,decide_eq_false h,Bool.and_false]
def vU(s)(k):(lb s k).low=k.low/\(lb s k).high=k.high/\(lb s k).dz=k.dz/\(lb s k).bA=k.bA/\(lb s k).no=k.no/\(lb s k).whole=k.whole/\(lb s k).gi=k.gi:=by
 unfold lb;split <;> exact⟨rfl,rfl,rfl,rfl,rfl,rfl,rfl⟩
def JC(k)(l):(fS k l).gi=k.gi/\(fS k l).av=k.av:=by
 unfold fS;(repeat' split) <;> exact⟨rfl,rfl⟩
def afP(a)(p)(k)(l):(ig a p k l).gi=(k.gi || Eg a p l):=by
 unfold ig sH Eg;by_cases h:kp a p l=true
 ·rw[if_pos h,h,Bool.and_true];split
  ·rw[(JC _ _).1];show (bif k.gi then true else !l.neg)=_;cases k.gi <;> rfl
  ·rw[(vU _ _).2.2.2.2.2.2];show (bif k.gi then true else !l.neg)=_;cases k.gi <;> rfl
 ·rw[if_neg h,Bool.eq_false_iff.2 h];simp
def afQ(a)(p)(k)(l)(c):(ig a p k l).bA.testBit c=(k.bA.testBit c || kS a p false c l):=by
 unfold ig sH kS;rw[Eh];by_cases h:kp a p l=true
 ·rw[if_pos h,h];by_cases j:p=l.f.path
  ·rw[if_pos j,decide_eq_true j];unfold fS ie;by_cases g:l.f.op=2
   ·by_cases m:l.neg=true
    ·simp[g,m]
    ·simp[g,m,Nat.testBit_or,Nat.testBit_two_pow];rfl
   ·simp[g,if_false]
    (repeat' split) <;> (simp;intro e;exact absurd e g)
  ·rw[if_neg j,decide_eq_false j,(vU _ _).2.2.2.1];simp[ie]
 ·rw[if_neg h,Bool.eq_false_iff.2 h];simp
def afR(a)(p)(k)(l)(c):(ig a p k l).no.testBit c=(k.no.testBit c || kS a p true c l):=by
 unfold ig sH kS;rw[Eh];by_cases h:kp a p l=true
 ·rw[if_pos h,h];by_cases j:p=l.f.path
  ·rw[if_pos j,decide_eq_true j];unfold fS ie;by_cases g:l.f.op=2
   ·by_cases m:l.neg=true
    ·simp[g,m,Nat.testBit_or,Nat.testBit_two_pow];rfl
    ·simp[g,m]
   ·simp[g,if_false]
    (repeat' split) <;> (simp;intro e;exact absurd e g)
  ·rw[if_neg j,decide_eq_false j,(vU _ _).2.2.2.2.1];simp[ie]
 ·rw[if_neg h,Bool.eq_false_iff.2 h];simp
def afS(a)(p)(k)(l):(ig a p k l).whole=(k.whole || vT a p l):=by
 unfold ig sH vT;rw[Eh];by_cases h:kp a p l=true
 ·rw[if_pos h,h];by_cases c:p=l.f.path
  ·rw[if_pos c,decide_eq_true c];unfold fS ie;by_cases g:l.f.op=2
   ·simp[g,if_true];split <;> simp
   ·simp[g,if_false];by_cases j:l.neg=true
    ·simp[j,if_true];split <;> simp
    ·simp[j];split <;> simp[g]
  ·rw[if_neg c,decide_eq_false c,(vU _ _).2.2.2.2.2.1];simp[ie]
 ·rw[if_neg h,Bool.eq_false_iff.2 h];simp
def oE(k:dn):qd:=(k.low,k.high,k.dz)
def vV(s:qd)(l:cZ):qd:=
 if l.f.op=2 then s
 else if l.f.op=3 then (if l.neg=true then (oG s.1 l.f.n,s.2.1,s.2.2) else (s.1,pr s.2.1 (l.f.n - 1),s.2.2))
 else if l.neg=true then (s.1,s.2.1,s.2.2++[l.f.n])
 else (oG s.1 l.f.n,pr s.2.1 l.f.n,s.2.2)
def afT(a)(p)(k)(l):oE (ig a p k l)=if jw a p l=true then vV (oE k) l else oE k:=by
 unfold ig sH;rw[Eh];by_cases h:kp a p l=true
 ·rw[if_pos h,h];by_cases c:p=l.f.path
  ·rw[if_pos c,decide_eq_true c,if_pos cO];unfold fS ie vV oE oG pr;by_cases g:l.f.op=2
   ·simp only[g,if_true] <;> (split <;> rfl)
   ·simp[g,if_false];by_cases j:l.f.op=3
    ·simp[j,if_true];split <;> rfl
    ·simp[j,if_false];split <;> rfl
  ·rw[if_neg c,decide_eq_false c,if_neg aS,oE,(vU _ _).1,(vU _ _).2.1,(vU _ _).2.2.1];rfl
 ·rw[if_neg h,Bool.eq_false_iff.2 h,if_neg aS]
def afU:kp a (p++[x]) l=true↔kp a p l=true/\p≠l.f.path/\l.f.path.getD p.length 0=x:=by
 rw[kp,kp,Bool.and_eq_true,Bool.and_eq_true,sG,sG];constructor
 ·rintro⟨h,r,c⟩;refine⟨⟨h,[x]++r,by rw[<-List.append_assoc];exact c⟩,?_,?_⟩
  ·intro e;have:=congrArg List.length c;rw[<-e] at this;simp at this
  ·rw[<-c];simp
 ·rintro⟨⟨h,r,c⟩,j,g⟩;refine⟨h,?_⟩;rcases r with _ | ⟨y,r⟩
  ·exact absurd (by simpa using c) j
  ·refine⟨r,?_⟩;rw[<-c] at g ⊢;simp at g;subst g;simp
def afV:x∈(lb s k).av↔x∈k.av\/x=s:=by
 unfold lb;split
 ·rename_i h;have h:=List.contains_iff_mem.1 h;constructor
  ·exact .inl
  ·rintro (a | rfl);exact a;exact h
 ·show x∈xO _↔_;rw[(D5 _).mem_iff];simp
def afW(a)(p)(k)(l)(x):x∈(ig a p k l).av↔x∈k.av\/kp a (p++[x]) l=true:=by
 rw[afU];unfold ig sH;by_cases h:kp a p l=true
 ·rw[if_pos h];by_cases g:p=l.f.path
  ·rw[if_pos g,(JC _ _).2];show x∈k.av↔_;exact⟨.inl,λjL=>jL.elim id λjL=>absurd g jL.2.1⟩
  ·rw[if_neg g,afV];show x∈k.av\/_↔_;constructor
   ·rintro (jL | rfl);exact .inl jL;exact .inr ⟨h,g,rfl⟩
   ·rintro (jL | ⟨_,_,rfl⟩);exact .inl jL;exact .inr rfl
 ·rw[if_neg h];exact⟨.inl,λjL=>jL.elim id λjL=>absurd jL.1 h⟩
def afX{l:ak}(h:l.Pairwise (· <= ·))(hn:l.Nodup):l.Pairwise (· < ·):=by
 have:=h.and hn;exact this.imp λ⟨a,ao⟩=>by omega
def afY(h:k.av.Pairwise (· < ·)):(lb s k).av.Pairwise (· < ·):=by
 unfold lb;split
 ·exact h
 ·rename_i c;refine afX (Jr _) ((D5 _).nodup_iff.2 ?_);have g:k.av.Nodup:=h.imp λjL=>by omega
  refine List.nodup_append.2 ⟨g,aS,?_⟩;intro x f y a e;rw[List.mem_singleton] at a;subst e;subst a;exact c (List.contains_iff_mem.2 f)
def afZ(h:k.av.Pairwise (· < ·)):(ig a p k l).av.Pairwise (· < ·):=by
 unfold ig sH;split
 ·split
  ·rw[(JC _ _).2];exact h
  ·exact afY h
 ·exact h
section
variable(a:Int)(p:ak)
theorem Sn:∀(c:List cZ) (k:dn),(c.foldl (ig a p) k).gi=(k.gi || c.any (Eg a p))
 | [],k=>by simp
 | l::r,k=>by rw[List.foldl_cons,Sn r,afP,List.any_cons,Bool.or_assoc]
theorem Sp(c):∀(f:List cZ) (k:dn),(f.foldl (ig a p) k).bA.testBit c=(k.bA.testBit c || f.any (kS a p false c))
 | [],k=>by simp
 | l::r,k=>by rw[List.foldl_cons,Sp c r,afQ,List.any_cons,Bool.or_assoc]
theorem Sq(c):∀(f:List cZ) (k:dn),(f.foldl (ig a p) k).no.testBit c=(k.no.testBit c || f.any (kS a p true c))
 | [],k=>by simp
 | l::r,k=>by rw[List.foldl_cons,Sq c r,afR,List.any_cons,Bool.or_assoc]
theorem Sr:∀(c:List cZ) (k:dn),(c.foldl (ig a p) k).whole=(k.whole || c.any (vT a p))
 | [],k=>by simp
 | l::r,k=>by rw[List.foldl_cons,Sr r,afS,List.any_cons,Bool.or_assoc]
theorem Ss:∀(c:List cZ) (k:dn),oE (c.foldl (ig a p) k)=(c.filter (jw a p)).foldl vV (oE k)
 | [],k=>rfl
 | l::r,k=>by
  rw[List.foldl_cons,Ss r,afT,List.filter_cons];split
  ·rw[List.foldl_cons]
  ·rfl
theorem St(x):∀(c:List cZ) (k:dn),x∈(c.foldl (ig a p) k).av↔x∈k.av\/c.any (kp a (p++[x]))=true
 | [],k=>by simp
 | l::r,k=>by rw[List.foldl_cons,St x r,afW,List.any_cons,Bool.or_eq_true,or_assoc]
theorem Su:∀(c:List cZ) (k:dn),k.av.Pairwise (· < ·)->(c.foldl (ig a p) k).av.Pairwise (· < ·)
 | [],k,h=>h
 | l::r,k,h=>by rw[List.foldl_cons];exact Su r _ (afZ h)
end
theorem lt_eq:∀{l m:ak},l.Pairwise (· < ·)->m.Pairwise (· < ·)->(∀x,x∈l↔x∈m)->l=m
 | [],[],_,_,_=>rfl
 | [],b::m,_,_,h=>absurd ((h b).2 dv) aS
 | a::l,[],_,_,h=>absurd ((h a).1 dv) aS
 | a::l,b::m,q,r,h=>by
  have j:=List.pairwise_cons.1 q;have g:=List.pairwise_cons.1 r;have o:a=b:=by
   rcases List.mem_cons.1 ((h a).1 dv) with e | e
   ·exact e
   ·rcases List.mem_cons.1 ((h b).2 dv) with f | f
    ·exact f.symm
    ·have:=g.1 a e;have:=j.1 b f;omega
  subst o;rw[lt_eq j.2 g.2 λx=>?_];constructor
  ·intro c;rcases List.mem_cons.1 ((h x).1 (.tail _ c)) with e | e
   ·have:=j.1 x c;omega
   ·exact e
  ·intro c;rcases List.mem_cons.1 ((h x).2 (.tail _ c)) with e | e
   ·have:=g.1 x c;omega
   ·exact e
def xX(h:l.f.op<=4):ca (ju l)=(l.f,l.neg):=by
 unfold ca ju;by_cases a:l.neg=true
 ·rw[if_pos a,if_pos cO,a];rfl
 ·rw[if_neg a,if_neg aa,Bool.eq_false_iff.2 a]
def Sv{q}{r}(h:∀l∈ls,q (ju l)=r l):(eV ls).any q=ls.any r:=by
 rw[eV,List.any_map];exact tA λx a=>h x a
structure mo(W:bt)(ls:List cZ):Prop where
 w:cx W=true
 ok:∀l∈ls,mX W l
 cls:∀l∈ls,l.f.op=2->l.f.cls<3+W.parents.length
section
variable{W:bt}{ls:List cZ}(h:mo W ls)
include h
def mo.sp(br:l∈ls):ca (ju l)=(l.f,l.neg):=xX (h.ok l br).op.2
def mo.at(a:Int)(p:ak):ec ls a p=ls.foldl (ig a p) kn:=afO (λl br=>(h.ok l br).path) a p
def mo.vJ(a:Int)(p:ak):(ec ls a p).gi=ls.any (Eg a p):=by rw[h.at,Sn];rfl
def mo.bA(a:Int)(p:ak)(c:Nat):(ec ls a p).bA.testBit c=ls.any (kS a p false c):=by rw[h.at,Sp];simp[kn]
def mo.no(a:Int)(p:ak)(c:Nat):(ec ls a p).no.testBit c=ls.any (kS a p true c):=by rw[h.at,Sq];simp[kn]
def mo.whole(a:Int)(p:ak):(ec ls a p).whole=ls.any (vT a p):=by rw[h.at,Sr];rfl
def mo.oE(a:Int)(p:ak):oE (ec ls a p)=(ls.filter (jw a p)).foldl vV AK:=by rw[h.at,Ss];rfl
def mo.av(a:Int)(p:ak)(x:Int):x∈(ec ls a p).av↔ls.any (kp a (p++[x]))=true:=by rw[h.at,St];simp[kn]
def mo.lt(a:Int)(p:ak):(ec ls a p).av.Pairwise (· < ·):=by rw[h.at];exact Su a p ls _ (by simp[kn])
def Sw(a:Int)(p:ak):oB (eV ls) a p= !(ec ls a p).gi:=by
 rw[oB,h.vJ,Sv λl br=>?_];rw[AJ,h.sp br];rfl
def af0(a:Int)(p:ak):(eV ls).any (rq a p)=ls.any (kp a p):=
 Sv λl br=>by rw[rq,h.sp br];rfl
def JD(a:Int)(p:ak):ei (eV ls) a p=eV (ls.filter (jw a p)):=by
 rw[ei,eV,List.filter_map,eV];congr 1;exact List.filter_congr λl br=>by show pk a p (ju l)=_;rw[pk,h.sp br];rfl
def JE(a:Int)(p:ak):ef W (eV ls) a p=(ec ls a p).av:=by
 refine lt_eq ?_ (h.lt a p) λx=>?_
 ·rw[ef];refine List.Pairwise.filter _ ?_;rw[List.pairwise_map];exact List.pairwise_lt_range.imp λjL=>by omega
 ·rw[h.av,ef,List.mem_filter,af0 h];constructor
  ·exact λjL=>jL.2
  ·intro jL;refine⟨?_,jL⟩;obtain⟨l,br,hw⟩:=List.any_eq_true.1 jL;rw[kp,Bool.and_eq_true,sG] at hw;have aK:x∈l.f.path:=hw.2.subset aS;have:=(h.ok l br).slot x aK;exact List.mem_map.2 ⟨x.toNat,List.mem_range.2 aa,aa⟩
def Sx(a:Int)(p:ak):vP W (eV ls) a p=xP (ec ls) a p:=by
 rw[vP,xP,JE h];congr 1;funext s;rw[Sw h]
omit h in
def Ei(s t c):(l4 s t).testBit c=(decide (c<64) && s.testBit c && !t.testBit c):=by
 rw[l4,BitVec.testBit_toNat,BitVec.getLsbD_and,BitVec.getLsbD_not,BitVec.getLsbD_ofNat,BitVec.getLsbD_ofNat];cases decide (c<64) <;> simp
omit h in
def JF{n:Nat}:((n:Int)==0)=true↔∀c,n.testBit c=false:=by
 rw[beq_iff_eq];constructor
 ·intro e c;have:n=0:=by omega
  rw[this];exact Nat.zero_testBit c
 ·intro e;have:n=0:=Nat.eq_of_testBit_eq λc=>by rw[e,Nat.zero_testBit]
  omega
omit h in
def Sy(cls)(c):(sE cls).testBit c=(c==0 || c==cls.toNat):=by
 rw[sE,Nat.testBit_or,Nat.testBit_two_pow];congr 1
 ·rcases c with _ | c
  ·rfl
  ·rw[Nat.testBit_succ];simp
 ·rw[Bool.eq_iff_iff,decide_eq_true_iff,beq_iff_eq];exact eq_comm
def mo.af1(a1:(ec ls a p).bA.testBit c):c<3+W.parents.length:=by
 rw[h.bA] at a1;obtain⟨l,br,aU⟩:=List.any_eq_true.1 a1;simp only[kS,Bool.and_eq_true,beq_iff_eq] at aU;have ae:=(h.ok l br).cls aU.1.1.2;have ao:=h.cls l br aU.1.1.2;omega
def Sz(a:Int)(p:ak)(cls:Int):xQ (ec ls) a p cls=true↔(∀c,(ec ls a p).bA.testBit c=true->c=0\/c=cls.toNat)/\(∀c,c=0\/c=cls.toNat->(ec ls a p).no.testBit c=false)/\xP (ec ls) a p=true:=by
 have q7:=q0 h.w;rw[xQ,Bool.and_eq_true,Bool.and_eq_true,JF,JF,and_assoc];refine and_congr ?_ (and_congr ?_ Iff.rfl)
 ·refine forall_congr' λc=>?_;rw[Ei,Sy];constructor
  ·intro ae ao;have:=h.af1 ao;rw[ao,decide_eq_true aa] at ae;by_cases a1:c=0
   ·exact .inl a1
   ·right;simp at ae;exact ae a1
  ·intro ae;cases hm:(ec ls a p).bA.testBit c with
   | false=>simp
   | true=>rcases ae hm with e | e <;> simp[e]
 ·refine forall_congr' λc=>?_;rw[Nat.testBit_and,Sy];constructor
  ·intro ae ao;rcases ao with e | e <;> simpa [e] using ae
  ·intro ae;by_cases a1:c=0\/c=cls.toNat
   ·rw[ae a1];rfl
   ·have:(c==0 || c==cls.toNat)=false:=by simpa [not_or] using a1
    rw[this,Bool.and_false]
omit h in
def sI(l:cZ):Bool:=!(l.f.op==2 && (decide (l.f.cls>1) !=l.neg))
omit h in
def af2(c:l.f.op<=4)(s):ml s (ju l)=if sI l=true then some (vV s l) else none:=by
 unfold ml sI vV;rw[xX c];by_cases a:l.f.op=2
 ·simp only[a,if_true];cases a8:(decide (l.f.cls>1) !=l.neg) <;> simp
 ·simp only[a,if_false];have:(l.f.op==2)=false:=by simpa using a
  rw[this];simp only[Bool.false_and,Bool.not_false,if_true]
  (repeat' split) <;> rfl
omit h in
theorem SA:∀(r:List cZ) (s:qd),(∀l∈r,l.f.op<=4)->qe (eV r) s=if r.all sI=true then some (r.foldl vV s) else none
 | [],s,_=>rfl
 | l::r,s,c=>by
  show qe (ju l::eV r) s=_;rw[qe,af2 (c l dv),List.all_cons,List.foldl_cons];by_cases a:sI l=true
  ·rw[if_pos a,a,Bool.true_and];exact SA r _ λx g=>c x (.tail _ g)
  ·rw[if_neg a,Bool.eq_false_iff.2 a,Bool.false_and];rfl
def af3(a:Int)(p:ak):(ls.filter (jw a p)).all sI=true↔(∀c,(ec ls a p).bA.testBit c=true->c=0\/c=1)/\(∀c,c=0\/c=1->(ec ls a p).no.testBit c=false):=by
 rw[List.all_eq_true];constructor
 ·intro bD;refine⟨λc a1=>?_,λc a1=>?_⟩
  ·rw[h.bA] at a1;obtain⟨l,br,aU⟩:=List.any_eq_true.1 a1;simp only[kS,Bool.and_eq_true,beq_iff_eq] at aU;have:=bD l (List.mem_filter.2 ⟨br,aU.1.1.1⟩);simp only[sI,aU.1.1.2,aU.1.2,beq_self_eq_true,Bool.true_and,Bool.not_eq_true',bne_eq_false_iff_eq,decide_eq_false_iff_not] at this;have:=(h.ok l br).cls aU.1.1.2;omega
  ·rw[Bool.eq_false_iff,h.no];intro hn;obtain⟨l,br,aU⟩:=List.any_eq_true.1 hn;simp only[kS,Bool.and_eq_true,beq_iff_eq] at aU;have:=bD l (List.mem_filter.2 ⟨br,aU.1.1.1⟩);simp only[sI,aU.1.1.2,aU.1.2,beq_self_eq_true,Bool.true_and,Bool.not_eq_true',bne_eq_false_iff_eq,decide_eq_true_eq] at this;omega
 ·rintro⟨ae,ao⟩ l br;have br:=List.mem_filter.1 br;simp only[sI,Bool.not_eq_true',Bool.and_eq_false_iff,beq_eq_false_iff_ne,bne_eq_false_iff_eq];by_cases bb:l.f.op=2
  ·right;have a1:=(h.ok l br.1).cls bb;cases hn:l.neg with
   | false=>
    rw[decide_eq_false_iff_not];have:=ae l.f.cls.toNat K3;omega
   | true=>
    rw[decide_eq_true_eq];have:∀c,c=0\/c=1->l.f.cls.toNat≠c:=λc a1 e=>by
     have:=ao c a1;rw[h.no,Bool.eq_false_iff] at this;exact this (List.any_eq_true.2 ⟨l,br.1,by simp[kS,br.2,bb,hn,e]⟩)
    have af:=this 0 (.inl rfl);have ae:=this 1 (.inr rfl);omega
  ·exact .inl bb
def SB(a:Int)(p:ak):(ru W (eV ls) a p).2=xR (ec ls) a p:=by
 have e:=SA (ls.filter (jw a p)) AK λl br=>(h.ok l (List.mem_filter.1 br).1).op.2;have ck:=Sz h a p 1;have aQ:=af3 h a p;rw[ru,JD h,e,Sx h];have ht:=h.oE a p;rw[xR,Bool.eq_iff_iff,Bool.and_eq_true,ck,decide_eq_true_iff];by_cases bD:(ls.filter (jw a p)).all sI=true
 ·rw[if_pos bD, <-ht];simp only[];have aU:=aQ.1 bD;constructor
  ·intro ae;by_cases b8:mW (oE (ec ls a p)).2.2 (oE (ec ls a p)).1<=(oE (ec ls a p)).2.1
   ·rw[if_pos b8] at ae;exact⟨b8,aU.1,aU.2,ae⟩
   ·rw[if_neg b8] at ae;cases ae
  ·rintro⟨ae,_,_,ao⟩;rw[if_pos (by exact ae)];exact ao
 ·rw[if_neg bD];constructor
  ·intro ae;cases ae
  ·rintro⟨_,ae,ao,_⟩;exact absurd (aQ.2 ⟨ae,ao⟩) bD
omit h in
def af4(a:l.f.op<=4):(!(isNone (ju l)==(ca (ju l)).2))= !((l.f.op==2 && (l.f.cls==0 || l.f.cls==2))==l.neg):=by
 rw[isNone,xX a]
def af5(a:Int)(p:ak):((ls.filter (jw a p)).all λl=>!((l.f.op==2 && (l.f.cls==0 || l.f.cls==2))==l.neg))=true↔(ec ls a p).whole=false/\(∀c,(ec ls a p).bA.testBit c=true->c=0\/c=2)/\(∀c,c=0\/c=2->(ec ls a p).no.testBit c=false):=by
 rw[List.all_eq_true];constructor
 ·intro bD;refine⟨?_,λc a1=>?_,λc a1=>?_⟩
  ·rw[h.whole,Bool.eq_false_iff];intro hw;obtain⟨l,br,aU⟩:=List.any_eq_true.1 hw;simp only[vT,Bool.and_eq_true,bne_iff_ne,Bool.not_eq_true'] at aU;have:=bD l (List.mem_filter.2 ⟨br,aU.1.1⟩);have ao:(l.f.op==2)=false:=by simpa using aU.1.2
   rw[ao,aU.2] at this;simp at this
  ·rw[h.bA] at a1;obtain⟨l,br,aU⟩:=List.any_eq_true.1 a1;simp only[kS,Bool.and_eq_true,beq_iff_eq] at aU;have:=bD l (List.mem_filter.2 ⟨br,aU.1.1.1⟩);simp only[aU.1.1.2,aU.1.2,beq_self_eq_true,Bool.true_and,Bool.not_eq_true',beq_eq_false_iff_ne,ne_eq,Bool.not_eq_false,Bool.or_eq_true,beq_iff_eq] at this;have:=(h.ok l br).cls aU.1.1.2;omega
  ·rw[Bool.eq_false_iff,h.no];intro hn;obtain⟨l,br,aU⟩:=List.any_eq_true.1 hn;simp only[kS,Bool.and_eq_true,beq_iff_eq] at aU;have:=bD l (List.mem_filter.2 ⟨br,aU.1.1.1⟩);simp only[aU.1.1.2,aU.1.2,beq_self_eq_true,Bool.true_and,Bool.not_eq_true',beq_eq_false_iff_ne,ne_eq,Bool.not_eq_true,Bool.or_eq_false_iff] at this;have:=(h.ok l br).cls aU.1.1.2;omega
 ·rintro⟨af,ae,ao⟩ l br;have br:=List.mem_filter.1 br;rw[Bool.not_eq_true',beq_eq_false_iff_ne];by_cases bb:l.f.op=2
  ·have a1:=(h.ok l br.1).cls bb;rw[show (l.f.op==2)=true from by simpa using bb,Bool.true_and];cases hn:l.neg with
   | false=>
    have:=ae l.f.cls.toNat K3;simp only[ne_eq,Bool.not_eq_false,Bool.or_eq_true,beq_iff_eq];omega
   | true=>
    have:∀c,c=0\/c=2->l.f.cls.toNat≠c:=λc a1 e=>by
     have:=ao c a1;rw[h.no,Bool.eq_false_iff] at this;exact this (List.any_eq_true.2 ⟨l,br.1,by simp[kS,br.2,bb,hn,e]⟩)
    have af:=this 0 (.inl rfl);have ae:=this 2 (.inr rfl);simp only[ne_eq,Bool.not_eq_true,Bool.or_eq_false_iff,beq_eq_false_iff_ne];omega
  ·have ao:(l.f.op==2)=false:=by simpa using bb
   rw[ao,Bool.false_and];intro hn;rw[h.whole,Bool.eq_false_iff] at af;exact af (List.any_eq_true.2 ⟨l,br.1,by simp[vT,br.2,ao, <-hn,bb]⟩)
def SC(a:Int)(p:ak):ub W (eV ls) a p=xS (ec ls) a p:=by
 have ck:=Sz h a p 2;have aQ:=af5 h a p;rw[ub,JD h,Sx h,Bool.eq_iff_iff,xS,Bool.and_eq_true,Bool.and_eq_true,ck];have e:((eV (ls.filter (jw a p))).all λx=>!(isNone x==(ca x).2))=((ls.filter (jw a p)).all λl=>!((l.f.op==2 && (l.f.cls==0 || l.f.cls==2))==l.neg)):=by
  rw[eV,List.all_map,Bool.eq_iff_iff,List.all_eq_true,List.all_eq_true];refine forall_congr' λl=>imp_congr_right λbr=>?_;show (!(isNone (ju l)==(ca (ju l)).2))=true↔_;rw[af4 (h.ok l (List.mem_filter.1 br).1).op.2]
 rw[e,aQ,Bool.not_eq_true'];constructor
 ·rintro⟨⟨af,ae,ao⟩,aV⟩;exact⟨af,ae,ao,aV⟩
 ·rintro⟨af,ae,ao,aV⟩;exact⟨⟨af,ae,ao⟩,aV⟩
end
theorem JG{a:Type}(p q:a->Bool):∀l:List a,(l.any p || l.any q)=l.any λx=>p x || q x
 | []=>rfl
 | x::r=>by rw[List.any_cons,List.any_cons,List.any_cons, <-JG p q r];cases p x <;> cases q x <;> cases r.any p <;> rfl
def AO{l:cW}{x}:(l.set i x).length=l.length:=List.length_set
def AP{l:cW}{i b}(a:i<l.length):(l.set i true).getD b false=(l.getD b false || b==i):=by
 rw[uB];by_cases e:i=b
 ·subst e;rw[if_pos ⟨rfl,a⟩];simp
 ·rw[if_neg (λh=>e h.1),show (b==i)=false from by rw[beq_eq_false_iff_ne];exact λh=>e h.symm,Bool.or_false]
def qh(l:cZ):Bool:=(l.f.op !=2 || l.f.cls==1 || l.f.cls==2) && !l.neg
def rA(c:Nat)(l:cZ):Bool:=l.f.op==2 && !l.neg && l.f.cls.toNat==c
def ud(c:Nat)(l:cZ):Bool:=l.f.op==2 && l.neg && l.f.cls.toNat==c
structure SD(N:Nat)(l:cZ):Prop where
 op:l.f.op<=4
 cls:l.f.op=2->0<=l.f.cls/\l.f.cls<N
def Ej{N}:∀(r:List cZ) (t:lJ),(∀l∈r,SD N l)->t.1.length=N->t.2.length=N->
  (r.any qh=true->oD (eV r) t=none)/\(r.any qh=false->∃u:lJ,oD (eV r) t=some u/\u.1.length=N/\u.2.length=N/\∀c,u.1.getD c false=(t.1.getD c false || r.any (rA c))/\(c≠1->c≠2->u.2.getD c false=(t.2.getD c false || r.any (ud c))))
 | [],t,_,z,s=>⟨aS,λ_=>⟨t,rfl,z,s,λc=>⟨aS,λ_ _=>by simp⟩⟩⟩
 | l::r,t,G,z,s=>by
  have E:=G l dv;have m:∀x∈r,SD N x:=λx I=>G x (.tail _ I);have H:=xX E.op;show (_->oD (ju l::eV r) t=none)/\(_->∃u:lJ,oD (ju l::eV r) t=some u/\_);rw[oD,vQ,H,List.any_cons];by_cases q:(l.f.op !=2 || l.f.cls==1 || l.f.cls==2)=true
  ·rw[if_pos q];by_cases a:l.neg=true
   ·rw[if_pos a,show qh l=false from by rw[qh,a];simp,Bool.false_or];obtain⟨A,B⟩:=Ej r t m z s;refine⟨A,λa8=>?_⟩;obtain⟨u,e,w,v,j⟩:=B a8;refine⟨u,e,w,v,λc=>⟨?_,λr7 C=>?_⟩⟩
    ·rw[(j c).1,List.any_cons,show rA c l=false from by rw[rA,a];simp,Bool.false_or]
    ·have D:ud c l=false:=by
      rw[ud,Bool.eq_false_iff];intro e;simp[Bool.and_eq_true,beq_iff_eq,Bool.or_eq_true,bne_iff_ne] at e q;have:=E.cls e.1.1;omega
     rw[(j c).2 r7 C,List.any_cons,D,Bool.false_or]
   ·have a8:qh l=true:=by rw[qh,q];simpa using a
    rw[if_neg a,a8];exact⟨λ_=>rfl,λh=>by simp at h⟩
  ·have g:=Bool.eq_false_iff.2 q;have a8:qh l=false:=by rw[qh,g];rfl
   simp[Bool.or_eq_false_iff,bne_eq_false_iff_eq] at g;have J:=E.cls g.1.1;rw[if_neg q,a8,Bool.false_or];by_cases a:l.neg=true
   ·rw[if_pos a];obtain⟨A,B⟩:=Ej r (t.1,t.2.set l.f.cls.toNat true) m z (by rw[AO];exact s);refine⟨A,λa8=>?_⟩;obtain⟨u,e,w,v,j⟩:=B a8;refine⟨u,e,w,v,λc=>⟨?_,λr7 C=>?_⟩⟩
    ·rw[(j c).1,List.any_cons,show rA c l=false from by rw[rA,a];simp,Bool.false_or]
    ·rw[(j c).2 r7 C,List.any_cons, <-Bool.or_assoc];congr 1;show (t.2.set l.f.cls.toNat true).getD c false=_;rw[AP aa,ud,a,g.1.1];simp[eq_comm,Bool.beq_eq_decide_eq]
   ·rw[if_neg a];have a:=Bool.eq_false_iff.2 a;obtain⟨A,B⟩:=Ej r (t.1.set l.f.cls.toNat true,t.2) m (by rw[AO];exact z) s;refine⟨A,λa8=>?_⟩;obtain⟨u,e,w,v,j⟩:=B a8;refine⟨u,e,w,v,λc=>⟨?_,λr7 C=>?_⟩⟩
    ·rw[(j c).1,List.any_cons, <-Bool.or_assoc];congr 1;show (t.1.set l.f.cls.toNat true).getD c false=_;rw[AP aa,rA,a,g.1.1];simp[eq_comm,Bool.beq_eq_decide_eq]
    ·rw[(j c).2 r7 C,List.any_cons,show ud c l=false from by rw[ud,a];simp,Bool.false_or]
theorem JH:∀(l:ak) (o:cW) (b:Nat),(∀p∈l,0<=p/\p<o.length)->(qg o l).getD b false=(o.getD b false || l.contains (b:Int))
 | [],o,b,_=>by simp[qg]
 | p::r,o,b,h=>by
  have c:=h p dv;show (qg (o.set p.toNat true) r).getD b false=_;rw[JH r _ b (λq a=>by rw[AO];exact h q (.tail _ a)),AP aa,List.contains_cons,Bool.or_assoc];congr 2;rw[Bool.eq_iff_iff,beq_iff_eq,beq_iff_eq];omega
theorem SE(W):∀(k:Nat) (o:cW),(mm W k o).length=o.length
 | 0,o=>rfl
 | k+1,o=>by rw[mm,SE W k];split;exact Eb _ _;rfl
theorem JI{W}(h:cx W):∀(k:Nat) (o:cW),k<=W.parents.length->o.length=3+W.parents.length->∀b,0<b->(mm W k o).getD b false=(o.getD b false || (List.range k).any λi=>o.getD (3+i) false && gv W (3+i) b)
 | 0,o,_,_,b,_=>by simp[mm]
 | k+1,o,s,m,b,q=>by
  have ck:=pZ h (i:=k) aa;rw[mm,List.range_succ,List.any_append,List.any_cons,List.any_nil,Bool.or_false];by_cases a:o.getD (3+k) false=true
  ·rw[if_pos a];have l:=λx=>JH (W.parents.getD k default) o x (λp f=>by have:=ck p f;omega);rw[JI h k _ aa (by rw[Eb];exact m) b q,l,a,Bool.true_and];rw[oe h aa,show (b==0)=false from by rw[beq_eq_false_iff_ne];omega,Bool.false_or];rw[Bool.eq_iff_iff];simp only[Bool.or_eq_true,Bool.and_eq_true,List.any_eq_true,List.mem_range,beq_iff_eq,l,List.contains_iff_mem];constructor
   ·rintro ((c | ao) | ⟨i,j,c | c,g⟩)
    ·exact .inl c
    ·exact .inr (.inr (.inr ⟨(b:Int),ao,KU⟩))
    ·exact .inr (.inl ⟨i,j,c,g⟩)
    ·exact .inr (.inr (.inr ⟨((3+i:Nat):Int),c,by rw[Int.toNat_natCast];exact g⟩))
   ·rintro (c | ⟨i,j,c,g⟩ | rfl | ⟨p,f,g⟩)
    ·exact .inl (.inl c)
    ·exact .inr ⟨i,j,.inl c,g⟩
    ·exact .inl (.inl a)
    ·have:=ck p f;by_cases r:p.toNat<3+k
     ·refine .inr ⟨p.toNat - 3,aa,.inr ?_,?_⟩
      ·rw[show ((3+(p.toNat - 3):Nat):Int)=p from by omega];exact f
      ·rw[show 3+(p.toNat - 3)=p.toNat from by omega];exact g
     ·omega
  ·rw[if_neg a,JI h k _ aa m b q,Bool.eq_false_iff.2 a,Bool.false_and,Bool.or_false]
theorem JJ{W}(h:cx W):∀(k:Nat) (o:cW),k<=W.parents.length->o.length=3+W.parents.length->(mm W k o).getD 0 false=o.getD 0 false
 | 0,o,_,_=>rfl
 | k+1,o,g,c=>by
  have f:=pZ h (i:=k) aa;rw[mm];split
  ·rw[JJ h k _ aa (by rw[Eb];exact c),JH _ _ _ (λp a=>by have:=f p a;omega)];have:(W.parents.getD k default).contains ((0:Nat):Int)=false:=by
    rw[Bool.eq_false_iff];intro e;have:=f _ (List.contains_iff_mem.1 e);omega
   rw[this,Bool.or_false]
  ·exact JJ h k _ aa c
theorem SF{W}(h:cx W):∀(f c l:Nat),c+f=3+W.parents.length->∀b,(jQ W f c l).testBit b=true↔l.testBit b=true\/∃i,c<=i/\i<c+f/\l.testBit i=true/\gv W i b=true
 | 0,c,l,_,b=>by
  rw[jQ];exact⟨.inl,λh=>h.elim id λ⟨i,a,o,_⟩=>by omega⟩
 | f+1,c,l,q,b=>by
  rw[jQ,SF h f (c+1) _ aa];by_cases m:l.testBit c=true
  ·rw[if_pos m];simp[Nat.testBit_or,Bool.or_eq_true];constructor
   ·rintro ((a | a) | ⟨i,a,o,g | g,j⟩)
    ·exact .inl a
    ·exact .inr ⟨c,aa,aa,m,a⟩
    ·exact .inr ⟨i,aa,aa,g,j⟩
    ·exact .inr ⟨c,aa,aa,m,He h c c fs aa i b g j⟩
   ·rintro (a | ⟨i,a,o,g,j⟩)
    ·exact .inl (.inl a)
    ·by_cases e:i=c
     ·subst e;exact .inl (.inr j)
     ·exact .inr ⟨i,aa,aa,.inl g,j⟩
  ·rw[if_neg m];constructor
   ·rintro (a | ⟨i,a,o,g,j⟩)
    ·exact .inl a
    ·exact .inr ⟨i,aa,aa,g,j⟩
   ·rintro (a | ⟨i,a,o,g,j⟩)
    ·exact .inl a
    ·by_cases e:i=c
     ·subst e;exact absurd g m
     ·exact .inr ⟨i,aa,aa,g,j⟩
structure Marks(W:bt)(t:lJ)(bA no:Nat):Prop where
 od:t.1.length=3+W.parents.length
 AQ:t.2.length=3+W.parents.length
 m:∀c,bA.testBit c=t.1.getD c false
 n:∀c,c≠1->c≠2->no.testBit c=t.2.getD c false
 JK:bA.testBit 1=false
 JL:bA.testBit 2=false
def AR{s c b}:(s ||| 2^c).testBit b=(s.testBit b || b==c):=by
 rw[Nat.testBit_or,Nat.testBit_two_pow];congr 1;rw[Bool.eq_iff_iff,decide_eq_true_iff,beq_iff_eq];exact eq_comm
def Marks.af6{t}{bA no}(h:Marks W t bA no){c}(a:3<=c/\c<3+W.parents.length):Marks W (t.1.set c true,t.2) (bA ||| 2^c) no:=
 ⟨by rw[AO];exact h.od,h.AQ,λb=>by rw[AR,h.m,AP (by rw[h.od];omega)],h.n,by rw[AR,h.JK,Bool.false_or,beq_eq_false_iff_ne];omega,by rw[AR,h.JL,Bool.false_or,beq_eq_false_iff_ne];omega⟩
def Marks.bU{t}{bA no}(h:Marks W t bA no){c}(g:3<=c/\c<3+W.parents.length):Marks W (t.1,t.2.set c true) bA (no ||| 2^c):=
 ⟨h.od,by rw[AO];exact h.AQ,h.m,λb f a=>by rw[AR,h.n b f a,AP (by rw[h.AQ];omega)],h.JK,h.JL⟩
section
variable{W:bt}{ls:List cZ}(h:mo W ls)
include h
def Ek(a:Int){p:ak}{can rB:ak->Bool}:∀(r:ak) (t:lJ) (bA no:Nat),(∀s∈r,0<=s/\s<W.owner.length)->(∀s∈r,can (p++[s])=rB (p++[s]))->Marks W t bA no->
  (qc W (ec ls) rB a p r bA no=none/\qf W (eV ls) can a p r t=none)\/∃u SG JM,qc W (ec ls) rB a p r bA no=some (SG,JM)/\qf W (eV ls) can a p r t=some u/\Marks W u SG JM/\JM.testBit 0=no.testBit 0
 | [],t,bA,no,_,_,hm=>.inr ⟨t,bA,no,rfl,rfl,hm,rfl⟩
 | s::r,t,bA,no,bH,a1,hm=>by
  have l3:∀x∈r,0<=x/\x<W.owner.length:=λx aK=>bH x (.tail _ aK);have JN:∀x∈r,can (p++[x])=rB (p++[x]):=λx aK=>a1 x (.tail _ aK);have bb:=Sf h.w (bH s (.head _));rw[qc,qf,Sw h,a1 s (.head _),Bool.not_not,D9,D8];cases JO:(ec ls a (p++[s])).gi with
  | true=>
   cases ya:rB (p++[s]) with
   | false=>exact .inl ⟨aS,aS⟩
   | true=>
    have:=Ek a r _ _ no l3 JN (hm.af6 (c:=(W.owner.getD s.toNat default).toNat) aa);simpa using this
  | false=>
   cases ya:rB (p++[s]) with
   | false=>
    have:=Ek a r _ bA _ l3 JN (hm.bU (c:=(W.owner.getD s.toNat default).toNat) aa);have fl:(no ||| 2^(W.owner.getD s.toNat default).toNat).testBit 0=no.testBit 0:=by
     rw[AR,show (0==(W.owner.getD s.toNat default).toNat)=false from by rw[beq_eq_false_iff_ne];omega,Bool.or_false]
    rw[fl] at this;simpa using this
   | true=>
    have:=Ek a r t bA no l3 JN hm;simpa using this
def SH{can rB:ak->Bool}(a1:∀s∈(ec ls a p).av,can (p++[s])=rB (p++[s])):
  (lf W (eV ls) can a p).isSome=(vN W (ec ls) rB a p).2/\∀jT,lf W (eV ls) can a p=some jT->jT.length=3+W.parents.length/\∀b,jT.getD b false=(vN W (ec ls) rB a p).1.testBit b:=by
 have q7:=q0 h.w;have JP:∀c,(ec ls a p).bA.testBit c=(ls.filter (jw a p)).any (rA c):=λc=>by
  rw[h.bA,List.any_filter];refine tA λl _=>?_;rw[kS,rA];cases jw a p l <;> cases l.f.op==2 <;> cases l.neg <;> rfl
 have jz:∀c,(ec ls a p).no.testBit c=(ls.filter (jw a p)).any (ud c):=λc=>by
  rw[h.no,List.any_filter];refine tA λl _=>?_;rw[kS,ud];cases jw a p l <;> cases l.f.op==2 <;> cases l.neg <;> rfl
 have SI:(ls.filter (jw a p)).any qh=((ec ls a p).whole || (ec ls a p).bA.testBit 1 || (ec ls a p).bA.testBit 2):=by
  rw[h.whole,JP,JP,List.any_filter,List.any_filter,List.any_filter,JG,JG];refine tA λl br=>?_;have iW:=(h.ok l br).cls;rw[qh,rA,rA,vT];cases jw a p l
  ·rfl
  ·cases hn:l.neg
   ·by_cases ao:l.f.op=2
    ·have bM:(l.f.cls==1)=(l.f.cls.toNat==1):=by rw[Bool.eq_iff_iff,beq_iff_eq,beq_iff_eq];have:=iW ao;omega
     have bL:(l.f.cls==2)=(l.f.cls.toNat==2):=by rw[Bool.eq_iff_iff,beq_iff_eq,beq_iff_eq];have:=iW ao;omega
     rw[ao,bM,bL];simp
    ·have:(l.f.op==2)=false:=by simpa using ao
     simp[bne,this]
   ·simp
 obtain⟨hx,fx⟩:=Ej (N:=3+W.parents.length) (ls.filter (jw a p)) (nI W,nI W) (λl br=>⟨(h.ok l (List.mem_filter.1 br).1).op.2,λao=>⟨((h.ok l (List.mem_filter.1 br).1).cls ao).1,by have:=h.cls l (List.mem_filter.1 br).1 ao;omega⟩⟩) (by simp[nI]) (by simp[nI]);rw[lf,JD h,vN];by_cases a8:(ls.filter (jw a p)).any qh=true
 ·rw[hx a8];rw[SI] at a8;rw[if_pos (by rw[a8];rfl)];exact⟨rfl,λjT sJ=>by cases sJ⟩
 ·have a8:=Bool.eq_false_iff.2 a8;obtain⟨u,e,od,AQ,hu⟩:=fx a8;rw[e];have xY:=a8;rw[SI,Bool.or_eq_false_iff,Bool.or_eq_false_iff] at xY;have SJ:∀c,(nI W).getD c false=false:=λc=>by
   rw[nI,List.getD_eq_getElem?_getD,List.getElem?_replicate];split <;> rfl
  have af7:Marks W u (ec ls a p).bA (ec ls a p).no:=⟨od,AQ,λc=>by rw[JP,(hu c).1,SJ,Bool.false_or],λc r7 zj=>by rw[jz,(hu c).2 r7 zj,SJ,Bool.false_or],xY.1.2,xY.2⟩;simp only[];rw[JE h];have ph:∀s∈(ec ls a p).av,0<=s/\s<W.owner.length:=λs b6=>by rw[<-JE h] at b6;exact Se b6
  rw[xY.1.1,xY.1.2,xY.2,Bool.false_or,Bool.false_or,Bool.false_or];rcases Ek h a (ec ls a p).av u _ _ ph a1 af7 with⟨bM,bL⟩ | ⟨v,bA,no,bM,bL,bd,af⟩
  ·rw[bM,bL];refine⟨?_,λjT sJ=>by cases sJ⟩;cases (ec ls a p).no.testBit 0 <;> rfl
  ·rw[bM,bL];simp only[];rw[AL];by_cases uG:(ec ls a p).no.testBit 0=true
   ·rw[if_pos uG,if_pos (by rw[<-bd.n 0 aa aa,af,uG])];exact⟨rfl,λjT sJ=>by cases sJ⟩
   ·rw[if_neg uG,if_neg (by rw[<-bd.n 0 aa aa,af];exact uG)];have JQ:(v.1.set 0 false).length=3+W.parents.length:=by rw[List.length_set];exact bd.od
    have aH:∀b,(v.1.set 0 false).getD b false=(v.1.getD b false && !(b==0)):=λb=>by
     rw[uB];by_cases e:0=b
     ·subst e;rw[if_pos ⟨rfl,by rw[bd.od];omega⟩];simp
     ·rw[if_neg (λh=>e h.1),show (b==0)=false from by rw[beq_eq_false_iff_ne];omega];simp
    have kT:∀b,bA.testBit b=true->b<3+W.parents.length:=λb a8=>by
     rw[bd.m] at a8;rcases Nat.lt_or_ge b (3+W.parents.length) with kT | xw
     ·exact kT
     ·rw[List.getD_eq_getElem?_getD,List.getElem?_eq_none (by rw[bd.od];exact xw)] at a8;cases a8
    have jZ:=SF h.w W.parents.length 3 bA rfl;have af8:∀b,(jQ W W.parents.length 3 bA).testBit b=true->b<3+W.parents.length:=λb a8=>by
     rcases (jZ b).1 a8 with ae | ⟨i,ae,ao,_,bu⟩
     ·exact kT b ae
     ·have:=xm h.w i i (Nat.le_refl _) aa b bu;omega
    have vq:∀b,(mm W W.parents.length (v.1.set 0 false)).getD b false=(l4 (jQ W W.parents.length 3 bA) 1).testBit b:=λb=>by
     rw[Ei];have bM:(1:Nat).testBit b=(b==0):=by
      rcases b with _ | b
      ·rfl
      ·rw[Nat.testBit_succ];simp
     rw[bM];by_cases gV:b=0
     ·subst gV;rw[JJ h.w _ _ (Nat.le_refl _) JQ,aH];simp
     ·have SK:(b==0)=false:=by rw[beq_eq_false_iff_ne];exact gV
      rw[JI h.w _ _ (Nat.le_refl _) JQ b aa,SK,Bool.not_false,Bool.and_true,aH,SK,Bool.not_false,Bool.and_true, <-bd.m,Bool.eq_iff_iff,Bool.or_eq_true,Bool.and_eq_true,decide_eq_true_iff,jZ,List.any_eq_true];constructor
      ·rintro (ae | ⟨i,aQ,ao⟩)
       ·exact⟨by have:=kT b ae;omega,.inl ae⟩
       ·rw[Bool.and_eq_true,aH,Bool.and_eq_true, <-bd.m] at ao;have aQ:=List.mem_range.1 aQ;have:=xm h.w (3+i) (3+i) (Nat.le_refl _) aa b ao.2;exact⟨aa,.inr ⟨3+i,aa,aa,ao.1.1,ao.2⟩⟩
      ·rintro⟨_,ae | ⟨i,ae,ao,aV,bu⟩⟩
       ·exact .inl ae
       ·refine .inr ⟨i - 3,List.mem_range.2 aa,?_⟩;rw[show 3+(i - 3)=i from by omega,Bool.and_eq_true,aH,Bool.and_eq_true, <-bd.m];exact⟨⟨aV,cB⟩,bu⟩
    have El:∀b,b=1\/b=2->(l4 (jQ W W.parents.length 3 bA) 1).testBit b=false:=λb a8=>by
     rw[Ei,Bool.eq_false_iff];intro aU;simp only[Bool.and_eq_true] at aU;rcases (jZ b).1 aU.1.2 with ae | ⟨i,ae,ao,_,bu⟩
     ·rcases a8 with rfl | rfl
      ·rw[bd.JK] at ae;cases ae
      ·rw[bd.JL] at ae;cases ae
     ·have:=xm h.w i i (Nat.le_refl _) aa b bu;omega
    have af9:sF (mm W W.parents.length (v.1.set 0 false)) v.2 (3+W.parents.length)= !(((l4 (jQ W W.parents.length 3 bA) 1 &&& no:Nat):Int)==0):=by
     rw[<-Bool.not_not (sF _ _ _)];congr 1;rw[Bool.eq_iff_iff,JF,Bool.not_eq_true'];constructor
     ·intro iW c;rw[Nat.testBit_and,Bool.eq_false_iff];intro aU;rw[Bool.and_eq_true] at aU;have AS:c≠1/\c≠2:=⟨λe=>absurd aU.1 (by rw[El c (.inl e)];simp),λe=>absurd aU.1 (by rw[El c (.inr e)];simp)⟩;have aga:c<3+W.parents.length:=by
       have:=aU.1;rw[Ei,Bool.and_eq_true,Bool.and_eq_true] at this;exact af8 c this.1.2
      rw[bd.n c AS.1 AS.2, <-vq] at aU;rw[Sg aga (by rw[aU.1,aU.2];rfl)] at iW;cases iW
     ·intro agb;rw[Bool.eq_false_iff];intro iW;obtain⟨c,a1,aU⟩:=List.any_eq_true.1 iW;rw[Bool.and_eq_true,vq] at aU;have AS:c≠1/\c≠2:=⟨λe=>absurd aU.1 (by rw[El c (.inl e)];simp),λe=>absurd aU.1 (by rw[El c (.inr e)];simp)⟩;have:=agb c;rw[Nat.testBit_and,aU.1,bd.n c AS.1 AS.2,aU.2] at this;cases this
    rw[af9];by_cases Em:(((l4 (jQ W W.parents.length 3 bA) 1 &&& no:Nat):Int)==0)=true
    ·rw[Em,if_neg aS];refine⟨aS,λjT sJ=>?_⟩;cases sJ;exact⟨by rw[SE];exact JQ,vq⟩
    ·have Em:=Bool.eq_false_iff.2 Em;rw[Em,if_pos aS];exact⟨aS,λjT sJ=>by cases sJ⟩
theorem En(a:Int):∀(d:Nat) (p:ak),mn W (eV ls) a d p=rp W (ec ls) d a p
 | 0,p=>by rw[mn,rp,SB h,SC h,(SH h (λs b6=>rfl)).1]
 | d+1,p=>by rw[mn,rp,SB h,SC h,(SH h (λs b6=>En a d (p++[s]))).1]
def SL:rz W (eV ls)=vO W ls:=by
 rw[rz,vO,En h,En h,En h]
end
def qi(out:List Fact)(x:Fact):List Fact:=if out.contains x then out else out++[x]
def gj(a b:List Fact):List Fact:=b.foldl qi a
def SM{a b:List Fact}{k}(h:k<b.length):gj a (b.take (k+1))=qi (gj a (b.take k)) (b.getD k default):=by
 rw[<-dN.c2 h,gj,List.foldl_append];rfl
def agc(a):∀b:List Fact,(gj a b).length<=a.length+b.length:=by
 intro b
 induction b generalizing a with
 | nil=>simp[gj]
 | cons x b c=>
  show (gj (qi a x) b).length<=_;have:=c (qi a x);rw[List.length_cons];have f:(qi a x).length<=a.length+1:=by unfold qi;split <;> simp
  omega
def agd{l:List Fact}{x}{j}(h:j<l.length):(l.take (j+1)).contains x=((l.take j).contains x || x==l.getD j default):=by
 rw[<-dN.c2 h,List.contains_eq_any_beq,List.contains_eq_any_beq,List.any_append];simp
def age{t}{y}:(bif t then true else y)=(t || y):=by cases t <;> rfl
def agf(a b)(o:a.length<=100000)(r:b.length<=100000):aG prog 213 [ab.facts a,ab.facts b] (ab.facts (gj a b)):=by
 intro H;refine aM func213 λB I t=>?_;refine aI ?_;refine aj.WH rfl rfl rfl rfl rfl rfl rfl rfl gu (by rw[oK];exact DT (λ_=>rfl) _) (by show (kt _).length*80<=_;rw[oK,List.length_map];omega) (by show (kt _).length<=_;rw[oK,List.length_map];omega) (λv12=>?_);refine bR ?_;refine bo (λm g=>∃(k:Nat) (v:Value),g=⟨[(15,.i k),(14,.i b.length),(13,ab.facts b),(5,.as (ab.facts (gj a (b.take k))) v)],.own 60 6 v::H⟩/\m=b.length - k/\k<=b.length) (⟨0,v12,rfl,rfl,aa⟩) ?_;rintro m _ ⟨k,v,rfl,rfl,q⟩;refine ax ?_;refine az (λaf=>?_) λaf=>?_
 ·refine aI ?_;refine bK (λdM=>?_);refine aY ?_;refine eA 7 ?_;refine ax ?_;have l:(gj a (b.take k)).length<=200000:=Nat.le_trans (agc _ _) yi;refine aO ?_;refine aj.le 19 (y:=ab.facts (gj a (b.take k))) rfl (an.e2 _ _) ?_;refine aT ?_;refine bo (λm g=>∃(j:Nat),g=⟨[(21,.i j),(20,.i (gj a (b.take k)).length),(19,ab.facts (gj a (b.take k))),(8,.b (((gj a (b.take k)).take j).contains (b.getD k default))),(7,.ptr (fy (b.getD k default))),(15,.i k),(14,.i b.length),(13,ab.facts b),(5,.as (ab.facts (gj a (b.take k))) v)],.own 60 6 v::H⟩/\m=(gj a (b.take k)).length - j/\j<=(gj a (b.take k)).length) tp ?_;rintro m _ ⟨j,rfl,rfl,s⟩;refine ax ?_;refine az (λae=>?_) λae=>?_
  ·refine aI ?_;refine bK (λb1=>?_);refine aI ?_;refine aj.db rfl rfl rfl rfl rfl rfl (λaw=>ad.call (.mk' rfl rfl rfl rfl c9) (afq (b.getD k default) ((gj a (b.take k)).getD j default))) ?_;refine ba ?_;exact aW (⟨j+1,by rw[agd aa, <-age],rfl,aa⟩)
  ·obtain rfl:j=(gj a (b.take k)).length:=by omega
   rw[List.take_length];refine bE ?_;refine bc (λao=>?_) (λao=>?_)
   ·have ao:(gj a (b.take k)).contains (b.getD k default)=false:=by simpa using ao
    have e:gj a (b.take (k+1))=(gj a (b.take k))++[(b.getD k default)]:=by rw[SM aa,qi,if_neg (by rw[ao];simp)]
    refine aF ?_;refine ag (ad.row rfl rfl cC rfl rfl rfl rfl rfl rfl) ?_;refine aj.dJ rfl rfl rfl rfl rfl rfl rfl rfl (an.refl _) (rfl) (λ_=>df) K7 (by show (kt _).length+1<=_;rw[oK,List.length_map];omega) (λv37=>?_);refine aY ?_;refine aB.le 5 (y:=.as (ab.facts (gj a (b.take (k+1)))) v37) rfl (by rw[e, <-R6];exact an.refl _) ?_;refine aY ?_;exact aW (⟨k+1,v37,rfl,rfl,aa⟩)
   ·have ao:(gj a (b.take k)).contains (b.getD k default)=true:=by simpa using ao
    have e:gj a (b.take (k+1))=(gj a (b.take k)):=by rw[SM aa,qi,if_pos ao]
    refine aF ?_;rw[<-e];refine aY ?_;exact aW (⟨k+1,v,rfl,rfl,aa⟩)
 ·obtain rfl:k=b.length:=by omega
  rw[List.take_length];refine bR ?_;refine aZ.cg (rs:=[.tmp 4]) (H':=H) rfl (.tmp rfl (.nil)) (.cons (an.e2 _ _) .nil) bC ?_;exact⟨cO,rfl⟩
end Go.Proofs.YtodccgailpkgeaaGreat

