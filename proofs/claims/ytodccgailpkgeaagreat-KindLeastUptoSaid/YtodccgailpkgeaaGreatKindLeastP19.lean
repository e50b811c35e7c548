/- Part 19 of the proof: contracts of functions of the program and what they need. No condition beyond those that each theorem names. -/
import Derived.Test.YtodccgailpkgeaaGreatKindLeastP18
import Derived.Shelf.Sort.Plain
import Derived.Shelf.Slices.In.SortNone
import Derived.Sort.OwnSortedInts
import Derived.Tactics
import Derived.Tactics2
import Derived.Laws.Pointers
import Derived.TacticsInMore
import Derived.RegionIn
import Derived.RecoverIn
set_option maxHeartbeats 1000000
set_option linter.unusedVariables false
set_option linter.unusedSimpArgs false
set_option maxRecDepth 10000
namespace Go.Proofs.YtodccgailpkgeaaGreat
open Go.Eng
open Go.Eng.Fc
open Go.Eng.Fc Go.Shelf Go.Sort
variable{W:bb}{bo B tb:Nat}{can:List Int->Bool}{k:cm}{r:List Int}{s:Int}{U:List Nat}{Hx H:List aj}{w aO:World}{x:Bool}{a:Act}{env:List (Nat×aa)}{ls:List cD}{cl:a8}{E:aa->List aj->Prop}
def sd(c2:List Int):Nat->Int->Int
 | 0,n=>n
 | f+1,n=>if c2.contains n then sd c2 f (n+1) else n
def np(c2:List Int)(n:Int):Nat:=(c2.filter λx=>decide (n<=x)).length
def tB(c2:List Int)(n:Int):Int:=sd c2 (np c2 n+1) n
theorem KK{c2:List Int}{n:Int}(h:c2.contains n=true):np c2 (n+1)+1<=np c2 n:=by
 have hm:n∈c2:=by simpa using h
 clear h
 induction c2 with
 | nil=>cases hm
 | cons x r bm=>
  have sub:∀l:List Int,np l (n+1)<=np l n:=by
   intro l
   induction l with
   | nil=>simp[np]
   | cons y s KL=>
    unfold np at KL ⊢;by_cases ab:n+1<=y
    ·have ae:n<=y:=by omega
     simp[List.filter_cons,ab,ae];exact KL
    ·by_cases ae:n<=y
     ·simp only[List.filter_cons,ab,ae,decide_true,decide_false,if_true];simp;omega
     ·simp only[List.filter_cons,ab,ae,decide_false];simpa using KL
  rcases List.mem_cons.1 hm with e | hm
  ·subst e;have:=sub r;unfold np at this ⊢;have ab: ¬n+1<=n:=by omega
   simp only[List.filter_cons,ab,Int.le_refl,decide_true,decide_false,if_true];simp;omega
  ·have:=bm hm;unfold np at this ⊢;by_cases ab:n+1<=x
   ·have ae:n<=x:=by omega
    simp[List.filter_cons,ab,ae];omega
   ·by_cases ae:n<=x
    ·simp only[List.filter_cons,ab,ae,decide_true,decide_false,if_true];simp;omega
    ·simp only[List.filter_cons,ab,ae,decide_false];simp;omega
theorem afL{c2:List Int}:∀(f g:Nat) (n:Int),np c2 n+1<=f->np c2 n+1<=g->sd c2 f n=sd c2 g n:=by
 intro f
 induction f with
 | zero=>intro g n h _;omega
 | succ f bm=>
  intro g n h al;obtain⟨g,rfl⟩:∃q,g=q+1:=⟨g - 1,ad⟩;rw[sd,sd];by_cases ak:c2.contains n=true
  ·rw[if_pos ak,if_pos ak];have ab:=KK ak;exact bm g (n+1) ad ad
  ·rw[if_neg ak,if_neg ak]
theorem afM{c2:List Int}{n:Int}(h:c2.contains n=true):tB c2 n=tB c2 (n+1):=by
 have ab:=KK h;show sd c2 (np c2 n+1) n=_;rw[sd,if_pos h];exact afL _ _ _ ab (Nat.le_refl _)
theorem afN{c2:List Int}{n:Int}(h:c2.contains n=false):tB c2 n=n:=by
 show sd c2 (np c2 n+1) n=_;rw[sd,if_neg (λe=>by rw[h] at e;cases e)]
theorem afO(c2:List Int)(n:Int):np c2 n<=c2.length:=List.length_filter_le _ _
theorem afP{aE:Value->cm}(K:ri W aE)(dD:W.owner.length<=40){arg:Int}{path:List Int}(h:mN arg path):
  jf Tryz.prog [nn bo aE] 292 [jY W bo,aa.spot arg path] (.bJ [.i (tB (aE (b2 arg path)).c2 (aE (b2 arg path)).low),.b (decide (tB (aE (b2 arg path)).c2 (aE (b2 arg path)).low<=(aE (b2 arg path)).high) && uZ aE arg path 1)]):=by
 intro H hm;refine bh (n:=38) Tryz.func292 λB I aO=>?_;have als:=K.low (b2 arg path);have alu:=K.c2 (b2 arg path);have s3:=afO (aE (b2 arg path)).c2 (aE (b2 arg path)).low;refine cw ?_;refine aG (af.jB .k (bO.refl _) (xj W bo aE arg path (tA h)) (λe he=>by repeat (first | exact hm e he | apply List.mem_cons_of_mem))) ?_;refine fk ?_;refine cq (λm st=>∃n:Int,st=⟨[(7,.i n),(6,.ptr (n5 (aE (b2 arg path)))),(0,jY W bo),(3,.ptr (oK arg path))],H⟩/\m=np (aE (b2 arg path)).c2 n/\tB (aE (b2 arg path)).c2 n=tB (aE (b2 arg path)).c2 (aE (b2 arg path)).low/\(aE (b2 arg path)).low<=n/\n - (aE (b2 arg path)).low+np (aE (b2 arg path)).c2 n<=1000) (⟨(aE (b2 arg path)).low,rfl,rfl,rfl,Int.le_refl _,ad⟩) ?_;rintro m _ ⟨n,rfl,rfl,aP,oX,hlen⟩;refine bS ?_;refine aG (af.call .k ((IU _ _))) ?_;refine bC ?_;refine aq.cond rfl (λai=>?_) (λai=>?_)
 ·replace ai:=dZ ai;have alv:=KK (show (aE (b2 arg path)).c2.contains n=true from ai);have CW:=afM (show (aE (b2 arg path)).c2.contains n=true from ai);refine bS ?_;exact bV (⟨n+1,rfl,rfl,by rw[<-CW];exact aP,ad,ad⟩)
 ·have afQ:=afN (show (aE (b2 arg path)).c2.contains n=false from ai);refine kC ?_;refine au.cb rfl rfl rfl rfl rfl rfl (λal=>af.jB (.mk' rfl rfl rfl rfl dv) (bO.refl _) (Td K dD h 1 ad) (λe he=>by repeat (first | exact hm e he | apply List.mem_cons_of_mem))) ?_;refine aT ?_;refine fR [.tmp 4,.tmp 5] (H) ?_;exact⟨by rw[<-aP,afQ, <-uJ];rfl,rfl⟩
def xl(aE:Value->cm)(arg:Int)(path:List Int):Bool:=decide (tB (aE (b2 arg path)).c2 (aE (b2 arg path)).low<=(aE (b2 arg path)).high) && uZ aE arg path 1
def xm(aE:Value->cm)(arg:Int)(path:List Int):Bool:=!(aE (b2 arg path)).whole && uZ aE arg path 2
def jL(W:bb)(aE:Value->cm)(can:List Int->Bool)(arg:Int)(path:List Int):List Int->Nat->Nat->Option (Nat×Nat)
 | [],cn,no=>some (cn,no)
 | s::r,cn,no=>
  let hE:=(aE (b2 arg (path++[s]))).hE
  let is:=can (path++[s])
  if hE && !is then none
  else if hE then jL W aE can arg path r (cn ||| 2^(W.owner.getD s.toNat default).toNat) no
  else if !is then jL W aE can arg path r cn (no ||| 2^(W.owner.getD s.toNat default).toNat)
  else jL W aE can arg path r cn no
def pK(W:bb):Nat->Nat->Nat->Nat
 | 0,_,cn=>cn
 | f+1,c,cn=>pK W f (c+1) (if cn.testBit c then cn ||| (nP W).getD c 0 else cn)
def pL(W:bb)(aE:Value->cm)(can:List Int->Bool)(arg:Int)(path:List Int):Nat×Bool:=
 let k:=aE (b2 arg path)
 if k.whole || k.cn.testBit 1 || k.cn.testBit 2 || k.no.testBit 0 then (0,false)
 else match jL W aE can arg path k.aJ k.cn k.no with
  | none=>(0,false)
  | some (cn,no)=>(lM (pK W W.parents.length 3 cn) 1,((lM (pK W W.parents.length 3 cn) 1 &&& no:Nat):Int)==0)
def se(W:bb)(aE:Value->cm):Nat->Int->List Int->Bool
 | 0,arg,path=>xl aE arg path || xm aE arg path || (pL W aE (λ_=>false) arg path).2
 | d+1,arg,path=>xl aE arg path || xm aE arg path || (pL W aE (se W aE d arg) arg path).2
theorem E5{aE:Value->cm}{arg:Int}{path:List Int}{l:List Int}{k cn no:Nat}(ao:k<l.length):jL W aE can arg path (l.drop k) cn no=jL W aE can arg path (l.getD k default::l.drop (k+1)) cn no:=by
 rw[List.drop_eq_getElem_cons ao,wm ao]
theorem afR{aE:Value->cm}{arg:Int}{path r:List Int}{cn no:Nat}(h:(bif (aE (b2 arg (path++[s]))).hE then !can (path++[s]) else false)=false)(ab:(aE (b2 arg (path++[s]))).hE=true):jL W aE can arg path r (cn ||| 2^(W.owner.getD s.toNat default).toNat) no=jL W aE can arg path (s::r) cn no:=by
 have ak:can (path++[s])=true:=by rw[ab] at h;simpa using h
 rw[jL];simp[ab,ak]
theorem afS{aE:Value->cm}{arg:Int}{path r:List Int}{cn no:Nat}(ab:(aE (b2 arg (path++[s]))).hE=false)(ae:can (path++[s])=false):jL W aE can arg path r cn (no ||| 2^(W.owner.getD s.toNat default).toNat)=jL W aE can arg path (s::r) cn no:=by
 rw[jL];simp[ab,ae]
theorem afT{aE:Value->cm}{arg:Int}{path r:List Int}{cn no:Nat}(ab:(aE (b2 arg (path++[s]))).hE=false)(ae:can (path++[s])=true):jL W aE can arg path r cn no=jL W aE can arg path (s::r) cn no:=by
 rw[jL];simp[ab,ae]
theorem Te{c rj r:Nat}(ak:c<3+W.parents.length)(h:pK W (3+W.parents.length - c) c rj=r):pK W (3+W.parents.length - (c+1)) (c+1) (if rj.testBit c then rj ||| (nP W).getD c 0 else rj)=r:=by
 obtain⟨q,bd⟩:∃q,3+W.parents.length - c=q+1:=⟨3+W.parents.length - c - 1,ad⟩;rw[bd,pK] at h;rw[show 3+W.parents.length - (c+1)=q from by omega];exact h
theorem afU{aE:Value->cm}{arg:Int}{path r:List Int}{cn no:Nat}(h:(bif (aE (b2 arg (path++[s]))).hE then !can (path++[s]) else false)=true):jL W aE can arg path (s::r) cn no=none:=by
 rw[uJ] at h;rw[jL];exact if_pos h
theorem afV{aE:Value->cm}{arg:Int}{path:List Int}(h:(bif bif bif (aE (b2 arg path)).whole then true else (aE (b2 arg path)).cn.testBit (Int.toNat 1) then true else (aE (b2 arg path)).cn.testBit (Int.toNat 2) then true else (aE (b2 arg path)).no.testBit (Int.toNat 0))=true):pL W aE can arg path=(0,false):=by
 simp only[e7] at h;rw[pL];exact if_pos h
theorem afW{aE:Value->cm}{arg:Int}{path:List Int}(h:jL W aE can arg path (aE (b2 arg path)).aJ (aE (b2 arg path)).cn (aE (b2 arg path)).no=none):pL W aE can arg path=(0,false):=by
 rw[pL,h];simp
theorem afX{aE:Value->cm}{arg:Int}{path:List Int}{cn no:Nat}(h:(bif bif bif (aE (b2 arg path)).whole then true else (aE (b2 arg path)).cn.testBit (Int.toNat 1) then true else (aE (b2 arg path)).cn.testBit (Int.toNat 2) then true else (aE (b2 arg path)).no.testBit (Int.toNat 0))=false)
  (aH:some (cn,no)=jL W aE can arg path (aE (b2 arg path)).aJ (aE (b2 arg path)).cn (aE (b2 arg path)).no):pL W aE can arg path=(lM (pK W W.parents.length 3 cn) 1,((lM (pK W W.parents.length 3 cn) 1 &&& no:Nat):Int)==0):=by
 simp only[e7] at h;rw[pL, <-aH];exact if_neg h3
theorem afY(a b:Nat):lM a b<18446744073709551616:=BitVec.isLt (w:=64) _
theorem afZ(hw:dm W=true){i:Nat}(av:i<W.owner.length):3<=W.owner.getD i default/\W.owner.getD i default<3+W.parents.length:=by
 simp only[dm,Bool.and_eq_true,List.all_eq_true] at hw;have:=hw.2 _ (hT av);simpa [vX] using this
theorem Tf:∀(l:List (List Int)) (i:Nat) (U:List Nat),(iy l i U).length=U.length
 | [],_,_=>rfl
 | x::r,i,U=>by rw[iy,Tf r];simp
theorem af0(W:bb):(nP W).length=63:=by rw[nP,Tf];rfl
theorem af1(mI:∀x∈U,x<18446744073709551616){i:Nat}(av:i<61)(l:List Int):p9 U i l<18446744073709551616:=by
 unfold p9;have:∀(l:List Int) (s:Nat),s<18446744073709551616->l.foldl (λs (p:Int)=>s ||| U.getD p.toNat 0) s<18446744073709551616:=by
  intro l
  induction l with
  | nil=>intro s aH;exact aH
  | cons p r bm=>intro s aH;exact bm _ (nh aH (wC mI _))
 exact this l _ (nh ad (rW ad))
theorem Tg:∀(l:List (List Int)) (i:Nat) (U:List Nat),i+l.length<=61->(∀x∈U,x<18446744073709551616)->∀x∈iy l i U,x<18446744073709551616
 | [],_,_,_,h=>h
 | y::r,i,U,av,h=>by
  rw[iy];simp only[List.length_cons] at av;exact Tg r (i+1) _ ad (IV h (af1 h ad y))
theorem Th(h:W.parents.length<=60):∀x∈nP W,x<18446744073709551616:=Tg _ _ _ ad e3
theorem af2{c:Nat}{q:Nat}(bd:q=c)(h:c<U.length):(List.drop q (List.drop 2 (dH W++U.map λs=>aa.set s)))[0]? =some (aa.set (U.getD c 0)):=by
 subst bd;rw[List.drop_drop,List.getElem?_drop];have:=IT (W:=W) (U:=U) (i:=q) h;rw[show 2+q+0=2+q from rfl];exact this
theorem af3{aE:Value->cm}(K:ri W aE)(hw:dm W=true){arg:Int}{path:List Int}(h:mN arg path)(can:List Int->Bool)(bm:∀s∈(aE (b2 arg path)).aJ,jf Tryz.prog [nn bo aE] 285 [jY W bo,aa.spot arg (path++[s])] (.b (can (path++[s])))):
  jf Tryz.prog [nn bo aE] 294 [jY W bo,aa.spot arg path] (.bJ [aa.set (pL W aE can arg path).1,.b (pL W aE can arg path).2]):=by
 intro H hm;refine bh (n:=136) Tryz.func294 λB I aO=>?_;have dD:=Bk hw;have iG:=wo hw;refine cw ?_;refine aG (af.jB .k (bO.refl _) (xj W bo aE arg path (tA h)) (λe he=>by repeat (first | exact hm e he | apply List.mem_cons_of_mem))) ?_;refine bI ?_;refine aq.bL mixed ?_;refine bk.b7 0 9 136 rfl ay rfl rfl ay ?_;refine p7 ?_;refine au.cb rfl rfl rfl rfl rfl rfl (λal=>af.call (.mk' rfl rfl rfl rfl dv) (D9 _ 1 ad (K.cn _))) ?_;refine bg ?_;refine au.cb rfl rfl rfl rfl rfl rfl (λal=>af.call (.mk' rfl rfl rfl rfl dv) (D9 _ 2 ad (K.cn _))) ?_;refine bg ?_;refine au.cb rfl rfl rfl rfl rfl rfl (λal=>af.call (.mk' rfl rfl rfl rfl dv) (D9 _ 0 ad (K.no _))) ?_;refine bg ?_;refine aq.cond rfl (λai=>?_) (λai=>?_)
 ·have B2:=afV (W:=W) (can:=can) ai;refine bs ?_;refine fR [.tmp 4,.tmp 5] (H) ?_;exact⟨by rw[B2];rfl,rfl⟩
 ·have ai:=ai;refine eb ?_;refine cq (λm st=>∃(k cn no:Nat),st=⟨[(47,.i k),(46,.i (aE (b2 arg path)).aJ.length),(45,aa.ints (aE (b2 arg path)).aJ),(7,aa.set cn),(8,aa.set no),(0,jY W bo),(3,.ptr (oK arg path))],H⟩/\m=(aE (b2 arg path)).aJ.length - k/\k<=(aE (b2 arg path)).aJ.length/\cn<18446744073709551616/\no<18446744073709551616/\jL W aE can arg path ((aE (b2 arg path)).aJ.drop k) cn no=jL W aE can arg path (aE (b2 arg path)).aJ (aE (b2 arg path)).cn (aE (b2 arg path)).no) (⟨0,_,_,rfl,rfl,Nat.zero_le _,K.cn _,K.no _,rfl⟩) ?_;rintro m _ ⟨k,cn,no,rfl,rfl,ao,E6,eF,aH⟩;refine aq.fi (t:=45) rfl (λtn=>?_);refine aT ?_;refine aZ (λab=>?_) λab=>?_
  ·refine cT ?_;have eY:(aE (b2 arg path)).aJ.getD k default∈(aE (b2 arg path)).aJ:=hT ad;have lE:=E4 K dD h eY;have eZ:=K.slot arg path h _ eY;have R5:=afZ hw (i:=((aE (b2 arg path)).aJ.getD k default).toNat) ad;refine bg ?_;refine aG (af.call .k (KI arg path ((aE (b2 arg path)).aJ.getD k default) lE.1)) ?_;refine au.cG rfl rfl rfl rfl (λfo=>?_);refine bI ?_;refine aq.bL mixed ?_;refine bk.b7 0 9 136 rfl ay rfl rfl ay ?_;refine bC ?_;refine bU.bB rfl rfl rfl (af.jB .k (bO.refl _) (xj W bo aE arg (path++[(aE (b2 arg path)).aJ.getD k default]) (tA lE.2)) (λe he=>by repeat (first | exact hm e he | apply List.mem_cons_of_mem))) ?_;refine bz ?_;refine bU.bB rfl rfl rfl (af.jB .k (bO.refl _) (bm _ eY) (λe he=>by repeat (first | exact hm e he | apply List.mem_cons_of_mem))) ?_;refine hB ?_;refine aq.cond rfl (λae=>?_) (λae=>?_)
   ·have B2:=afW (W:=W) (can:=can) (by rw[<-aH,E5 (l:=(aE (b2 arg path)).aJ) (k:=k) ad];exact afU ae);refine ev ?_;refine fR [.tmp 4,.tmp 5] (H) ?_;exact⟨by rw[B2];rfl,rfl⟩
   ·have ae:=ae;refine aT ?_;refine aZ (λaD=>?_) λaD=>?_
    ·refine ev ?_;refine aG (af.call .k ((wA _ _ ad ad))) ?_;refine bS ?_;exact bV (⟨k+1,cn ||| 2^(W.owner.getD ((aE (b2 arg path)).aJ.getD k default).toNat default).toNat,no,rfl,rfl,ad,nh E6 (rW ad),eF,by rw[<-aH,E5 (l:=(aE (b2 arg path)).aJ) (k:=k) ad];exact afR ae aD⟩)
    ·refine bn ?_;refine aZ (λaV=>?_) λaV=>?_
     ·refine ev ?_;refine aG (af.call .k ((wA _ _ ad ad))) ?_;refine bS ?_;exact bV (⟨k+1,cn,no ||| 2^(W.owner.getD ((aE (b2 arg path)).aJ.getD k default).toNat default).toNat,rfl,rfl,ad,E6,nh eF (rW ad),by rw[<-aH,E5 (l:=(aE (b2 arg path)).aJ) (k:=k) ad];exact afS (by simpa using aD) (by simpa using aV)⟩)
     ·refine bs ?_;exact bV (⟨k+1,cn,no,rfl,rfl,ad,E6,eF,by rw[<-aH,E5 (l:=(aE (b2 arg path)).aJ) (k:=k) ad];exact afT (by simpa using aD) (by simpa using aV)⟩)
  ·obtain rfl:k=(aE (b2 arg path)).aJ.length:=by omega
   rw[List.drop_length,jL] at aH;have B2:=afX (W:=W) (can:=can) ai aH;refine cT ?_;refine cq (λm st=>∃(c rj:Nat),st=⟨[(14,.i c),(7,aa.set rj),(8,aa.set no),(0,jY W bo),(3,.ptr (oK arg path))],H⟩/\m=3+W.parents.length - c/\3<=c/\c<=3+W.parents.length/\rj<18446744073709551616/\pK W (3+W.parents.length - c) c rj=pK W W.parents.length 3 cn) (⟨3,cn,rfl,rfl,ad,ad,E6,by rw[Nat.add_sub_cancel_left]⟩) ?_;rintro m _ ⟨c,rj,rfl,rfl,Jg,ak,KM,dp⟩;refine hB ?_;refine aZ (λbl=>?_) λbl=>?_
   ·refine bs ?_;refine aG (af.call .k ((D9 _ _ ad tK))) ?_;refine bC ?_;refine aZ (λcP=>?_) λcP=>?_
    ·refine c6 ?_;refine aG (af.eN rfl rfl rfl (af2 (c:=c) bj (by rw[af0];omega))) ?_;refine aG (af.bits rfl rfl rfl rfl rfl (vV _ _ KM (wC (Th iG) _))) ?_;refine bS ?_;exact bV (⟨c+1,rj ||| (nP W).getD c 0,rfl,rfl,ad,ad,nh KM (wC (Th iG) _),by have:=Te ad dp;rwa [if_pos (by simpa using cP)] at this⟩)
    ·refine bs ?_;exact bV (⟨c+1,rj,rfl,rfl,ad,ad,KM,by have:=Te ad dp;rwa [if_neg (by simpa using cP)] at this⟩)
   ·obtain rfl:c=3+W.parents.length:=by omega
    rw[Nat.sub_self,pK] at dp;refine bs ?_;refine aG (af.bits rfl rfl rfl rfl rfl (OC _ 1)) ?_;refine bs ?_;refine aG (af.bits rfl rfl rfl rfl rfl (AO _ _ (afY _ _) eF)) ?_;refine aT ?_;refine fR [.tmp 4,.tmp 5] (H) ?_;exact⟨by rw[B2, <-dp];rfl,rfl⟩
theorem Ti{aE:Value->cm}(K:ri W aE)(hw:dm W=true){arg:Int}{path:List Int}(h:mN arg path)(can:List Int->Bool)(bm:∀s∈(aE (b2 arg path)).aJ,jf Tryz.prog [nn bo aE] 285 [jY W bo,aa.spot arg (path++[s])] (.b (can (path++[s])))):
  jf Tryz.prog [nn bo aE] 285 [jY W bo,aa.spot arg path] (.b (xl aE arg path || xm aE arg path || (pL W aE can arg path).2)):=by
 intro H hm;refine bh (n:=28) Tryz.func285 λB I aO=>?_;have dD:=Bk hw;refine cw ?_;refine aG (af.jB .k (bO.refl _) (afP K dD h) (λe he=>by repeat (first | exact hm e he | apply List.mem_cons_of_mem))) ?_;refine ev ?_;refine au.cb rfl rfl rfl rfl rfl rfl (λal=>af.jB (.mk' rfl rfl rfl rfl dv) (bO.refl _) (afK K dD h) (λe he=>by repeat (first | exact hm e he | apply List.mem_cons_of_mem))) ?_;refine bg ?_;refine aq.cond rfl (λai=>?_) (λai=>?_)
 ·have aK:(xl aE arg path || xm aE arg path)=true:=by rw[e7] at ai;exact ai
  refine bn ?_;refine aS 4 (H) ?_;exact⟨bR (by rw[aK];rfl),rfl⟩
 ·have aK:(xl aE arg path || xm aE arg path)=false:=by rw[e7] at ai;exact ai
  refine aT ?_;refine aG (af.jB .k (bO.refl _) (af3 K hw h can bm) (λe he=>by repeat (first | exact hm e he | apply List.mem_cons_of_mem))) ?_;refine eb ?_;refine aS 4 (H) ?_;exact⟨bR (by rw[aK];rfl),rfl⟩
theorem KN{W:bb}{bo:Nat}{aE:Value->cm}(K:ri W aE)(hw:dm W=true){arg:Int}:∀(d:Nat) (path:List Int),mN arg path->path.length+d=2->jf Tryz.prog [nn bo aE] 285 [jY W bo,aa.spot arg path] (.b (se W aE d arg path))
 | 0,path,h,aN=>Ti K hw h (λ_=>false) (λs aH=>by rw[K.deep arg path h ad] at aH;cases aH)
 | d+1,path,h,aN=>Ti K hw h (se W aE d arg) (λs aH=>KN K hw d (path++[s]) (E4 K (Bk hw) h aH).2 dj)
abbrev fy(l:List Int):List (List aa):=l.map λn=>[aa.i n]
def pM(k:cm)(ho vs:Value):List aa:=[.i k.low,.i k.high,.val ho,aa.set k.cn,aa.set k.no,.b k.whole,.b k.hE,.val vs]
structure eM where
 key:Value
 aI:Nat
 aE:cm
 ho:Value
 vs:Value
def iA(vs:Value)(aJ:List Int):aj:=.row 3 1 vs (fy aJ).length (fy aJ).flatten
def eM.gR(e:eM):List aj:=[.aI e.aI 326 (pM e.aE e.ho e.vs),iA e.ho e.aE.c2,iA e.vs e.aE.aJ]
def gW(k:cm)(l:cD):cm:=
 if l.f.op=2 then (if l.neg then {k with no:=k.no ||| 2^l.f.cls.toNat} else {k with cn:=k.cn ||| 2^l.f.cls.toNat})
 else if l.f.op=3 then (if l.neg then {k with low:=(if l.f.n>k.low then l.f.n else k.low)} else {k with high:=(if l.f.n - 1<k.high then l.f.n - 1 else k.high),whole:=true})
 else if l.neg then {k with c2:=k.c2++[l.f.n]}
 else {k with low:=(if l.f.n>k.low then l.f.n else k.low),high:=(if l.f.n<k.high then l.f.n else k.high),whole:=true}
theorem Tj(v:Value)(l:List Int)(n:Int):iA v (l++[n])= .row 3 1 v ((fy l).length+1) ((fy l).flatten++[aa.i n]):=by
 simp[iA,fy]
structure n6(W:bb)(l:cD):Prop where
 op:2<=l.f.op/\l.f.op<=4
 cls:l.f.op=2->0<=l.f.cls/\l.f.cls<63
 n: -1000000000<=l.f.n/\l.f.n<=1000000000
 arg:0<=l.f.arg/\l.f.arg<3
 path:l.f.path.length<=2
 slot:∀s∈l.f.path,0<=s/\s<W.owner.length
 kids:l.f.kids= []
theorem af4{l:cD}(ax:n6 W l)(B aI:Nat)(k:cm)(ho vs:Value)(hm:k.cn<18446744073709551616)(eF:k.no<18446744073709551616)(N7:k.c2.length<=1000)(Hx:List aj):
  dC B Tryz.prog 291 [.p aI 0,aa.lit l] (.aI aI 326 (pM k ho vs)::iA ho k.c2::Hx) (λy H'=>∃Tk,y= .bJ []/\H'= .aI aI 326 (pM (gW k l) Tk vs)::iA Tk (gW k l).c2::Hx) (λ_ _=>False):=by
 refine dC.of (n:=130) Tryz.func291 rfl aM rfl rfl (λI aO=>?_);have uQ:=ax.cls;have hn:=ax.n;refine yk ?_;refine aZ (λai=>?_) λai=>?_
 ·refine aq.bL mixed ?_;refine bk.b7 0 9 130 rfl ay rfl rfl ay ?_;refine bs ?_;refine bU.bB rfl rfl rfl (af.call .k (wA _ l.f.cls (by simp_all;omega) eF)) ?_;refine bn ?_;refine aR.oY (rs:=[]) rfl (.nil) (bO.refl _) b8 ?_;exact⟨ho,rfl,by rw[show gW k l={k with no:=k.no ||| 2^l.f.cls.toNat} by simp_all [gW]];rfl⟩
 ·refine bS ?_;refine aZ (λab=>?_) λab=>?_
  ·refine aq.bL mixed ?_;refine bk.b7 0 9 130 rfl ay rfl rfl ay ?_;refine bs ?_;refine bU.bB rfl rfl rfl (af.call .k (wA _ l.f.cls (by simp_all;omega) hm)) ?_;refine bn ?_;refine aR.oY (rs:=[]) rfl (.nil) (bO.refl _) b8 ?_;exact⟨ho,rfl,by rw[show gW k l={k with cn:=k.cn ||| 2^l.f.cls.toNat} by simp_all [gW]];rfl⟩
  ·refine ev ?_;refine aZ (λae=>?_) λae=>?_
   ·refine aq.bL mixed ?_;refine bk.b7 0 10 130 rfl ay rfl rfl ay ?_;refine bS ?_;refine bU.bB rfl rfl rfl (af.max2 rfl rfl rfl rfl rfl rfl) ?_;refine bs ?_;refine aR.oY (rs:=[]) rfl (.nil) (bO.refl _) b8 ?_;exact⟨ho,rfl,by rw[show gW k l={k with low:=if l.f.n>k.low then l.f.n else k.low} by simp_all [gW]];rfl⟩
   ·refine bS ?_;refine aZ (λaD=>?_) λaD=>?_
    ·refine aq.bL mixed ?_;refine bk.Ns (λKO=>match KO with | 0=>(.aI aI 326 (pM k ho vs)::iA ho k.c2::Hx) | _=>(.aI aI 326 (pM {k with high:=(if l.f.n - 1<k.high then l.f.n - 1 else k.high)} ho vs)::iA ho k.c2::Hx)) [15] 0 16 130 rfl ay rfl rfl rfl ay rfl ?_;refine b6.bB 0 0 ay ay ay rfl rfl rfl (λj fv eB=>by rcases (show j=0 by omega) with rfl <;> exact (af.move rfl rfl rfl)) ?_;refine b6.bB 0 1 ay ay ay rfl rfl rfl (λj fv eB=>by rcases (show j=0\/j=1 by omega) with rfl | rfl <;> exact (af.move rfl rfl rfl)) ?_;refine b6.bB 0 0 ay ay ay rfl rfl rfl (λj fv eB=>by rcases (show j=0 by omega) with rfl <;> exact (af.move rfl rfl rfl)) ?_;refine b6.bB 0 0 ay ay ay rfl rfl rfl (λj fv eB=>by rcases (show j=0 by omega) with rfl <;> exact (hH)) ?_;refine b6.bB 0 0 ay ay ay rfl rfl rfl (λj fv eB=>by rcases (show j=0 by omega) with rfl <;> exact (cK)) ?_;refine b6.bB 0 0 ay ay ay rfl rfl rfl (λj fv eB=>by rcases (show j=0 by omega) with rfl <;> exact (cK)) ?_;refine b6.bB 0 0 ay ay ay rfl rfl rfl (λj fv eB=>by rcases (show j=0 by omega) with rfl <;> exact (dI)) ?_;refine b6.bB 0 0 ay ay ay rfl rfl rfl (λj fv eB=>by rcases (show j=0 by omega) with rfl <;> exact (cK)) ?_;refine b6.bB 0 0 ay ay ay rfl rfl rfl (λj fv eB=>by rcases (show j=0 by omega) with rfl <;> exact (cK)) ?_;refine b6.bB 0 0 ay ay ay rfl rfl rfl (λj fv eB=>by rcases (show j=0 by omega) with rfl <;> exact (dI)) ?_;refine b6.bB 0 0 ay ay ay rfl rfl rfl (λj fv eB=>by rcases (show j=0 by omega) with rfl <;> exact (af.arith rfl rfl rfl rfl rfl rfl (wrap64 ad))) ?_;refine b6.bB 0 0 ay ay ay rfl rfl rfl (λj fv eB=>by rcases (show j=0 by omega) with rfl <;> exact (af.min2 rfl rfl rfl rfl rfl rfl)) ?_;refine b6.bB 0 0 ay ay ay rfl rfl rfl (λj fv eB=>by rcases (show j=0 by omega) with rfl <;> exact (hH)) ?_;refine b6.bB 0 0 ay ay ay rfl rfl rfl (λj fv eB=>by rcases (show j=0 by omega) with rfl <;> exact (cK)) ?_;refine b6.bB 0 0 ay ay ay rfl rfl rfl (λj fv eB=>by rcases (show j=0 by omega) with rfl <;> exact (cK)) ?_;refine b6.j9 0 ay ay ay rfl rfl (.store rfl rfl rfl rfl rfl rfl rfl rfl pO fM fM) ?_;refine b6.nil ?_;refine aT ?_;refine aR.oY (rs:=[]) rfl (.nil) (bO.refl _) b8 ?_;exact⟨ho,rfl,by rw[show gW k l={k with high:=if l.f.n - 1<k.high then l.f.n - 1 else k.high,whole:=true} by simp_all [gW]];rfl⟩
    ·refine bn ?_;refine aZ (λaV=>?_) λaV=>?_
     ·refine aq.bL mixed ?_;refine bk.W1 (λv=>.aI aI 326 (pM k ho vs)::.row 3 1 v ((fy k.c2).length+1) ((fy k.c2).flatten++[aa.i l.f.n])::Hx) 126 10 0 11 130 rfl ay rfl rfl rfl ay ?_;refine b6.sU ay rfl rfl rfl rfl (λ_=>af.move rfl rfl rfl) ?_;refine b6.sT ay ay rfl rfl rfl (af.move rfl rfl rfl) ?_;refine b6.sT ay ay rfl rfl rfl (hH) ?_;refine b6.sT ay ay rfl rfl rfl (cK) ?_;refine b6.sT ay ay rfl rfl rfl (cK) ?_;refine b6.sT ay ay rfl rfl rfl (dI) ?_;refine b6.sT ay ay rfl rfl rfl (cK) ?_;refine b6.sT ay ay rfl rfl rfl (cK) ?_;refine b6.sT ay ay rfl rfl rfl (dI) ?_;refine b6.sT ay ay rfl rfl rfl (af.row rfl rfl c4 rfl rfl rfl rfl rfl rfl) ?_;refine b6.Hb ay ay rfl rfl rfl (λB I w r a hw az aA=>G8 (H':=λv=>.aI aI 326 (pM k ho vs)::.row 3 1 v ((fy k.c2).length+1) ((fy k.c2).flatten++[aa.i l.f.n])::Hx) (news:=[[aa.i l.f.n]]) rfl rfl rfl rfl rfl (aL.refl _) bj rfl (λv=>.tail _ _ _ _ _ (.head _ _ _)) dj dj hw az aA) ?_;refine b6.nil (λaf5=>?_);refine bI ?_;refine au.G9 (v:=af5) (.tail _ (.head _)) (λTl=>?_);apply au.j9 rfl rfl rfl rfl rfl rfl rfl (ud Tl) (Di Tl) rfl
      (case hu=>repeat (first | exact bu.head _ _ _ | apply bu.tail));(case hfit=>rfl);(case hds=>rfl)
      refine bC ?_;refine aR.oY (rs:=[]) rfl (.nil) (bO.refl _) b8 ?_;exact⟨_,rfl,by rw[show gW k l={k with c2:=k.c2++[l.f.n]} by simp_all [gW],Tj];rfl⟩
     ·refine aq.bL mixed ?_;refine bk.Ns (λKO=>match KO with | 0=>(.aI aI 326 (pM k ho vs)::iA ho k.c2::Hx) | 1=>(.aI aI 326 (pM {k with low:=(if l.f.n>k.low then l.f.n else k.low)} ho vs)::iA ho k.c2::Hx) | _=>(.aI aI 326 (pM {k with low:=(if l.f.n>k.low then l.f.n else k.low),high:=(if l.f.n<k.high then l.f.n else k.high)} ho vs)::iA ho k.c2::Hx)) [24,28] 0 29 130 rfl ay rfl rfl rfl ay rfl ?_;refine b6.bB 0 0 ay ay ay rfl rfl rfl (λj fv eB=>by rcases (show j=0 by omega) with rfl <;> exact (af.move rfl rfl rfl)) ?_;refine b6.bB 0 1 ay ay ay rfl rfl rfl (λj fv eB=>by rcases (show j=0\/j=1 by omega) with rfl | rfl <;> exact (af.move rfl rfl rfl)) ?_;refine b6.bB 0 2 ay ay ay rfl rfl rfl (λj fv eB=>by rcases (show j=0\/j=1\/j=2 by omega) with rfl | rfl | rfl <;> exact (af.move rfl rfl rfl)) ?_;refine b6.bB 0 0 ay ay ay rfl rfl rfl (λj fv eB=>by rcases (show j=0 by omega) with rfl <;> exact (af.move rfl rfl rfl)) ?_;refine b6.bB 0 0 ay ay ay rfl rfl rfl (λj fv eB=>by rcases (show j=0 by omega) with rfl <;> exact (hH)) ?_;refine b6.bB 0 0 ay ay ay rfl rfl rfl (λj fv eB=>by rcases (show j=0 by omega) with rfl <;> exact (cK)) ?_;refine b6.bB 0 0 ay ay ay rfl rfl rfl (λj fv eB=>by rcases (show j=0 by omega) with rfl <;> exact (cK)) ?_;refine b6.bB 0 0 ay ay ay rfl rfl rfl (λj fv eB=>by rcases (show j=0 by omega) with rfl <;> exact (dI)) ?_;refine b6.bB 0 0 ay ay ay rfl rfl rfl (λj fv eB=>by rcases (show j=0 by omega) with rfl <;> exact (cK)) ?_;refine b6.bB 0 0 ay ay ay rfl rfl rfl (λj fv eB=>by rcases (show j=0 by omega) with rfl <;> exact (cK)) ?_;refine b6.bB 0 0 ay ay ay rfl rfl rfl (λj fv eB=>by rcases (show j=0 by omega) with rfl <;> exact (dI)) ?_;refine b6.bB 0 0 ay ay ay rfl rfl rfl (λj fv eB=>by rcases (show j=0 by omega) with rfl <;> exact (af.max2 rfl rfl rfl rfl rfl rfl)) ?_;refine b6.bB 0 0 ay ay ay rfl rfl rfl (λj fv eB=>by rcases (show j=0 by omega) with rfl <;> exact (af.move rfl rfl rfl)) ?_;refine b6.bB 0 0 ay ay ay rfl rfl rfl (λj fv eB=>by rcases (show j=0 by omega) with rfl <;> exact (hH)) ?_;refine b6.bB 0 0 ay ay ay rfl rfl rfl (λj fv eB=>by rcases (show j=0 by omega) with rfl <;> exact (cK)) ?_;refine b6.bB 0 0 ay ay ay rfl rfl rfl (λj fv eB=>by rcases (show j=0 by omega) with rfl <;> exact (cK)) ?_;refine b6.bB 0 0 ay ay ay rfl rfl rfl (λj fv eB=>by rcases (show j=0 by omega) with rfl <;> exact (dI)) ?_;refine b6.bB 0 1 ay ay ay rfl rfl rfl (λj fv eB=>by rcases (show j=0\/j=1 by omega) with rfl | rfl <;> exact (cK)) ?_;refine b6.bB 0 1 ay ay ay rfl rfl rfl (λj fv eB=>by rcases (show j=0\/j=1 by omega) with rfl | rfl <;> exact (cK)) ?_;refine b6.bB 0 1 ay ay ay rfl rfl rfl (λj fv eB=>by rcases (show j=0\/j=1 by omega) with rfl | rfl <;> exact (dI)) ?_;refine b6.bB 0 1 ay ay ay rfl rfl rfl (λj fv eB=>by rcases (show j=0\/j=1 by omega) with rfl | rfl <;> exact (af.min2 rfl rfl rfl rfl rfl rfl)) ?_;refine b6.bB 0 0 ay ay ay rfl rfl rfl (λj fv eB=>by rcases (show j=0 by omega) with rfl <;> exact (hH)) ?_;refine b6.bB 0 0 ay ay ay rfl rfl rfl (λj fv eB=>by rcases (show j=0 by omega) with rfl <;> exact (cK)) ?_;refine b6.bB 0 0 ay ay ay rfl rfl rfl (λj fv eB=>by rcases (show j=0 by omega) with rfl <;> exact (cK)) ?_;refine b6.j9 0 ay ay ay rfl rfl (.store rfl rfl rfl rfl rfl rfl rfl rfl pO fM fM) ?_;refine b6.bB 1 1 ay ay ay rfl rfl rfl (λj fv eB=>by rcases (show j=1 by omega) with rfl <;> exact (hH)) ?_;refine b6.bB 1 1 ay ay ay rfl rfl rfl (λj fv eB=>by rcases (show j=1 by omega) with rfl <;> exact (cK)) ?_;refine b6.bB 1 1 ay ay ay rfl rfl rfl (λj fv eB=>by rcases (show j=1 by omega) with rfl <;> exact (cK)) ?_;refine b6.j9 1 ay ay ay rfl rfl (.store rfl rfl rfl rfl rfl rfl rfl rfl pO fM fM) ?_;refine b6.nil ?_;refine aT ?_;refine aR.oY (rs:=[]) rfl (.nil) (bO.refl _) b8 ?_;exact⟨ho,rfl,by rw[show gW k l={k with low:=if l.f.n>k.low then l.f.n else k.low,high:=if l.f.n<k.high then l.f.n else k.high,whole:=true} by simp_all [gW]];rfl⟩
def alw:Ren:={f:=λx=>match x with | 189=>176 | 125=>202 | 257=>201 | 128=>227 | 129=>228 | 294=>218 | 295=>219 | 296=>220 | 297=>221 | 298=>222 | 299=>223 | 216=>224 | 300=>225 | 301=>226 | 328=>246 | 329=>247 | 330=>248 | 331=>249 | 332=>250 | 215=>251 | 343=>264 | n=>n,t:=λx=>match x with | 28=>23 | 3=>3 | 46=>210 | 0=>0 | 51=>239 | 53=>183 | 4=>4 | 183=>265 | 182=>264 | 131=>138 | 5=>5 | 9=>9 | 218=>281 | 222=>146 | 228=>293 | 229=>294 | n=>n,g:=λx=>x}
def iB(l:List Int):List Int:=l.mergeSort λx y=>decide (x<=y)
theorem Tm(l:List Int):(fy l).flatten=(l.map (Value.int .i64)).map .val:=by
 induction l with
 | nil=>rfl
 | cons x r bm=>simp only[fy,List.map_cons,List.flatten_cons] at bm ⊢;rw[bm];rfl
theorem af6(B:Nat)(v:Value)(l:List Int)(ax:l.length<=1000)(Hx:List aj):dC B Tryz.prog 176 [.val v] (iA v l::Hx) (λy H'=>y= .bJ []/\H'=iA v (iB l)::Hx) (λ_ _=>False):=by
 refine⟨aM,λI w vs hw az aC=>?_⟩;obtain⟨u,rfl⟩:∃u,vs= [u]:=by cases aC with | cons _ u _ _ _ ht=>cases ht;exact⟨u,rfl⟩
 have hu:u=v:=by cases aC with | cons _ u _ _ ag _=>exact ct ag
 subst hu;obtain⟨xs,fx,vK,cu⟩:=az.ok _ (.head _);have yi:xs=l.map (Value.int .i64):=by
  rw[Tm] at vK;exact p1 vK
 subst yi;rcases fx.2 with⟨rfl,hn⟩ | ⟨g,cap,cur,rfl,hBg,al,kT,im,j6,j7⟩
 ·have:l= []:=by cases l with | nil=>rfl | cons x r=>simp[fy] at hn
  subst this;refine (Any.slices_Sort_int_none Ei none 0 w).mono λe w' ⟨he,dc⟩=>?_;subst dc;exact⟨I,_,hw,Ext.refl _ _ _,az,.inl ⟨_,_,he,.bJ _ _ .nil,rfl,by simp[iB]⟩⟩
 ·have hlen:(fy l).length=l.length:=by simp[fy]
  rw[hlen] at kT j7;rw[Nat.mul_one] at j7;have Bv:(iB l).length=l.length:=List.length_mergeSort _;refine ((hlen▸Any.slices_Sort_int Ei g 0 cap l w (holds_of_blockI al j7) (Array.getElem?_eq_some_iff.1 al).1 ad:Calls Tryz.prog 176 #[.slice (some ⟨g,0,none⟩) (fy l).length cap] w _)).mono λe w' ⟨he,n,os,dc⟩=>?_;have cN:w.grownBy w' (some g):=by subst dc;exact grownBy_sortedI _
  have aW:w'.ownsRow B 3 1 (.slice (some ⟨g,0,none⟩) l.length cap) l.length ((iB l).map (Value.int .i64)):=by
   subst dc;exact ownsRow_sortedI (ss:=l) Bv hBg al kT im j6
  have ov:Go.RowKit.Below B w w':=(Go.RowKit.Below.refl B w).grown cN hw.base (λj aU=>by cases aU;exact hBg);have m2:∀b i,I b i->w'.cell? ⟨b,i,none⟩=w.cell? ⟨b,i,none⟩:=λb i b4=>
   World.cell?_of_block (a:=⟨b,i,none⟩) (cN.block b (hw.lt b4) (λe=>by cases e;exact cu _ rfl i b4))
  have iS:fb I w I w':=⟨λ_ _ x=>x,m2⟩;refine⟨I,iA (.slice (some ⟨g,0,none⟩) (fy l).length cap) (iB l)::Hx,⟨Nat.le_trans hw.base ov.size,λb o b4=>by rw[m2 b o b4];exact hw.there b o b4⟩,⟨iS.j0,iS.cell,ov⟩,?_,.inl ⟨_,_,he,.bJ _ _ .nil,rfl,rfl⟩⟩;refine az.gH (.head _ _ _) iS (λb cO bq=>cN.block b cO (λe=>bq (by cases e;rfl))) (λb o ag=>.inl ag) ⟨(iB l).map (Value.int .i64),?_,?_,cu⟩ (λb aw=>.inl aw)
  ·rw[hlen,show (fy (iB l)).length=l.length by simp[fy,Bv]];exact aW
  ·rw[Tm];exact l1 _
def lY(K:List eM):List (Value×aa):=K.map λe=>(e.key,.p e.aI 0)
def rk(K:List eM):List aj:=K.flatMap eM.gR
def mO(bo:Nat)(ek:List eM)(e:eM)(cY:List eM)(Hx:List aj):List aj:=e.gR++(.map bo (lY (ek++e::cY))::(rk (ek++cY)++Hx))
def n7(bo:Nat)(K:List eM)(Hx:List aj):List aj:=.map bo (lY K)::(rk K++Hx)
theorem Tn(bo:Nat)(ek:List eM)(e:eM)(cY:List eM)(Hx:List aj):(n7 bo (ek++e::cY) Hx).Perm (mO bo ek e cY Hx):=by
 unfold n7 mO rk;simp only[List.flatMap_append,List.flatMap_cons];generalize e.gR=E;generalize aj.map bo _=m
 classical
 exact List.perm_iff_count.2 λa=>by simp only[List.count_append,List.count_cons];omega
structure kr(K:List eM)(aE:Value->cm):Prop where
 has:∀e∈K,aE e.key=e.aE
 none:∀v,(∀e∈K,e.key≠v)->aE v=lq
 js:∀e∈K,e0 Tryz.prog 318 e.key
 nodup:K.Pairwise λa b=>a.key≠b.key
structure AtR(K:List eM)(aE:Value->cm)(key:Value)(ek:List eM)(e:eM)(cY:List eM):Prop where
 E7:e.key=key
 To:e.aE=aE key
 rep:kr (ek++e::cY) aE
theorem kr.found{ek cY:List eM}{e:eM}{aE:Value->cm}(h:kr (ek++e::cY) aE):AtR (ek++e::cY) aE e.key ek e cY:=⟨rfl,(h.has e bj).symm,h⟩
theorem kr.new{K:List eM}{aE:Value->cm}{key:Value}(h:kr K aE)(al:e0 Tryz.prog 318 key)(hn:∀e∈K,e.key≠key)(e:eM)(ab:e.key=key)(ae:e.aE=lq):AtR K aE key K e []:=by
 have ai:aE key=lq:=h.none key hn;refine⟨ab,ae.trans ai.symm,⟨λx ag=>?_,λv aC=>h.none v λx ag=>aC x (by simp[ag]),λx ag=>?_,?_⟩⟩
 ·rcases List.mem_append.1 ag with ag | ag
  ·exact h.has x ag
  ·simp at ag;subst ag;rw[ab,ae,ai]
 ·rcases List.mem_append.1 ag with ag | ag
  ·exact h.js x ag
  ·simp at ag;subst ag;rw[ab];exact al
 ·rw[List.pairwise_append];refine⟨h.nodup,bj,λa bN b aw=>?_⟩;simp at aw;subst aw;rw[ab];exact hn a bN
open Classical in
noncomputable def updK (aE:Value->cm) (key:Value) (k:cm):Value->cm:=λv=>if v=key then k else aE v
theorem kr.gH{ek cY:List eM}{e e':eM}{aE:Value->cm}(h:kr (ek++e::cY) aE)(ao:e'.key=e.key):kr (ek++e'::cY) (updK aE e.key e'.aE):=by
 have aB:=List.pairwise_append.1 h.nodup;have s4:=List.pairwise_cons.1 aB.2.1;refine⟨λx ag=>?_,λv aC=>?_,λx ag=>?_,?_⟩
 ·unfold updK;rcases List.mem_append.1 ag with ag | ag
  ·rw[if_neg (aB.2.2 x ag e (.head _))];exact h.has x (by simp[ag])
  ·rcases List.mem_cons.1 ag with rfl | ag
   ·rw[if_pos ao]
   ·rw[if_neg (λq=>s4.1 x ag q.symm)];exact h.has x (by simp[ag])
 ·unfold updK;rw[if_neg (λq=>aC e' bj (ao.trans q.symm))];refine h.none v λx ag=>?_;rcases List.mem_append.1 ag with ag | ag
  ·exact aC x (by simp[ag])
  ·rcases List.mem_cons.1 ag with rfl | ag
   ·rw[<-ao];exact aC e' bj
   ·exact aC x (by simp[ag])
 ·rcases List.mem_append.1 ag with ag | ag
  ·exact h.js x (by simp[ag])
  ·rcases List.mem_cons.1 ag with rfl | ag
   ·rw[ao];exact h.js e bj
   ·exact h.js x (by simp[ag])
 ·rw[List.pairwise_append];refine⟨aB.1,List.pairwise_cons.2 ⟨λx ag=>by rw[ao];exact s4.1 x ag,s4.2⟩,λa bN b aw=>?_⟩;rcases List.mem_cons.1 aw with rfl | aw
  ·rw[ao];exact aB.2.2 a bN e (.head _)
  ·exact aB.2.2 a bN b (.tail _ aw)
theorem Tp{K:List eM}{aE:Value->cm}(h:kr K aE):∀p∈lY K,e0 Tryz.prog 318 p.1:=λp aB=>by
 obtain⟨e,he,rfl⟩:=List.mem_map.1 aB;exact h.js e he
theorem af7{K:List eM}{key:Value}{u:aa}(h:(key,u)∈lY K):∃ek e cY,K=ek++e::cY/\e.key=key/\u= .p e.aI 0:=by
 obtain⟨e,he,ae⟩:=List.mem_map.1 h;obtain⟨ek,cY,ca⟩:=List.append_of_mem he;cases ae;exact⟨ek,e,cY,ca,rfl,rfl⟩
theorem af8(a b c:aj)(R:List aj):(a::b::c::R).Perm (c::a::b::R):=(List.perm_middle (l₁:=[a,b]) (a:=c) (l₂:=R))
theorem Tq(B:Nat)(W:bb)(bo:Nat){K:List eM}{aE:Value->cm}(ca:kr K aE)(arg:Int)(path:List Int)(kB:e0 Tryz.prog 318 (b2 arg path))(Hx:List aj):
  dC B Tryz.prog 289 [jY W bo,aa.spot arg path] (n7 bo K Hx) (λy H'=>∃ek e cY,y= .p e.aI 0/\AtR K aE (b2 arg path) ek e cY/\H'=mO bo ek e cY Hx) (λ_ _=>False):=by
 refine dC.of (n:=28) Tryz.func289 rfl aM rfl rfl (λI aO=>?_);refine bn ?_;refine aq.bL mixed ?_;refine bk.b7 0 5 28 rfl ay rfl rfl ay ?_;refine bn ?_;refine au.WW (es:=lY K) (vs:=sc arg path) rfl rfl rfl rfl rfl rfl rfl rfl (aL.refl _) (.head _) kB (Tp ca) (λu hu=>?_) (λp2=>?_)
 ·obtain⟨ek,e,cY,rfl,mP,rfl⟩:=af7 hu;refine aT ?_;refine bk.b7 7 10 28 rfl ay rfl rfl ay ?_;refine fk ?_;refine aq.cond rfl (λai=>?_) (λai=>?_)
  ·exact absurd ai bj
  ·replace ai:=dZ ai;refine bS ?_;refine aR.perm (Tn bo ek e cY Hx) ?_;refine aR.c5 (rs:=[.tmp 4]) rfl (.tmp rfl (.nil)) (bO.refl _) lv ?_;exact⟨ek,e,cY,rfl,(show b2 arg path=e.key from mP.symm)▸ca.found,rfl⟩
 ·refine aT ?_;refine bk.b7 7 10 28 rfl ay rfl rfl ay ?_;refine fk ?_;refine aq.cond rfl (λab=>?_) (λab=>?_)
  ·replace ab:=dZ ab;refine bI ?_;refine au.tW rfl rfl rfl rfl rfl rfl rfl (λnb=>?_);refine bg ?_;refine aq.bL mixed ?_;refine bk.b7 0 6 28 rfl ay rfl rfl ay ?_;refine bs ?_;refine au.WX (es:=lY K) (vs:=sc arg path) rfl rfl rfl rfl rfl rfl rfl (aL.refl _) rfl rfl (.tail _ _ _ _ _ (.head _ _ _)) kB (Tp ca) p2 ?_;refine bS ?_;refine aR.Ak 3 1 ?_;refine aR.Ak 3 1 ?_;refine aR.perm (af8 _ _ _ _) ?_;refine aR.c5 (rs:=[.tmp 4]) rfl (.tmp rfl (.nil)) (bO.refl _) lv ?_;exact⟨K,⟨b2 arg path,nb,lq,.slice none 0 0,.slice none 0 0⟩,[],rfl,ca.new kB (λe he ao=>p2 (e.key,.p e.aI 0) (List.mem_map_of_mem he) ao) _ rfl rfl,by simp only[mO,lY,List.map_append,List.map_cons,List.map_nil,List.append_nil];rfl⟩
  ·exact absurd ab bj
theorem aq.kz{c:Ctx}{r:Option Nat}{P:Program}{st:dn}{Q:Exit->Act->World->Prop}{p:Code}{H':List aj}(aB:st.H=H')(h:aq c r P p ⟨st.env,H'⟩ Q):aq c r P p st Q:=aq.perm (.of_eq aB) h
theorem af9(x:aj)(bo:Nat)(ek:List eM)(e:eM)(cY:List eM)(Hx:List aj):(x::mO bo ek e cY Hx).Perm (n7 bo (ek++e::cY) (x::Hx)):=by
 unfold n7 mO rk;simp only[List.flatMap_append,List.flatMap_cons];generalize e.gR=E;generalize aj.map bo _=m
 classical
 exact List.perm_iff_count.2 λa=>by simp only[List.count_append,List.count_cons];omega
theorem KP(x:aj)(bo:Nat)(K:List eM)(Hx:List aj):(x::n7 bo K Hx).Perm (n7 bo K (x::Hx)):=by
 unfold n7;generalize aj.map bo _=m
 classical
 exact List.perm_iff_count.2 λa=>by simp only[List.count_append,List.count_cons];omega
theorem Tr(x:aj)(bo:Nat)(ek:List eM)(e:eM)(cY:List eM)(Hx:List aj):(mO bo ek e cY (x::Hx)).Perm (x::mO bo ek e cY Hx):=by
 unfold mO;generalize e.gR=E;generalize aj.map bo _=m
 classical
 exact List.perm_iff_count.2 λa=>by simp only[List.count_append,List.count_cons];omega
theorem E8{ek:List eM}{e e':eM}{cY:List eM}(ab:e'.key=e.key)(ae:e'.aI=e.aI):mO bo ek e' cY Hx=e'.gR++(.map bo (lY (ek++e::cY))::(rk (ek++cY)++Hx)):=by
 unfold mO lY;simp only[List.map_append,List.map_cons,ab,ae]
def jM(l:cD)(k:cm):cm:={k with hE:=bif k.hE then true else !l.neg}
def oL(s:Int)(k:cm):cm:=if k.aJ.contains s then k else {k with aJ:=iB (k.aJ++[s])}
noncomputable def walkK (l:cD):(Value->cm)->List Int->List Int->(Value->cm)
 | aE,_,[]=>aE
 | aE,pre,s::r=>
  let kn1:=updK aE (b2 l.f.arg pre) (oL s (aE (b2 l.f.arg pre)))
  walkK l (updK kn1 (b2 l.f.arg (pre++[s])) (jM l (kn1 (b2 l.f.arg (pre++[s]))))) (pre++[s]) r
noncomputable def xn (aE:Value->cm) (l:cD):Value->cm:=updK aE (b2 l.f.arg []) (jM l (aE (b2 l.f.arg [])))
noncomputable def addK (aE:Value->cm) (l:cD):Value->cm:=
 updK (walkK l (xn aE l) [] l.f.path) (b2 l.f.arg l.f.path) (gW (walkK l (xn aE l) [] l.f.path (b2 l.f.arg l.f.path)) l)
structure oM(n:Nat)(k:cm):Prop where
 cn:k.cn<18446744073709551616
 no:k.no<18446744073709551616
 c2:k.c2.length<=n
 aJ:k.aJ.length<=n
def ei(n:Nat)(aE:Value->cm):Prop:=∀v,oM n (aE v)
theorem ei.gH{n:Nat}{aE:Value->cm}(h:ei n aE){k:cm}(ao:oM n k)(key:Value):ei n (updK aE key k):=λv=>by
 unfold updK;split
 ·exact ao
 ·exact h v
theorem oM.mono{n m:Nat}(h:oM n k)(hm:n<=m):oM m k:=⟨h.cn,h.no,Nat.le_trans h.c2 hm,Nat.le_trans h.aJ hm⟩
theorem ei.mono{n m:Nat}{aE:Value->cm}(h:ei n aE)(hm:n<=m):ei m aE:=λv=>(h v).mono hm
theorem oM.y3{n:Nat}(h:oM n k)(l:cD):oM n (jM l k):=⟨h.cn,h.no,h.c2,h.aJ⟩
theorem oM.slot{n:Nat}(h:oM n k)(s:Int):oM (n+1) (oL s k):=by
 unfold oL;split
 ·exact h.mono ad
 ·exact⟨h.cn,h.no,Nat.le_trans h.c2 ad,by show (iB _).length<=_;unfold iB;rw[List.length_mergeSort];simp;exact h.aJ⟩
theorem oM.ask{n:Nat}(h:oM n k){l:cD}(ax:n6 W l):oM (n+1) (gW k l):=by
 have cf:=h.mono (Nat.le_succ n);unfold gW;split
 ·rename_i ae;have:=ax.cls ae;split
  ·exact⟨cf.cn,nh cf.no (rW ad),cf.c2,cf.aJ⟩
  ·exact⟨nh cf.cn (rW ad),cf.no,cf.c2,cf.aJ⟩
 ·split
  ·split
   ·exact⟨cf.cn,cf.no,cf.c2,cf.aJ⟩
   ·exact⟨cf.cn,cf.no,cf.c2,cf.aJ⟩
  ·split
   ·exact⟨cf.cn,cf.no,by simp;exact h.c2,cf.aJ⟩
   ·exact⟨cf.cn,cf.no,cf.c2,cf.aJ⟩
theorem KQ(k:cm)(l:cD):(gW k l).aJ=k.aJ:=by
 unfold gW;split <;> split <;> first | rfl | (split <;> rfl)
theorem kr.B3{ek cY:List eM}{e e':eM}{aE:Value->cm}{key:Value}(h:kr (ek++e::cY) aE)(ao:e'.key=e.key)(mP:e.key=key){k:cm}(iS:e'.aE=k):kr (ek++e'::cY) (updK aE key k):=by
 subst mP;subst iS;exact h.gH ao
theorem kr.aE{ek cY:List eM}{e:eM}{aE:Value->cm}{key:Value}(h:kr (ek++e::cY) aE)(mP:e.key=key):e.aE=aE key:=by subst mP;exact (h.has e bj).symm
theorem aga{l:cD}(ax:n6 W l)(dD:W.owner.length<=40)(B bo:Nat){K:List eM}{aE:Value->cm}(ca:kr K aE){n:Nat}(bE:ei n aE)(hn:n<=900)(Hx:List aj):
  dC B Tryz.prog 284 [jY W bo,aa.lit l] (n7 bo K Hx) (λy H'=>∃qM,y= .bJ []/\kr qM (addK aE l)/\ei (n+3) (addK aE l)/\H'=n7 bo qM Hx) (λ_ _=>False):=by
 refine dC.of (n:=79) Tryz.func284 rfl aM rfl rfl (λI aO=>?_);have Ts:∀j,mN l.f.arg (l.f.path.take j):=λj=>⟨ax.arg.1,by have:=ax.arg.2;omega,by have:=ax.path;rw[List.length_take];omega,λs aH=>by have:=ax.slot s (List.mem_of_mem_take aH);omega⟩;have hL:=ax.path;refine cw ?_;refine au.cG rfl rfl rfl rfl (λfh=>?_);refine bn ?_;refine au.perm (KP _ _ _ _) ?_;refine dE .k (Tq B W bo ca l.f.arg [] (tA (Ts 0)) (.aI fh 318 (oK l.f.arg [])::Hx)) ?_;rintro y H1 ⟨ek,e,cY,rfl,cy,rfl⟩;refine au.perm (Tr _ _ _ _ _ _) ?_;refine oz ?_;have agb:kr (ek++{e with aE:=jM l e.aE}::cY) (xn aE l):=cy.rep.B3 (e':={e with aE:=jM l e.aE}) rfl cy.E7 (by rw[cy.To]);have agc:ei n (xn aE l):=bE.gH ((bE _).y3 l) _;refine aq.kz (H':=.aI fh 318 (oK l.f.arg [])::mO bo ek {e with aE:=jM l e.aE} cY Hx) (congrArg (List.cons _) (E8 (e:=e) (e':={e with aE:=jM l e.aE}) rfl rfl).symm) ?_;refine bS ?_;refine cq (λm st=>∃(j:Nat) (ek:List eM) (e:eM) (cY:List eM) (u0:Value->cm),st=⟨[(31,.i j),(30,.i l.f.path.length),(29,aa.ints l.f.path),(5,.p e.aI 0),(4,.p fh 0),(0,jY W bo),(3,.ptr (qX l))],.aI fh 318 (oK l.f.arg (l.f.path.take j))::mO bo ek e cY Hx⟩/\m=l.f.path.length - j/\j<=l.f.path.length/\kr (ek++e::cY) u0/\e.key=b2 l.f.arg (l.f.path.take j)/\ei (n+j) u0/\walkK l u0 (l.f.path.take j) (l.f.path.drop j)=walkK l (xn aE l) [] l.f.path) (⟨0,ek,_,cY,xn aE l,rfl,rfl,Nat.zero_le _,agb,cy.E7,agc,rfl⟩) ?_;rintro m _ ⟨j,ek,e,cY,u0,rfl,rfl,aU,hR,mP,zk,KR⟩;refine aq.fi (t:=29) rfl (λtn=>?_);refine aT ?_;refine aZ (λai=>?_) λai=>?_
 ·have c3:j<l.f.path.length:=by omega
  obtain⟨s,aH⟩:∃s,s=l.f.path.getD j default:=⟨_,rfl⟩;have eY:s∈l.f.path:=by rw[aH];exact hT c3
  have p4:=ax.slot s eY;have j7:l.f.path.take (j+1)=l.f.path.take j++[s]:=by rw[List.take_succ_eq_append_getElem c3,aH,wm c3]
  have yD:l.f.path.drop j=s::l.f.path.drop (j+1):=by rw[List.drop_eq_getElem_cons c3,aH,wm c3]
  have xG:=hR.aE mP;refine cw ?_;refine aq.oV (λst=>∃a6:eM,st=⟨[(7,.i s),(31,.i j),(30,.i l.f.path.length),(29,aa.ints l.f.path),(5,.p a6.aI 0),(4,.p fh 0),(0,jY W bo),(3,.ptr (qX l))],.aI fh 318 (oK l.f.arg (l.f.path.take j))::mO bo ek a6 cY Hx⟩/\kr (ek++a6::cY) (updK u0 (b2 l.f.arg (l.f.path.take j)) (oL s (u0 (b2 l.f.arg (l.f.path.take j)))))) ?_ ?_
  ·refine bt ?_;have I3:aa.i (l.f.path.getD j default)=aa.i s:=by rw[aH]
   rw[<-aH];refine aT ?_;refine aG (af.sR .k (gb.row (pre:=[]) (post:=[.i s]) (t:=3) (.tail _ (.tail _ (.tail _ (.head _)))) (by simp[fy])) (IU e.aE.aJ s)) ?_;refine bg ?_;refine aZ (λab=>?_) λab=>?_
   ·refine bs ?_;refine aG (af.row rfl rfl c4 rfl rfl rfl rfl rfl rfl) ?_;refine au.Dh (news:=[[aa.i s]]) rfl rfl rfl rfl rfl rfl rfl rfl (aL.refl _) bj rfl (λv=>by repeat (first | exact bu.head _ _ _ | apply bu.tail)) F0 F0 (λv49=>?_);refine bC ?_;refine au.G9 (v:=v49) (.tail _ (.tail _ (.tail _ (.head _)))) (λTt=>?_);apply au.j9 rfl rfl rfl rfl rfl rfl rfl (ud Tt) (Di Tt) rfl
    (case hu=>repeat (first | exact bu.head _ _ _ | apply bu.tail));(case hfit=>rfl);(case hds=>rfl)
    refine bn ?_;refine au.kz (H':=.aI fh 318 (oK l.f.arg (l.f.path.take j))::.aI e.aI 326 (pM e.aE e.ho v49)::iA e.ho e.aE.c2::iA v49 (e.aE.aJ++[s])::.map bo (lY (ek++e::cY))::(rk (ek++cY)++Hx)) (by rw[Tj];rfl) ?_;refine au.perm (List.perm_middle (l₁:=[_,_,_])) ?_;refine dE .k (af6 B v49 (e.aE.aJ++[s]) F0 _) ?_;rintro y H1 ⟨rfl,rfl⟩;refine au.perm (List.perm_middle (l₁:=[_,_,_])).symm ?_;refine bt ?_;refine aR.perm (H':=.aI fh 318 (oK l.f.arg (l.f.path.take j))::mO bo ek {e with aE:={e.aE with aJ:=iB (e.aE.aJ++[s])},vs:=v49} cY Hx) (.of_eq (congrArg (List.cons _) (E8 (e:=e) (e':={e with aE:={e.aE with aJ:=iB (e.aE.aJ++[s])},vs:=v49}) rfl rfl).symm)) ?_;exact gm ⟨{e with aE:={e.aE with aJ:=iB (e.aE.aJ++[s])},vs:=v49},rfl,hR.B3 (e':={e with aE:={e.aE with aJ:=iB (e.aE.aJ++[s])},vs:=v49}) rfl mP (by rw[<-xG,oL,if_neg pQ])⟩
   ·refine bt ?_;exact gm ⟨e,rfl,hR.B3 rfl mP (by rw[<-xG,oL,if_pos pQ])⟩
  ·rintro _ ⟨a6,rfl,s5⟩;have Tu:ei (n+j+1) (updK u0 (b2 l.f.arg (l.f.path.take j)) (oL s (u0 (b2 l.f.arg (l.f.path.take j))))):=(zk.mono (Nat.le_succ _)).gH ((zk _).slot s) _;refine bI ?_;refine aG (af.call .k (KI l.f.arg (l.f.path.take j) s Mq)) ?_;refine bn ?_;refine au.perm (af9 _ _ _ _ _ _) ?_;refine dE .k (Tq B W bo s5 l.f.arg (l.f.path.take j++[s]) (tA (j7▸Ts (j+1))) (.aI fh 318 (oK l.f.arg (l.f.path.take j++[s]))::Hx)) ?_;rintro y H1 ⟨Tv,aW,Tw,rfl,wF,rfl⟩;refine au.perm (Tr _ _ _ _ _ _) ?_;refine ma ?_;refine aq.kz (H':=.aI fh 318 (oK l.f.arg (l.f.path.take j++[s]))::mO bo Tv {aW with aE:=jM l aW.aE} Tw Hx) (congrArg (List.cons _) (E8 (e:=aW) (e':={aW with aE:=jM l aW.aE}) rfl rfl).symm) ?_;have rP:=wF.rep.B3 (e':={aW with aE:=jM l aW.aE}) rfl wF.E7 (by rw[wF.To]);have Tx:=wF.E7;have KT:=KR;rw[yD,walkK] at KT;rw[<-j7] at Tx KT rP ⊢;refine bI ?_;exact bV (⟨j+1,Tv,{aW with aE:=jM l aW.aE},Tw,_,rfl,rfl,ad,rP,Tx,Tu.gH ((Tu _).y3 l) _,KT⟩)
 ·obtain rfl:j=l.f.path.length:=by omega
  rw[List.drop_length,walkK] at KR;rw[List.take_length] at mP ⊢;subst KR;have xG:=hR.aE mP;have yZ:=zk (b2 l.f.arg l.f.path);have E9:=yZ;rw[<-xG] at E9;refine bs ?_;refine au.perm (List.perm_middle (l₁:=[_,_])).symm ?_;refine dE .k (af4 ax B e.aI e.aE e.ho e.vs E9.cn E9.no (by have:=E9.c2;omega) _) ?_;rintro y H1 ⟨Fa,rfl,rfl⟩;refine bt ?_;refine aR.perm (H':=.aI fh 318 (oK l.f.arg l.f.path)::mO bo ek {e with aE:=gW e.aE l,ho:=Fa} cY Hx) (by rw[E8 (e:=e) (e':={e with aE:=gW e.aE l,ho:=Fa}) rfl rfl];simp only[eM.gR,KQ];exact (List.perm_middle (l₁:=[_,_]))) ?_;refine aR.perm ((Tn bo ek _ cY Hx).symm.cons _) ?_;refine aR.oY (rs:=[]) rfl (.nil) (bO.refl _) (by exact List.Sublist.cons _ (List.Sublist.refl _)) ?_;exact⟨ek++{e with aE:=gW e.aE l,ho:=Fa}::cY,rfl,hR.B3 (e':={e with aE:=gW e.aE l,ho:=Fa}) rfl mP (by rw[<-xG]),(zk.mono (show n+l.f.path.length<=n+3 by omega)).gH ((yZ.ask ax).mono ad) _,rfl⟩
theorem br.head{B:Nat}{I:a8}{w:World}{H:List aj}{e e':aj}(az:br B I w (e::H))(h:e.ok B I w->e'.ok B I w)(aP:e'.eX=e.eX):br B I w (e'::H):=by
 refine⟨λf hm=>?_,List.pairwise_cons.2 ⟨λf zL b aw=>(List.pairwise_cons.1 az.apart).1 f zL b (by rw[<-aP];exact aw),(List.pairwise_cons.1 az.apart).2⟩⟩;rcases List.mem_cons.1 hm with rfl | hm
 ·exact h (az.ok _ (.head _))
 ·exact az.ok f (.tail _ hm)
theorem bZ.replace{I:a8}{x y:aa}(h:∀v,Rel I w x v->Rel I w y v):∀{xs ys:List aa} {vs:List Value},bZ I w (xs++x::ys) vs->bZ I w (xs++y::ys) vs:=λ{xs ys vs} aK=>by
 obtain⟨us,bY,rfl,ab,ae⟩:=aK.sS;cases ae with
 | cons _ v _ bY ag ht=>exact ab.append (.cons _ _ _ _ (h v ag) ht)
theorem DB{B:Nat}{w:World}{bo:Nat}{Hx:List aj}:∀(K:List eM) (D:List (Value×aa)) {I:a8},ck B I w->br B I w (.map bo (D++lY K)::(rk K++Hx))->
  ∃J,ck B J w/\Ext B I w J w/\br B J w (.map bo (D++K.map λe=>(e.key,aa.ptr (n5 e.aE)))::Hx)
 | [],D,I,hw,az=>⟨I,hw,Ext.refl _ _ _,by simpa [lY,rk] using az⟩
 | e::K,D,I,hw,az=>by
  have aB:(aj.map bo (D++lY (e::K))::(rk (e::K)++Hx)).Perm (iA e.vs e.aE.aJ::iA e.ho e.aE.c2::.aI e.aI 326 (pM e.aE e.ho e.vs)::.map bo (D++lY (e::K))::(rk K++Hx)):=by
   unfold rk;simp only[List.flatMap_cons,eM.gR]
   classical
   exact List.perm_iff_count.2 λa=>by simp only[List.count_append,List.count_cons,List.count_nil];omega
  obtain⟨alx,cI,a2,a3,a4⟩:=br.qN hw (az.perm aB) (by simp[fy]);obtain⟨aly,kd,kf,vR,HS⟩:=br.qN cI a3 (by simp[fy]);obtain⟨alz,hA,jQ,BB,sf⟩:=br.WY (ds:=n5 e.aE) kd vR (λvs aC=>by
   unfold pM at aC;have ab:=bZ.replace (xs:=[_,_]) (y:=aa.ints e.aE.c2) (λv h=>by rw[ct h];exact HS) aC;have ae:=bZ.replace (xs:=[_,_,_,_,_,_,_]) (y:=aa.ints e.aE.aJ) (λv h=>by rw[ct h];exact a4.bQ kf.keeps) ab;exact ae)
  have aN:=br.head BB (e':=.map bo (D++(e.key,aa.ptr (n5 e.aE))::lY K)) (λ⟨dg,⟨cv,dS,dh,ea,gP⟩,jA⟩=>⟨dg,⟨cv,dS,dh,by rw[ea];simp[lY],by
   simp only[lY,List.map_append,List.map_cons] at gP ⊢;exact bZ.replace (λv h=>by rw[ct h];exact sf) gP⟩,jA⟩) rfl
  rw[show D++(e.key,aa.ptr (n5 e.aE))::lY K=(D++[(e.key,aa.ptr (n5 e.aE))])++lY K by simp] at aN;obtain⟨J,d1,d2,d3⟩:=DB K _ hA aN;exact⟨J,d1,a2.trans (kf.trans (jQ.trans d2)),by simpa using d3⟩
theorem Sat.KU{c:Ctx}{K:List eM}{aE:Value->cm}(ca:kr K aE)(s:Sat c ⟨env,n7 bo K Hx⟩ a w):Sat c ⟨env,nn bo aE::Hx⟩ a w:=by
 obtain⟨I,hw,he,az,aC⟩:=s.mem;obtain⟨J,ab,ae,aD⟩:=DB K [] hw (by simpa [n7] using az);refine⟨s.ds,s.size,J,ab,he.trans ae,aD.lazy (λp aB=>?_) (λv _ aC=>?_),aC.bQ ae.keeps⟩
 ·obtain⟨e,Ty,rfl⟩:=List.mem_map.1 aB;exact⟨ca.js e Ty,by rw[ca.has e Ty]⟩
 ·rw[ca.none v (λe he mP=>aC (e.key,aa.ptr (n5 e.aE)) (by simpa using⟨e,he,rfl,rfl⟩) mP)]
theorem aq.KU{c:Ctx}{r:Option Nat}{P:Program}{p:Code}{Q:Exit->Act->World->Prop}{env:List (Nat×aa)}{bo:Nat}{K:List eM}{aE:Value->cm}{Hx:List aj}(ca:kr K aE)(h:aq c r P p ⟨env,nn bo aE::Hx⟩ Q):aq c r P p ⟨env,n7 bo K Hx⟩ Q:=λa w s=>h a w (Sat.KU ca s)
noncomputable def stageK (ls:List cD):Value->cm:=ls.foldl addK (λ_=>lq)
theorem agd{j:Nat}(h:j<ls.length):addK (stageK (ls.take j)) (ls.getD j default)=stageK (ls.take (j+1)):=by
 rw[List.take_succ_eq_append_getElem h,stageK,stageK,List.foldl_append,wm h];rfl
theorem age(ax:∀l∈ls,n6 W l)(dD:W.owner.length<=40)(hn:ls.length<=300)(B:Nat)(Hx:List aj):
  dC B Tryz.prog 278 [kg W,aa.lits ls] Hx (λy H'=>∃bo,y=jY W bo/\ei 900 (stageK ls)/\H'=nn bo (stageK ls)::Hx) (λ_ _=>False):=by
 refine dC.of (n:=23) Tryz.func278 rfl aM rfl rfl (λI aO=>?_);refine bs ?_;refine au.mkMap rfl rfl rfl rfl (λbo=>?_);refine bn ?_;refine aq.kz (H':=n7 bo [] Hx) rfl ?_;refine bn ?_;refine cq (λm st=>∃(j:Nat) (K:List eM),st=⟨[(14,.i j),(13,.i ls.length),(12,aa.lits ls),(5,jY W bo)],n7 bo K Hx⟩/\m=ls.length - j/\j<=ls.length/\kr K (stageK (ls.take j))/\ei (3*j) (stageK (ls.take j))) (⟨0,[],rfl,rfl,Nat.zero_le _,⟨bj,λ_ _=>rfl,bj,.nil⟩,λ_=>⟨by simp[stageK,lq],by simp[stageK,lq],by simp[stageK,lq],by simp[stageK,lq]⟩⟩) ?_;rintro m _ ⟨j,K,rfl,rfl,aU,ca,bE⟩;refine aq.fi (t:=12) rfl (λtn=>?_);refine aT ?_;refine aZ (λai=>?_) λai=>?_
 ·have c3:j<ls.length:=by omega
  refine bs ?_;refine au.cG rfl rfl rfl rfl (λfo=>?_);refine aT ?_;refine au.perm (KP _ _ _ _) ?_;refine dE .k (aga (ax _ (hT c3)) dD B bo ca bE ad _) ?_;rintro y H1 ⟨cY,rfl,Tz,TA,rfl⟩;refine au.perm (KP _ _ _ _).symm ?_;rw[agd c3] at Tz TA;refine bn ?_;exact bV (⟨j+1,cY,rfl,rfl,ad,Tz,TA.mono ad⟩)
 ·obtain rfl:j=ls.length:=by omega
  rw[List.take_length] at ca bE;refine aT ?_;refine aq.KU ca ?_;refine aT ?_;refine aR.c5 (rs:=[.tmp 4]) rfl (.tmp rfl (.nil)) (bO.refl _) lv ?_;exact⟨bo,rfl,bE.mono ad,rfl⟩
structure ks(W:bb)(aE:Value->cm):Prop where
 slot:∀v,∀s∈(aE v).aJ,0<=s/\s<W.owner.length
 deep:∀arg path,path.length=2->(aE (b2 arg path)).aJ= []
 low:∀v,-1000000000<=(aE v).low/\(aE v).low<=1000000000
theorem ks.gH{aE:Value->cm}(h:ks W aE){key:Value}{k:cm}(aH:∀s∈k.aJ,0<=s/\s<W.owner.length)(aN:∀arg path,path.length=2->b2 arg path=key->k.aJ= [])(ax: -1000000000<=k.low/\k.low<=1000000000):ks W (updK aE key k):=by
 refine⟨λv=>?_,λarg path aB=>?_,λv=>?_⟩ <;> unfold updK <;> split
 ·exact aH
 ·exact h.slot v
 ·rename_i e;exact aN arg path aB e
 ·exact h.deep arg path aB
 ·exact ax
 ·exact h.low v
theorem agf{a b:Int}{p q:List Int}(h:b2 a p=b2 b q):p.length=q.length:=by
 have ab:=congrArg (λv:Value=>match v with | .agg a=>(match a.toList[1]? with | some (Value.int _ n)=>n | _=>(0:Int)) | _=>(0:Int)) h;simp only[sc] at ab;have ae:(p.length:Int)=q.length:=ab;omega
theorem ks.y3{aE:Value->cm}(h:ks W aE)(l:cD)(key:Value):ks W (updK aE key (jM l (aE key))):=
 h.gH (h.slot key) (λarg path aB e=>by subst e;exact h.deep arg path aB) (h.low key)
theorem ks.agh{aE:Value->cm}(h:ks W aE){s:Int}(aH:0<=s/\s<W.owner.length)(arg:Int)(pre:List Int)(aB:pre.length<2):ks W (updK aE (b2 arg pre) (oL s (aE (b2 arg pre)))):=by
 refine h.gH ?_ (λalA alB uh e=>absurd (agf e) ad) ?_
 ·intro x ag;unfold oL at ag;split at ag
  ·exact h.slot _ x ag
  ·rcases List.mem_append.1 (List.mem_mergeSort.1 ag) with ag | ag
   ·exact h.slot _ x ag
   ·simp at ag;subst ag;exact aH
 ·unfold oL;split
  ·exact h.low _
  ·exact h.low (b2 arg pre)
theorem ks.walk{W:bb}{l:cD}:∀(r:List Int) {aE:Value->cm} (pre:List Int),ks W aE->(∀s∈r,0<=s/\s<W.owner.length)->pre.length+r.length<=2->ks W (walkK l aE pre r)
 | [],aE,pre,h,_,_=>h
 | s::r,aE,pre,h,aK,aB=>by
  rw[walkK];simp only[List.length_cons] at aB;exact ks.walk r (pre++[s]) ((h.agh (aK s (.head _)) _ pre ad).y3 l _) (λx ag=>aK x (.tail _ ag)) dj
theorem ks.add{aE:Value->cm}(h:ks W aE){l:cD}(ax:n6 W l):ks W (addK aE l):=by
 have ab:=ks.walk (l:=l) l.f.path [] (h.y3 l (b2 l.f.arg [])) ax.slot (by have:=ax.path;simp;omega);unfold addK;have hn:=ax.n;refine ab.gH (λs aH=>?_) (λarg path aB e=>?_) ?_
 ·rw[KQ] at aH;exact ab.slot _ s aH
 ·rw[KQ];rw[<-e];exact ab.deep arg path aB
 ·have:=ab.low (b2 l.f.arg l.f.path);have key:∀k:cm,-1000000000<=k.low/\k.low<=1000000000->-1000000000<=(gW k l).low/\(gW k l).low<=1000000000:=by
   intro k ao;unfold gW;split
   ·split <;> exact ao
   ·split
    ·split
     ·simp only[];split <;> omega
     ·exact ao
    ·split
     ·exact ao
     ·simp only[];split <;> omega
  exact key _ this
theorem ks.TB(ax:∀l∈ls,n6 W l):ks W (stageK ls):=by
 unfold stageK;have:∀(ls:List cD) (aE:Value->cm),ks W aE->(∀l∈ls,n6 W l)->ks W (ls.foldl addK aE):=by
  intro ls
  induction ls with
  | nil=>intro aE h _;exact h
  | cons l ls bm=>intro aE h ax;exact bm _ (h.add (ax l (.head _))) (λx ag=>ax x (.tail _ ag))
 exact this ls _ ⟨λv s aH=>by simp[lq] at aH,λ_ _ _=>rfl,λv=>by show -1000000000<=(-1000000000:Int)/\(-1000000000:Int)<=_;omega⟩ ax
theorem agi(ax:∀l∈ls,n6 W l)(aw:ei 900 (stageK ls)):ri W (stageK ls):=
 let h:=ks.TB ax
 ⟨λ_ _ _=>h.slot _,λarg path _ aB=>h.deep arg path aB,λv=>(aw v).cn,λv=>(aw v).no,λv=>by have:=h.low v;omega,λv=>by have:=(aw v).c2;omega⟩
def xo:Value:=.iface 305 (.agg #[])
theorem agj(w:World):(Instr.typeAssert xo 20 305 true).run Tryz.prog w= .ok (.tuple #[.agg #[],.bool true]) w:=by
 simp[Instr.typeAssert,xo,run_underlying (show Tryz.prog.underlying 305=some (.struct #[]) by kernel_rfl)]
theorem agk(w:World):(Instr.typeAssert .nilIface 20 305 true).run Tryz.prog w= .ok (.tuple #[.agg #[],.bool false]) w:=by
 have h:=Tryz.zeroValue305 w;simp[Instr.typeAssert,run_underlying (show Tryz.prog.underlying 305=some (.struct #[]) by kernel_rfl),h]
theorem agl(b:Nat)(x:Bool)(w:World)(ak:w.cell? ⟨b,0,none⟩=some (.bool x))(an:w.frozen? ⟨b,0,none⟩=false)(aw:b<w.heap.size):
  CallsDIn (Eng.bb none) 0 Tryz.prog 277 #[.pointer (some ⟨b,0,none⟩)] (.panicking [{v:=xo,recovered:=false}]) w λe u' w'=>
   e= .returned (.tuple #[])/\u'= .panicking [{v:=xo,recovered:=true}]/\w'=(w.alloc (.cells #[] 305)).setCell ⟨b,0,none⟩ (.bool false):=by
 have jx:(w.alloc (.cells #[] 305)).cell? ⟨b,0,none⟩=some (.bool x):=by rw[World.cell?_alloc_lt w _ ⟨b,0,none⟩ aw];exact ak
 have kM:(w.alloc (.cells #[] 305)).frozen? ⟨b,0,none⟩=false:=by rw[World.frozen?_of_block (Go.RowKit.Below.heap_alloc w _ b aw)];exact an
 refine callsDIn_of_wpSIn Tryz.func277 rfl trivial λBA cs hu=>?_;apply wpSIn_seq;apply wpSIn_region;have yJ:=λw=>agj w;simp[wpOpsSIn,go_sem,recoverD,hu,Tryz.ntmps277,Exit.thenS,Eng.bb,yJ];apply wpSIn_seq;apply wpSIn_region;simp[wpOpsSIn,go_sem,Exit.thenS];refine wpSIn_cond (t:=true) zn ?_;simp only[if_true];apply wpSIn_region;simp[wpOpsSIn,go_sem,jx,kM,bodyPostS,results,Tryz.results277]
theorem agm(b:Nat)(w:World):
  CallsDIn (Eng.bb none) 0 Tryz.prog 277 #[.pointer (some ⟨b,0,none⟩)] .returning w λe u' w'=>e= .returned (.tuple #[])/\u'= .returning/\w'=w.alloc (.cells #[] 305):=by
 refine callsDIn_of_wpSIn Tryz.func277 rfl trivial λBA cs hu=>?_;apply wpSIn_seq;apply wpSIn_region;have yJ:=λw=>agk w;simp[wpOpsSIn,go_sem,recoverD,hu,Tryz.ntmps277,Exit.thenS,Eng.bb,yJ];apply wpSIn_seq;apply wpSIn_region;simp[wpOpsSIn,go_sem,Exit.thenS];refine wpSIn_cond (t:=false) zn ?_;simp only[Bool.false_eq_true,if_false];refine wpSIn_of_wpIn rfl (wpIn_skip ?_);cases BA;simp_all [bodyPostS,results,Tryz.results277]
theorem TC{arg:Int}(h:0<=arg/\arg<3):mN arg []:=⟨h.1,ad,bj,bj⟩
def sg(W:bb)(aE:Value->cm)(n:Nat):Bool:=(List.range n).all λi=>se W aE 2 i []
theorem TD(W:bb)(aE:Value->cm)(n:Nat):sg W aE (n+1)=(sg W aE n && se W aE 2 n []):=by
 simp[sg,List.range_succ]
theorem agn:aa.is (.iface 305 (.agg [])) (.iface 305 (.agg #[])):=by
 intro I w u h;cases h with
 | iface _ _ v aC=>
  cases aC with
  | agg _ vs aK=>
   have:vs.toList= []:=List.eq_nil_of_length_eq_zero aK.length;rw[Array.toList_eq_nil_iff.1 this]
theorem ago{aE:Value->cm}(K:ri W aE)(hw:dm W=true)(fe:sg W aE 3=true):jf Tryz.prog [nn bo aE] 279 [jY W bo] (.bJ []):=by
 intro H hm;refine bh (n:=14) Tryz.func279 λB I aO=>?_;refine aT ?_;refine cq (λm st=>∃i:Nat,st=⟨[(3,.i i),(0,jY W bo)],H⟩/\m=3 - i/\i<=3/\sg W aE i=true) (⟨0,rfl,rfl,ad,rfl⟩) ?_;rintro m _ ⟨i,rfl,rfl,av,B4⟩;refine aT ?_;refine aZ (λai=>?_) λai=>?_
 ·refine fk ?_;refine aG (af.jB .k (bO.refl _) (KN K hw 2 [] (TC (arg:=i) ad) rfl) (λe he=>by repeat (first | exact hm e he | apply List.mem_cons_of_mem))) ?_;refine bg ?_;refine aq.cond rfl (λab=>?_) (λab=>?_)
  ·exfalso;simp only[sg,List.all_eq_true,List.mem_range] at fe;have:=fe i ad;rw[this] at ab;cases ab
  ·have ak:se W aE 2 i []=true:=by simpa using ab
   refine bn ?_;exact bV (⟨i+1,rfl,rfl,ad,by rw[TD,B4,ak];rfl⟩)
 ·refine bI ?_;refine jj [] (H) ?_;exact⟨rfl,rfl⟩
theorem agp{aE:Value->cm}(K:ri W aE)(hw:dm W=true)(fe:sg W aE 3=false)(B:Nat)(H:List aj)(hm:∀e∈ [nn bo aE],e∈H):An B Tryz.prog 279 [jY W bo] H xo:=by
 refine An.of (n:=14) Tryz.func279 rfl aM rfl rfl (λI aO=>?_);refine aT ?_;refine cq (λm st=>∃i:Nat,st=⟨[(3,.i i),(0,jY W bo)],H⟩/\m=3 - i/\i<=3/\sg W aE i=true) (⟨0,rfl,rfl,ad,rfl⟩) ?_;rintro m _ ⟨i,rfl,rfl,av,B4⟩;refine aT ?_;refine aq.cond rfl (λai=>?_) (λai=>?_)
 ·replace ai:=dZ ai;refine fk ?_;refine aG (af.jB .k (bO.refl _) (KN K hw 2 [] (TC (arg:=i) ad) rfl) (λe he=>by repeat (first | exact hm e he | apply List.mem_cons_of_mem))) ?_;refine bg ?_;refine aq.cond rfl (λab=>?_) (λab=>?_)
  ·replace ab:=dZ ab;refine bC ?_;refine aG (af.vL rfl rfl rfl aM) ?_;refine au.Nx rfl rfl rfl rfl agn ?_;intro a w s;exact W2 (P:=Tryz.prog) (fn:=Tryz.f279) s
  ·have ak:se W aE 2 i []=true:=by simpa using ab
   refine bn ?_;exact bV (⟨i+1,rfl,rfl,ad,by rw[TD,B4,ak];rfl⟩)
 ·exfalso;simp only[decide_eq_false_iff_not] at ai;obtain rfl:i=3:=by omega
  rw[fe] at B4;cases B4
noncomputable def togetherK (W:bb) (ls:List cD):Bool:=sg W (stageK ls) 3
def TE(tb:Nat):Deferred:={target:=.fn (.func 277) #[.pointer (some ⟨tb,0,none⟩)],args:=#[]}
theorem TF(aH:∃I,ck B I w/\Ext B cl aO I w/\br B I w (.aI tb 4 [.b x]::H)/\fs I w (aX env) a)(ht:aX env 4=some (.p tb 0)):
  LeavesIn (Eng.bb none) 0 Tryz.prog Tryz.f271 a.tmps (fD B cl aO (λy H'=>y= .b x/\H'=H) E) [] .returning w:=by
 obtain⟨I,hw,he,az,aC⟩:=aH;obtain⟨v,ab,ae⟩:=jy.res (P:=Tryz.prog) (c:=⟨B,cl,aO,0,[]⟩) (st:=⟨env,.aI tb 4 [.b x]::H⟩) az aC (fn:=Tryz.f271) (rs:=[.cell 4 4]) rfl (.Cl inferInstance ht (.head _) rfl .nil);exact⟨v,ab,I,H,hw,he,az.tail,.inl ⟨v,_,rfl,ae,rfl,rfl⟩⟩
theorem TG(tb:Nat)(w:World):(invoke (.fn (.func 277) #[.pointer (some ⟨tb,0,none⟩)]) #[]).run Tryz.prog w= .ok (.enter 277 #[.pointer (some ⟨tb,0,none⟩)]) w:=by
 have:nt Tryz.prog 277=true:=by kernel_rfl
 have h:=xQ this #[.pointer (some ⟨tb,0,none⟩)] w;simp[invoke]
theorem agq{n:Nat}(s:Sat ⟨B,cl,aO,n,[TE tb]⟩ ⟨env,.aI tb 4 [.b x]::H⟩ a w)(ht:aX env 4=some (.p tb 0)):
  bodyPostDIn (Eng.bb none) 0 Tryz.prog Tryz.f271 (fD B cl aO (λy H'=>y= .b x/\H'=H) E) .ret a w:=by
 show LeavesIn _ _ _ _ _ _ a.defers .returning w;rw[s.ds];refine leavesIn_cons (f:=277) (args:=#[.pointer (some ⟨tb,0,none⟩)]) bj (by simp[Eng.bb]) (TG tb w) (λ_ _=>trivial) ?_;refine (agm tb w).mono ?_;rintro e u' w' ⟨rfl,rfl,rfl⟩;obtain⟨I,hw,he,az,aC⟩:=s.mem;exact TF ⟨I,hw.alloc _,he.trans (kN hw _),az.alloc hw _,aC.bQ (mq hw _)⟩ ht
theorem agr{n:Nat}(s:Sat ⟨B,cl,aO,n,[TE tb]⟩ ⟨env,.aI tb 4 [.b x]::H⟩ a w)(ht:aX env 4=some (.p tb 0)):
  bodyPostDIn (Eng.bb none) 0 Tryz.prog Tryz.f271 (fD B cl aO (λy H'=>y= .b false/\H'=H) E) (.panic [{v:=xo,recovered:=false}]) a w:=by
 show LeavesIn _ _ _ _ _ _ a.defers (.panicking [{v:=xo,recovered:=false}]) w;rw[s.ds];obtain⟨I,hw,he,az,aC⟩:=s.mem;obtain⟨bE,vs,aw,aK,cu⟩:=az.ok _ (.head _);have dT:vs= #[.bool x]:=by
  have ab:=p1 (vs:=[.bool x]) aK;exact Array.toList_inj.1 ab
 subst dT;have cO:tb<w.heap.size:=(Array.getElem?_eq_some_iff.1 aw).1;refine leavesIn_cons (f:=277) (args:=#[.pointer (some ⟨tb,0,none⟩)]) bj (by simp[Eng.bb]) (TG tb w) (λ_ _=>trivial) ?_;refine (agl tb x w (by rw[kQ aw];rfl) (by simp[World.frozen?,aw]) cO).mono ?_;rintro e u' w' ⟨rfl,rfl,rfl⟩;have o0:=hw.alloc (.cells #[] 305);have vD:=az.alloc hw (.cells #[] 305);have gn:(w.alloc (.cells #[] 305)).heap[tb]? =some (.cells #[.bool x] 4 (0,0)):=by rw[Go.RowKit.Below.heap_alloc w _ tb cO];exact aw
 have k4:=mq hw (.cells #[] 305);have wL:=he.trans (kN hw (.cells #[] 305));have gI:=aC.bQ k4;generalize w.alloc (.cells #[] 305)=fA at*;have h4:(fA.setCell ⟨tb,0,none⟩ (.bool false)).heap[tb]? =some (.cells #[.bool false] 4 (0,0)):=one_setCell gn;have m2:∀b i,I b i->(fA.setCell ⟨tb,0,none⟩ (.bool false)).cell? ⟨b,i,none⟩=fA.cell? ⟨b,i,none⟩:=λb i b4=>
  World.cell?_of_block (a:=⟨b,i,none⟩) (Go.RowKit.Below.heap_setCell _ _ _ _ (λe=>cu i (by rw[<-(show b=tb from e)];exact b4)))
 have gD:fb I fA I (fA.setCell ⟨tb,0,none⟩ (.bool false)):=⟨λ_ _ h=>h,m2⟩;have ov:=(Go.RowKit.Below.refl B fA).setCell (p:=⟨tb,0,none⟩) bE (.bool false);exact TF (x:=false) (env:=env) ⟨I,⟨Nat.le_trans o0.base ov.size,λb i b4=>by rw[m2 b i b4];exact o0.there b i b4⟩,wL.trans ⟨λ_ _ h=>h,m2,ov⟩,
  vD.gH (.head _ _ _) gD (λb _ bq=>Go.RowKit.Below.heap_setCell _ _ _ _ (λe=>bq (by rw[show b=tb from e];rfl))) (λ_ _ h=>.inl h) ⟨bE,#[.bool false],h4,.cons _ _ _ _ (.val _) .nil,cu⟩ (λ_ h=>.inl h),gI.bQ gD⟩ ht
theorem ags(hw:dm W=true){ls:List cD}(ax:∀l∈ls,n6 W l)(hn:ls.length<=300):ba Tryz.prog 271 [kg W,aa.lits ls] (.b (togetherK W ls)):=by
 intro H;refine b1.Nv (n:=10) Tryz.func271 rfl aM rfl rfl (λB I aO=>?_);refine bC ?_;refine au.cG rfl rfl rfl rfl (λtb=>?_);refine bz ?_;refine au.Ny (vs:=[.pointer (some ⟨tb,0,none⟩)]) rfl rfl rfl rfl rfl rfl ?_;refine aT ?_;refine dE .k (age ax (Bk hw) hn _ _) ?_;rintro y H1 ⟨bo,rfl,bE,rfl⟩;have ca:=agi ax bE;cases bX:togetherK W ls
 ·refine au.W3 rfl .k (agp ca hw bX _ _ bj) ?_;intro a w s;exact agr (s.weaken (st':=⟨_,.aI tb 4 [.b false]::H⟩) (λ_ _ h=>h) (List.sublist_cons_self _ _)) dJ
 ·refine dE .k (ago ca hw bX _ bj).b ?_;rintro y H1 ⟨rfl,rfl⟩;refine bs ?_;intro a w s;exact agq (s.weaken (st':=⟨_,.aI tb 4 [.b true]::H⟩) (λ_ _ h=>h) (List.sublist_cons_self _ _)) dJ
def TH(W:bb)(c:List cD):Prop:=(∀l∈c,n6 W l)/\c.length<=300
structure KV(W:bb)(f:Fact):Prop where
 ok:okB f=true
 nodes:ej f<=1000
 case:∀b,∀c∈fL f b,TH W c
noncomputable def canF (W:bb) (f:Fact):Bool:=(fL f false).any (togetherK W)
theorem agt{f:Fact}(h:∀y∈fL f false,togetherK W y=false):canF W f=false:=by
 rw[canF,List.any_eq_false];intro x ag;rw[h x ag];simp
theorem agu{f:Fact}{pre:List (List cD)}(aB:pre<+:fL f false){y:List cD}(hy:y∈pre)(h:togetherK W y=true):canF W f=true:=by
 rw[canF,List.any_eq_true];exact⟨y,aB.subset hy,h⟩
theorem agv(hw:dm W=true){f:Fact}(c8:KV W f):ba Tryz.prog 266 [kg W,aa.fact f] (.b (canF W f)):=by
 intro H;refine b1.rF (n:=14) Tryz.func266 rfl aM rfl rfl (λB I aO=>?_);refine bn ?_;refine aq.scope ?_;refine bC ?_;refine au.cG rfl rfl rfl rfl (λeC=>?_);refine bI ?_;refine aq.label ?_;refine bz ?_;refine aG (af.call .k ((afB _ _))) ?_;refine bg ?_;refine aq.weaken (st':=⟨[(2,.ptr [kg W]),(5,.p eC 0),(8,.fn (.func 272) [] [.ptr (ix f),.ptr [.b false]]),(3,.ptr (ix f))],[.aI eC 4 [.b false]]++H⟩) h2 b8 ?_;refine aq.rangeFunc (aa.lits) (fL f false) (λpre H1=>H1= [.aI eC 4 [.b false]]/\∀y∈pre,togetherK W y=false) (λcode pre H1=>code= .exit 0/\H1= [.aI eC 4 [.b true]]/\∃y∈pre,togetherK W y=true) ([.aI eC 4 [.b false]]) (H) (λx=>[(6,aa.lits x),(9,aa.lits x),(2,.ptr [kg W]),(5,.p eC 0),(8,.fn (.func 272) [] [.ptr (ix f),.ptr [.b false]]),(3,.ptr (ix f))]) rfl rfl rfl rfl (afD f c8.ok c8.nodes false) (⟨rfl,bj⟩) ?_ ?_ ?_ ?_
 ·intro eJ iY fA x c0;refine bg ?_;exact λa w s=>⟨_,rfl,s⟩
 ·intro eJ eK dw pre x H1 c0 iY fA e9 bF;obtain⟨rfl,wG⟩:=bF;obtain⟨my,agw⟩:=c8.case false x (e9.subset bj);refine bz ?_;refine aG (af.call .k (ags hw my agw)) ?_;refine bC ?_;refine aq.cond rfl (λai=>?_) (λai=>?_)
  ·have ai:=ai;refine bn ?_;exact aR.Wi b8 (⟨rfl,rfl,x,bj,ai⟩)
  ·have ai:=ai;refine bC ?_;exact aR.nA b8 (⟨rfl,λy hy=>by rcases List.mem_append.1 hy with hy | hy;exact wG y hy;simp at hy;subst hy;exact ai⟩)
 ·intro eK H1 bF;obtain⟨rfl,wG⟩:=bF;have ak:=agt wG;refine bS ?_;refine aR.x6 ?_;refine aR.C7 (rs:=[.tmp 4]) (H':=H) rfl ey (.tmp rfl (.nil)) (bO.refl _) b8 ?_;exact⟨bR (by rw[ak]),rfl⟩
 ·intro eK r2 pre H1 e9 k5;obtain⟨rfl,rfl,y,hy,yX⟩:=k5;have ak:=agu e9 hy yX
  ·refine c6 ?_;refine aR.x6 ?_;refine aR.C7 (rs:=[.tmp 4]) (H':=H) rfl ey (.tmp rfl (.nil)) (bO.refl _) b8 ?_;exact⟨bR (by rw[ak]),rfl⟩
end Go.Proofs.YtodccgailpkgeaaGreat

